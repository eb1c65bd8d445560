import PyProof.Rows.All
import Wide.All
import OpenK.AllK
import Wide.FinOn
import HandS.ForMost
import HandS.Lambda
import KE.KNestM
import HandS.TupAny
import HandS.TupLe
import HandS.IsInst
import HandS.StrMore
import HandS.Deep
import HandS.Style
import HandS.SortInts
import HandS.Ends
import KE.KSortTupG
import KE.GoesEnum
import KE.KItemsList
import HandS.Zip
import HandS.Strs
import HandS.Flt
import HandS.TupMul
import HandS.TupSets
import HandS.ListItems
import PyProof.ReprBulk
import PySem.Challenge.RW_lowland_k71_whole_levels_hour_by_hour
set_option Elab.async false
set_option linter.all false
set_option maxRecDepth 100000
set_option maxHeartbeats 4000000
/-! Mirror layer, part 1: plain data, what stands for it on the heap, frozen and owned parts, environments. -/
namespace MP
open PySem PySem.Spec L2

/-- the frame whose lambdas are about: its words' beginning, its cells -/
class LE where
  qual : Str
  cells : List (Str × Addr)
structure Wd where
  P : Program
  w : World
  K : PySem.W.Frag
  base : Heap
  mg : Str → Option Value
  le : LE
/-- a lambda made: its words, the cells that it captured, its code object -/
structure LF where
  qual : Str
  params : Arguments
  body : Expr
  scope : Scope
  cl : List (Str × Addr)
  c : Addr
abbrev LF.obj (L : LF) (pm ctv : Value) : Obj := PySem.W.kla_obj "<lambda>" L.qual L.params L.body L.scope L.cl pm L.c ctv
def LamO (f : Addr) (L : LF) : HO := .ext fun h => ∃ pm ctv : Value, h.get? f = some (L.obj pm ctv)

inductive D where
  | non
  | bl (b : Bool)
  | int (i : Int)
  | str (s : Str)
  | scr (ns : List Int)
  | tup (o : Bool) (xs : List D)
  | lst (o : Bool) (xs : List D)
  | dct (o : Bool) (ks : List Key) (xs : List D)
  | lam (e : Expr)
  | fn (c : Option Str) (ks : List Str) (xs : List D)
  deriving Inhabited

mutual
def D.frz : D → D
  | .tup _ xs => .tup false (frzL xs)
  | .lst _ xs => .lst false (frzL xs)
  | .dct _ ks xs => .dct false ks (frzL xs)
  | .lam e => .lam e
  | .fn c ks xs => .fn c ks xs
  | .non => .non
  | .bl b => .bl b
  | .int i => .int i
  | .str s => .str s
  | .scr ns => .scr ns
def frzL : List D → List D
  | [] => []
  | x :: xs => x.frz :: frzL xs
end
mutual
def D.frozen : D → Bool
  | .tup o xs => !o && frozenL xs
  | .lst o xs => !o && frozenL xs
  | .dct o _ xs => !o && frozenL xs
  | .lam _ => true
  | .fn _ _ _ => true
  | .non => true
  | .bl _ => true
  | .int _ => true
  | .str _ => true
  | .scr _ => true
def frozenL : List D → Bool
  | [] => true
  | x :: xs => x.frozen && frozenL xs
end
theorem frzL_map : ∀ xs : List D, frzL xs = xs.map D.frz
  | [] => rfl
  | x :: xs => by rw [frzL, frzL_map xs]; rfl
theorem frozenL_all : ∀ xs : List D, frozenL xs = xs.all D.frozen
  | [] => rfl
  | x :: xs => by rw [frozenL, frozenL_all xs]; rfl
mutual
theorem frz_of_frozen : ∀ d : D, d.frozen = true → d.frz = d
  | .tup o xs, h => by
    rw [D.frozen, Bool.and_eq_true, Bool.not_eq_true'] at h
    rw [D.frz, frzL_of_frozen xs h.2, h.1]
  | .lst o xs, h => by
    rw [D.frozen, Bool.and_eq_true, Bool.not_eq_true'] at h
    rw [D.frz, frzL_of_frozen xs h.2, h.1]
  | .dct o ks xs, h => by
    rw [D.frozen, Bool.and_eq_true, Bool.not_eq_true'] at h
    rw [D.frz, frzL_of_frozen xs h.2, h.1]
  | .lam _, _ => rfl
  | .fn _ _ _, _ => rfl
  | .non, _ => rfl
  | .bl _, _ => rfl
  | .int _, _ => rfl
  | .str _, _ => rfl
  | .scr _, _ => rfl
theorem frzL_of_frozen : ∀ xs : List D, frozenL xs = true → frzL xs = xs
  | [], _ => rfl
  | x :: xs, h => by
    rw [frozenL, Bool.and_eq_true] at h
    rw [frzL, frz_of_frozen x h.1, frzL_of_frozen xs h.2]
end
mutual
theorem frozen_frz : ∀ d : D, d.frz.frozen = true
  | .tup o xs => by rw [D.frz, D.frozen, frozenL_frzL xs]; rfl
  | .lst o xs => by rw [D.frz, D.frozen, frozenL_frzL xs]; rfl
  | .dct o ks xs => by rw [D.frz, D.frozen, frozenL_frzL xs]; rfl
  | .lam _ => rfl
  | .fn _ _ _ => rfl
  | .non => rfl
  | .bl _ => rfl
  | .int _ => rfl
  | .str _ => rfl
  | .scr _ => rfl
theorem frozenL_frzL : ∀ xs : List D, frozenL (frzL xs) = true
  | [] => rfl
  | x :: xs => by rw [frzL, frozenL, frozen_frz x, frozenL_frzL xs]; rfl
end

/-! ### what stands for data -/
def Fle (F H : Hp) : Prop := ∀ a o, F a = some o → H a = some o
theorem Fle.refl (F : Hp) : Fle F F := fun _ _ h => h
theorem Fle.trans {F G H : Hp} (a : Fle F G) (b : Fle G H) : Fle F H := fun x o h => b x o (a x o h)
theorem Fle.seqL {K : PySem.W.Frag} {F H : Hp} {a : Addr} {xs : List V} (e : Fle F H) (h : SqL K F a xs) : SqL K H a xs := Same.seq e h
theorem Fle.seqT {K : PySem.W.Frag} {F H : Hp} {a : Addr} {xs : List V} (e : Fle F H) (h : SqT K F a xs) : SqT K H a xs := by
  rcases h with (h | ⟨o, h⟩) | h
  · exact .inl (.inl (e _ _ h))
  · exact .inl (.inr ⟨o, e _ _ h⟩)
  · exact .inr h

/-! ### steps of the heap -/
/-- an object that may be owned -/
def Pl : HO → Prop
  | .lst _ => True
  | .tup _ => True
  | .dK _ => True
  | .dT _ => True
  | .set _ _ => True
  | _ => False
theorem Pl.nt {o : HO} (h : Pl o) : ∀ ps, o ≠ .tbl ps := fun ps e => by
  subst e
  exact h
theorem Pl.nc {o : HO} (h : Pl o) : ∀ c q, o ≠ LamX.CodeO c q := fun c q e => by
  subst e
  exact h
structure Good (F H : Hp) (as : List Addr) : Prop where
  le : Fle F H
  nd : as.Nodup
  off : ∀ a ∈ as, F a = none
  pl : ∀ a ∈ as, ∃ o, H a = some o ∧ Pl o
  nt : ∀ a ps, F a ≠ some (.tbl ps)
theorem Good.on {F H : Hp} {as : List Addr} (g : Good F H as) : ∀ a ∈ as, H a ≠ none := fun a z => by
  obtain ⟨o, e, _⟩ := g.pl a z
  rw [e]
  exact fun q => nomatch q
/-- a table of code objects, each of the name that is told -/
def TbO (H : Hp) (P : Addr) (q : Str) : Prop := LamX.TabS H P q
/-- from (F, H), owning as, to (F', H'), owning cs -/
structure Step (F H : Hp) (as : List Addr) (F' H' : Hp) (cs : List Addr) : Prop where
  good : Good F' H' cs
  ext : Fle F F'
  same : ∀ b o, H b = some o → b ∉ as → (∀ ps, o ≠ .tbl ps) → H' b = some o
  tabs : ∀ P q, TbO H P q → TbO H' P q
  keep : ∀ b, H b ≠ none → H' b ≠ none
  newF : ∀ b, F' b ≠ none → F b ≠ none ∨ b ∈ as ∨ H b = none
  newO : ∀ b ∈ cs, b ∈ as ∨ H b = none
/-- the function at a, called without arguments from any state over the base: it ends so -/
def Clo (U : Wd) (F : Hp) (a : Addr) (c : Option Str) (ks : List Str) (vs : List V) : Prop :=
  ∀ (A : Around) (outer : List Env) (s : Shared) (F1 H : Hp) (Q : VK) (E : XK), Room 60 A → Env0 U.P U.w U.K U.mg U.base A outer s H → Fle F F1 → Good F1 H [] →
    (c = none → ∀ v F' H', Step F1 H [] F' H' [] → Q v H') →
    (∀ n, c = some n → ∃ C, U.mg n = some (.ref C) ∧ ∀ dx F' H', Step F1 H [] F' H' [] → F' dx = some (.xd (ks.zip vs)) → E (.ref C) (some dx) H') →
    codeAny (model U.P U.w) A (.call (.ref a) ⟨[], []⟩) (CR (L2.CX U.P U.w) outer U.P U.w H s Q E) s
theorem Clo.mono {U : Wd} {F F' : Hp} {a : Addr} {c : Option Str} {ks : List Str} {vs : List V} (h : Clo U F a c ks vs) (e : Fle F F') : Clo U F' a c ks vs :=
  fun A outer s F1 H Q E hr e0 l => h A outer s F1 H Q E hr e0 (e.trans l)
mutual
/-- v stands for d: frozen parts in F, owned ones in H at the addresses of the list -/
inductive Rp (U : Wd) (F H : Hp) : V → D → List Addr → Prop where
  | non : Rp U F H .non .non []
  | bl (b : Bool) : Rp U F H (.bl b) (.bl b) []
  | int (i : Int) : Rp U F H (.int i) (.int i) []
  | str (s : Str) : Rp U F H (.str s) (.str s) []
  | scr {a : Addr} {ns : List Int} : SqL U.K F a (ns.map V.int) → Rp U F H (.ref a) (.scr ns) []
  | tupS {a : Addr} {vs : List V} {ds : List D} : SqT U.K F a vs → RpL U F H vs ds [] → Rp U F H (.ref a) (.tup false ds) []
  | tupO {a : Addr} {vs : List V} {ds : List D} {as : List Addr} : H a = some (.tup vs) → RpL U F H vs ds as → Rp U F H (.ref a) (.tup true ds) (a :: as)
  | lstS {a : Addr} {vs : List V} {ds : List D} : F a = some (.lst vs) → RpL U F H vs ds [] → Rp U F H (.ref a) (.lst false ds) []
  | lstO {a : Addr} {vs : List V} {ds : List D} {as : List Addr} : H a = some (.lst vs) → RpL U F H vs ds as → Rp U F H (.ref a) (.lst true ds) (a :: as)
  | dctS {a : Addr} {kvs : List (Key × V)} {ds : List D} : F a = some (.dK kvs) → RpL U F H (kvs.map (·.2)) ds [] → Rp U F H (.ref a) (.dct false (kvs.map (·.1)) ds) []
  | dctO {a : Addr} {kvs : List (Key × V)} {ds : List D} {as : List Addr} : H a = some (.dK kvs) → RpL U F H (kvs.map (·.2)) ds as → Rp U F H (.ref a) (.dct true (kvs.map (·.1)) ds) (a :: as)
  | lam {a c : Addr} {params : Arguments} {body : Expr} {scope : Scope} {pos : Pos} : F a = some (LamO a ⟨U.le.qual ++ "<lambda>", params, body, scope, cloFrom U.le.cells scope.names [], c⟩) → F c = some (LamX.CodeO c (U.le.qual ++ "<lambda>")) → Rp U F H (.ref a) (.lam (.Lambda params body scope pos)) []
  | fn {a : Addr} {c : Option Str} {ks : List Str} {vs : List V} {xs : List D} : Clo U F a c ks vs → RpL U F H vs xs [] → Rp U F H (.ref a) (.fn c ks xs) []
inductive RpL (U : Wd) (F H : Hp) : List V → List D → List Addr → Prop where
  | nil : RpL U F H [] [] []
  | cons {v : V} {d : D} {vs : List V} {ds : List D} {as bs : List Addr} : Rp U F H v d as → RpL U F H vs ds bs → RpL U F H (v :: vs) (d :: ds) (as ++ bs)
end
section
variable {U : Wd} {F F' H H' : Hp}
mutual
theorem Rp.mono (hF : Fle F F') : ∀ {v : V} {d : D} {as : List Addr}, Rp U F H v d as → (∀ a ∈ as, H' a = H a) → Rp U F' H' v d as
  | _, _, _, .non, _ => .non
  | _, _, _, .bl b, _ => .bl b
  | _, _, _, .int i, _ => .int i
  | _, _, _, .str s, _ => .str s
  | _, _, _, .scr h, _ => .scr (hF.seqL h)
  | _, _, _, .tupS h l, _ => .tupS (hF.seqT h) (RpL.mono hF l fun _ z => nomatch z)
  | _, _, _, .tupO h l, k => .tupO ((k _ (.head _)).trans h) (RpL.mono hF l fun a z => k a (.tail _ z))
  | _, _, _, .lstS h l, _ => .lstS (hF _ _ h) (RpL.mono hF l fun _ z => nomatch z)
  | _, _, _, .lstO h l, k => .lstO ((k _ (.head _)).trans h) (RpL.mono hF l fun a z => k a (.tail _ z))
  | _, _, _, .dctS h l, _ => .dctS (hF _ _ h) (RpL.mono hF l fun _ z => nomatch z)
  | _, _, _, .dctO h l, k => .dctO ((k _ (.head _)).trans h) (RpL.mono hF l fun a z => k a (.tail _ z))
  | _, _, _, .lam h l, _ => .lam (hF _ _ h) (hF _ _ l)
  | _, _, _, .fn h l, _ => .fn (h.mono hF) (RpL.mono hF l fun _ z => nomatch z)
theorem RpL.mono (hF : Fle F F') : ∀ {vs : List V} {ds : List D} {as : List Addr}, RpL U F H vs ds as → (∀ a ∈ as, H' a = H a) → RpL U F' H' vs ds as
  | _, _, _, .nil, _ => .nil
  | _, _, _, .cons h t, k => .cons (Rp.mono hF h fun a z => k a (List.mem_append_left _ z)) (RpL.mono hF t fun a z => k a (List.mem_append_right _ z))
end
theorem Rp.mono0 (hF : Fle F F') {v : V} {d : D} (h : Rp U F H v d []) : Rp U F' H' v d [] := h.mono hF fun _ z => nomatch z
theorem RpL.mono0 (hF : Fle F F') {vs : List V} {ds : List D} (h : RpL U F H vs ds []) : RpL U F' H' vs ds [] := h.mono hF fun _ z => nomatch z
theorem RpL.len : ∀ {vs : List V} {ds : List D} {as : List Addr}, RpL U F H vs ds as → vs.length = ds.length
  | _, _, _, .nil => rfl
  | _, _, _, .cons _ t => by rw [List.length_cons, List.length_cons, t.len]
mutual
/-- owned addresses are tracked -/
theorem Rp.there : ∀ {v : V} {d : D} {as : List Addr}, Rp U F H v d as → ∀ a ∈ as, H a ≠ none
  | _, _, _, .tupO h l, a, z => by
    rcases List.mem_cons.mp z with rfl | z
    · rw [h]; exact fun q => nomatch q
    · exact RpL.there l a z
  | _, _, _, .lstO h l, a, z => by
    rcases List.mem_cons.mp z with rfl | z
    · rw [h]; exact fun q => nomatch q
    · exact RpL.there l a z
  | _, _, _, .dctO h l, a, z => by
    rcases List.mem_cons.mp z with rfl | z
    · rw [h]; exact fun q => nomatch q
    · exact RpL.there l a z
  | _, _, _, .non, _, z => nomatch z
  | _, _, _, .bl _, _, z => nomatch z
  | _, _, _, .int _, _, z => nomatch z
  | _, _, _, .str _, _, z => nomatch z
  | _, _, _, .scr _, _, z => nomatch z
  | _, _, _, .tupS _ _, _, z => nomatch z
  | _, _, _, .lstS _ _, _, z => nomatch z
  | _, _, _, .dctS _ _, _, z => nomatch z
  | _, _, _, .lam _ _, _, z => nomatch z
  | _, _, _, .fn _ _, _, z => nomatch z
theorem RpL.there : ∀ {vs : List V} {ds : List D} {as : List Addr}, RpL U F H vs ds as → ∀ a ∈ as, H a ≠ none
  | _, _, _, .nil, _, z => nomatch z
  | _, _, _, .cons h t, a, z => by
    rcases List.mem_append.mp z with z | z
    · exact Rp.there h a z
    · exact RpL.there t a z
end
mutual
theorem Rp.frozen : ∀ {v : V} {d : D} {as : List Addr}, Rp U F H v d as → (d.frozen = true ↔ as = [])
  | _, _, _, .non => by simp [D.frozen]
  | _, _, _, .bl _ => by simp [D.frozen]
  | _, _, _, .int _ => by simp [D.frozen]
  | _, _, _, .str _ => by simp [D.frozen]
  | _, _, _, .scr _ => by simp [D.frozen]
  | _, _, _, .tupS _ l => by simp [D.frozen, (RpL.frozen l).mpr rfl]
  | _, _, _, .tupO _ l => by simp [D.frozen]
  | _, _, _, .lstS _ l => by simp [D.frozen, (RpL.frozen l).mpr rfl]
  | _, _, _, .lstO _ l => by simp [D.frozen]
  | _, _, _, .dctS _ l => by simp [D.frozen, (RpL.frozen l).mpr rfl]
  | _, _, _, .dctO _ l => by simp [D.frozen]
  | _, _, _, .lam _ _ => by simp [D.frozen]
  | _, _, _, .fn _ _ => by simp [D.frozen]
theorem RpL.frozen : ∀ {vs : List V} {ds : List D} {as : List Addr}, RpL U F H vs ds as → (frozenL ds = true ↔ as = [])
  | _, _, _, .nil => by simp [frozenL]
  | _, _, _, .cons h t => by rw [frozenL, Bool.and_eq_true, Rp.frozen h, RpL.frozen t, List.append_eq_nil_iff]
end
theorem Rp.nil_of {v : V} {d : D} {as : List Addr} (h : Rp U F H v d as) (hf : d.frozen = true) : as = [] := h.frozen.mp hf
mutual
/-- what is owned, frozen: F' has it too -/
theorem Rp.freeze (hF : Fle F F') : ∀ {v : V} {d : D} {as : List Addr}, Rp U F H v d as → (∀ a ∈ as, F' a = H a) → Rp U F' H' v d.frz []
  | _, _, _, .non, _ => .non
  | _, _, _, .bl b, _ => .bl b
  | _, _, _, .int i, _ => .int i
  | _, _, _, .str s, _ => .str s
  | _, _, _, .scr h, _ => .scr (hF.seqL h)
  | _, _, _, .tupS h l, _ => .tupS (hF.seqT h) (RpL.freeze hF l fun _ z => nomatch z)
  | _, _, _, .tupO h l, k => .tupS (.inl (.inl ((k _ (.head _)).trans h))) (RpL.freeze hF l fun a z => k a (.tail _ z))
  | _, _, _, .lstS h l, _ => .lstS (hF _ _ h) (RpL.freeze hF l fun _ z => nomatch z)
  | _, _, _, .lstO h l, k => .lstS ((k _ (.head _)).trans h) (RpL.freeze hF l fun a z => k a (.tail _ z))
  | _, _, _, .dctS h l, _ => .dctS (hF _ _ h) (RpL.freeze hF l fun _ z => nomatch z)
  | _, _, _, .dctO h l, k => .dctS ((k _ (.head _)).trans h) (RpL.freeze hF l fun a z => k a (.tail _ z))
  | _, _, _, .lam h l, _ => .lam (hF _ _ h) (hF _ _ l)
  | _, _, _, .fn h l, _ => .fn (h.mono hF) (RpL.mono hF l fun _ z => nomatch z)
theorem RpL.freeze (hF : Fle F F') : ∀ {vs : List V} {ds : List D} {as : List Addr}, RpL U F H vs ds as → (∀ a ∈ as, F' a = H a) → RpL U F' H' vs (frzL ds) []
  | _, _, _, .nil, _ => .nil
  | _, _, _, .cons h t, k => .cons (as := []) (bs := []) (Rp.freeze hF h fun a z => k a (List.mem_append_left _ z)) (RpL.freeze hF t fun a z => k a (List.mem_append_right _ z))
end

/-! ### frozen rows by place -/
theorem RpL.cons0 {v : V} {d : D} {vs : List V} {ds : List D} (h : Rp U F H v d []) (t : RpL U F H vs ds []) : RpL U F H (v :: vs) (d :: ds) [] := .cons (as := []) (bs := []) h t
theorem RpL.uncons0 {v : V} {d : D} {vs : List V} {ds : List D} (h : RpL U F H (v :: vs) (d :: ds) []) : Rp U F H v d [] ∧ RpL U F H vs ds [] := by
  generalize e : ([] : List Addr) = z at h
  cases h with
  | @cons v d vs ds as bs h t =>
    obtain ⟨e1, e2⟩ := List.append_eq_nil_iff.mp e.symm
    subst e1 e2
    exact ⟨h, t⟩
theorem RpL.at0 : ∀ {vs : List V} {ds : List D}, RpL U F H vs ds [] ↔ vs.length = ds.length ∧ ∀ (i : Nat) (v : V) (d : D), vs[i]? = some v → ds[i]? = some d → Rp U F H v d []
  | [], [] => ⟨fun _ => ⟨rfl, fun i v d h => by simp at h⟩, fun _ => .nil⟩
  | [], d :: ds => ⟨fun h => absurd h.len (by simp), fun h => absurd h.1 (by simp)⟩
  | v :: vs, [] => ⟨fun h => absurd h.len (by simp), fun h => absurd h.1 (by simp)⟩
  | v :: vs, d :: ds => by
    refine ⟨fun h => ?_, fun h => ?_⟩
    · obtain ⟨h1, h2⟩ := h.uncons0
      obtain ⟨l, q⟩ := RpL.at0.mp h2
      refine ⟨by rw [List.length_cons, List.length_cons, l], fun i v' d' a b => ?_⟩
      cases i with
      | zero =>
        simp only [List.getElem?_cons_zero, Option.some.injEq] at a b
        subst a b
        exact h1
      | succ i =>
        simp only [List.getElem?_cons_succ] at a b
        exact q i v' d' a b
    · obtain ⟨l, q⟩ := h
      exact .cons0 (q 0 v d rfl rfl) (RpL.at0.mpr ⟨by simpa using l, fun i v' d' a b => q (i + 1) v' d' (by simpa using a) (by simpa using b)⟩)
theorem RpL.get0 {vs : List V} {ds : List D} (h : RpL U F H vs ds []) {i : Nat} {d : D} (e : ds[i]? = some d) : ∃ v, vs[i]? = some v ∧ Rp U F H v d [] := by
  obtain ⟨l, q⟩ := RpL.at0.mp h
  have hi : i < vs.length := by
    rw [l]
    exact (List.getElem?_eq_some_iff.mp e).1
  exact ⟨vs[i], List.getElem?_eq_getElem hi, q i _ _ (List.getElem?_eq_getElem hi) e⟩
theorem RpL.app : ∀ {vs : List V} {ds : List D} {as : List Addr} {ws : List V} {es : List D} {bs : List Addr}, RpL U F H vs ds as → RpL U F H ws es bs → RpL U F H (vs ++ ws) (ds ++ es) (as ++ bs)
  | _, _, _, _, _, _, .nil, h => h
  | _, _, _, _, _, _, .cons h t, k => by
    rw [List.append_assoc]
    exact .cons h (RpL.app t k)
theorem RpL.app0 {vs : List V} {ds : List D} {ws : List V} {es : List D} (h : RpL U F H vs ds []) (k : RpL U F H ws es []) : RpL U F H (vs ++ ws) (ds ++ es) [] := h.app k
theorem RpL.one {v : V} {d : D} {as : List Addr} (h : Rp U F H v d as) : RpL U F H [v] [d] as := by
  have q := RpL.cons h (.nil (U := U) (F := F) (H := H))
  rw [List.append_nil] at q
  exact q
theorem RpL.take0 {vs : List V} {ds : List D} (n : Nat) (h : RpL U F H vs ds []) : RpL U F H (vs.take n) (ds.take n) [] := by
  obtain ⟨l, q⟩ := RpL.at0.mp h
  refine RpL.at0.mpr ⟨by rw [List.length_take, List.length_take, l], fun i v d a b => ?_⟩
  rw [List.getElem?_take] at a b
  split at a
  · rename_i hi
    rw [if_pos hi] at b
    exact q i v d a b
  · cases a
theorem RpL.drop0 {vs : List V} {ds : List D} (n : Nat) (h : RpL U F H vs ds []) : RpL U F H (vs.drop n) (ds.drop n) [] := by
  obtain ⟨l, q⟩ := RpL.at0.mp h
  refine RpL.at0.mpr ⟨by rw [List.length_drop, List.length_drop, l], fun i v d a b => ?_⟩
  rw [List.getElem?_drop] at a b
  exact q _ v d a b
theorem RpL.rev0 {vs : List V} {ds : List D} (h : RpL U F H vs ds []) : RpL U F H vs.reverse ds.reverse [] := by
  obtain ⟨l, q⟩ := RpL.at0.mp h
  refine RpL.at0.mpr ⟨by rw [List.length_reverse, List.length_reverse, l], fun i v d a b => ?_⟩
  have hi : i < vs.length := by
    have := (List.getElem?_eq_some_iff.mp a).1
    simpa using this
  rw [List.getElem?_reverse hi] at a
  rw [List.getElem?_reverse (by omega)] at b
  rw [l] at a
  exact q _ v d a b
theorem RpL.set0 {vs : List V} {ds : List D} {v : V} {d : D} (i : Nat) (h : RpL U F H vs ds []) (hv : Rp U F H v d []) : RpL U F H (vs.set i v) (ds.set i d) [] := by
  obtain ⟨l, q⟩ := RpL.at0.mp h
  refine RpL.at0.mpr ⟨by rw [List.length_set, List.length_set, l], fun j v' d' a b => ?_⟩
  by_cases e : i = j
  · subst e
    rw [List.getElem?_set] at a b
    rw [if_pos rfl] at a b
    split at a
    · split at b
      · cases a
        cases b
        exact hv
      · cases b
    · cases a
  · rw [List.getElem?_set_ne e] at a b
    exact q j v' d' a b
theorem RpL.ints : ∀ (ns : List Int), RpL U F H (ns.map V.int) (ns.map D.int) []
  | [] => .nil
  | n :: ns => .cons0 (.int n) (RpL.ints ns)
end

/-! ### environments -/
abbrev En := List (Option D)
abbrev Sl := List (Option V)
inductive RpE (U : Wd) (F H : Hp) : Sl → En → List Addr → Prop where
  | nil : RpE U F H [] [] []
  | nn {s : Option V} {σ : Sl} {E : En} {as : List Addr} : RpE U F H σ E as → RpE U F H (s :: σ) (none :: E) as
  | sm {v : V} {d : D} {σ : Sl} {E : En} {as bs : List Addr} : Rp U F H v d as → RpE U F H σ E bs → RpE U F H (some v :: σ) (some d :: E) (as ++ bs)
def REnv (U : Wd) (F H : Hp) (σ : Sl) (E : En) (as : List Addr) : Prop := ∃ as0, RpE U F H σ E as0 ∧ as0.Perm as
section
variable {U : Wd} {F F' H H' : Hp} {σ : Sl} {E : En} {as bs : List Addr} {i : Nat} {v : V} {d : D}
theorem RpE.mono (hF : Fle F F') : ∀ {σ : Sl} {E : En} {as : List Addr}, RpE U F H σ E as → (∀ a ∈ as, H' a = H a) → RpE U F' H' σ E as
  | _, _, _, .nil, _ => .nil
  | _, _, _, .nn t, k => .nn (RpE.mono hF t k)
  | _, _, _, .sm h t, k => .sm (h.mono hF fun a z => k a (List.mem_append_left _ z)) (RpE.mono hF t fun a z => k a (List.mem_append_right _ z))
theorem RpE.len : ∀ {σ : Sl} {E : En} {as : List Addr}, RpE U F H σ E as → σ.length = E.length
  | _, _, _, .nil => rfl
  | _, _, _, .nn t => by rw [List.length_cons, List.length_cons, t.len]
  | _, _, _, .sm _ t => by rw [List.length_cons, List.length_cons, t.len]
theorem RpE.take : ∀ {σ : Sl} {E : En} {as : List Addr} {i : Nat} {d : D}, RpE U F H σ E as → E[i]? = some (some d) → ∃ v a1 rest, σ[i]? = some (some v) ∧ Rp U F H v d a1 ∧ as.Perm (a1 ++ rest) ∧ RpE U F H σ (E.set i none) rest
  | _, _, _, _, _, .nil, e => by simp at e
  | _, _, _, 0, d, .nn t, e => by simp at e
  | _, _, _, 0, d, .sm (as := as) (bs := bs) h t, e => by
    simp only [List.getElem?_cons_zero, Option.some.injEq] at e
    subst e
    exact ⟨_, as, bs, rfl, h, List.Perm.refl _, .nn t⟩
  | _, _, _, i + 1, d, .nn t, e => by
    obtain ⟨v, a1, rest, h1, h2, h3, h4⟩ := RpE.take (i := i) (d := d) t (by simpa using e)
    exact ⟨v, a1, rest, by simpa using h1, h2, h3, .nn h4⟩
  | _, _, _, i + 1, d, .sm (as := as) (bs := bs) h t, e => by
    obtain ⟨v, a1, rest, h1, h2, h3, h4⟩ := RpE.take (i := i) (d := d) t (by simpa using e)
    refine ⟨v, a1, as ++ rest, by simpa using h1, h2, ?_, .sm h h4⟩
    refine (h3.append_left as).trans ?_
    rw [← List.append_assoc, ← List.append_assoc]
    exact List.perm_append_comm.append_right rest
theorem RpE.put : ∀ {σ : Sl} {E : En} {as : List Addr} {i : Nat}, RpE U F H σ E as → E[i]? = some none → ∀ {v : V} {d : D} {a1 : List Addr}, Rp U F H v d a1 → ∃ as0, RpE U F H (σ.set i (some v)) (E.set i (some d)) as0 ∧ as0.Perm (a1 ++ as)
  | _, _, _, _, .nil, e, _, _, _, _ => by simp at e
  | _, _, _, 0, .nn t, e, _, _, _, h => ⟨_, .sm h t, List.Perm.refl _⟩
  | _, _, _, 0, .sm _ t, e, _, _, _, h => by simp at e
  | _, _, _, i + 1, .nn t, e, _, _, _, h => by
    obtain ⟨as0, h1, h2⟩ := RpE.put (i := i) t (by simpa using e) h
    exact ⟨as0, .nn h1, h2⟩
  | _, _, _, i + 1, .sm (as := as) (bs := bs) q t, e, _, _, a1, h => by
    obtain ⟨as0, h1, h2⟩ := RpE.put (i := i) t (by simpa using e) h
    refine ⟨as ++ as0, .sm q h1, ?_⟩
    refine (h2.append_left as).trans ?_
    rw [← List.append_assoc, ← List.append_assoc]
    exact List.perm_append_comm.append_right bs
theorem RpE.anyσ : ∀ {σ : Sl} {E : En} {as : List Addr} {i : Nat}, RpE U F H σ E as → (E[i]? = some none ∨ E[i]? = none) → ∀ s : Option V, RpE U F H (σ.set i s) E as
  | _, _, _, _, .nil, _, _ => .nil
  | _, _, _, 0, .nn t, _, _ => .nn t
  | _, _, _, 0, .sm _ t, e, _ => by simp at e
  | _, _, _, i + 1, .nn t, e, s => .nn (RpE.anyσ (i := i) t (by simpa using e) s)
  | _, _, _, i + 1, .sm q t, e, s => .sm q (RpE.anyσ (i := i) t (by simpa using e) s)
theorem RpE.there : ∀ {σ : Sl} {E : En} {as : List Addr}, RpE U F H σ E as → ∀ a ∈ as, H a ≠ none
  | _, _, _, .nil, _, z => nomatch z
  | _, _, _, .nn t, a, z => RpE.there t a z
  | _, _, _, .sm h t, a, z => by
    rcases List.mem_append.mp z with z | z
    · exact Rp.there h a z
    · exact RpE.there t a z
theorem REnv.mono (hF : Fle F F') (h : REnv U F H σ E as) (k : ∀ a ∈ as, H' a = H a) : REnv U F' H' σ E as := by
  obtain ⟨as0, h, p⟩ := h
  exact ⟨as0, h.mono hF fun a z => k a (p.mem_iff.mp z), p⟩
theorem REnv.len (h : REnv U F H σ E as) : σ.length = E.length := by
  obtain ⟨as0, h, p⟩ := h
  exact h.len
theorem REnv.perm (h : REnv U F H σ E as) (p : as.Perm bs) : REnv U F H σ E bs := by
  obtain ⟨as0, h, q⟩ := h
  exact ⟨as0, h, q.trans p⟩
theorem REnv.there (h : REnv U F H σ E as) : ∀ a ∈ as, H a ≠ none := by
  obtain ⟨as0, h, p⟩ := h
  exact fun a z => h.there a (p.mem_iff.mpr z)
theorem REnv.take (h : REnv U F H σ E as) (e : E[i]? = some (some d)) : ∃ v a1 rest, σ[i]? = some (some v) ∧ Rp U F H v d a1 ∧ as.Perm (a1 ++ rest) ∧ REnv U F H σ (E.set i none) rest := by
  obtain ⟨as0, h, p⟩ := h
  obtain ⟨v, a1, rest, h1, h2, h3, h4⟩ := h.take e
  exact ⟨v, a1, rest, h1, h2, p.symm.trans h3, rest, h4, List.Perm.refl _⟩
theorem REnv.put {a1 : List Addr} (h : REnv U F H σ E as) (e : E[i]? = some none) (q : Rp U F H v d a1) : REnv U F H (σ.set i (some v)) (E.set i (some d)) (a1 ++ as) := by
  obtain ⟨as0, h, p⟩ := h
  obtain ⟨as1, h1, h2⟩ := h.put e q
  exact ⟨as1, h1, h2.trans (p.append_left a1)⟩
theorem set_self {σ : Sl} {i : Nat} {s : Option V} (h : σ[i]? = some s) : σ.set i s = σ := by
  apply List.ext_getElem?
  intro j
  by_cases e : i = j
  · subst e
    obtain ⟨hl, _⟩ := List.getElem?_eq_some_iff.mp h
    rw [List.getElem?_set_self hl, h]
  · rw [List.getElem?_set_ne e]
/-- put where the slot already holds the value -/
theorem REnv.putS {a1 : List Addr} (h : REnv U F H σ E as) (e : E[i]? = some none) (s : σ[i]? = some (some v)) (q : Rp U F H v d a1) : REnv U F H σ (E.set i (some d)) (a1 ++ as) := by
  have := h.put e q
  rw [set_self s] at this
  exact this
theorem REnv.anyσ (h : REnv U F H σ E as) (e : E[i]? = some none ∨ E[i]? = none) (s : Option V) : REnv U F H (σ.set i s) E as := by
  obtain ⟨as0, h, p⟩ := h
  exact ⟨as0, h.anyσ e s, p⟩
/-- forget a slot -/
theorem REnv.drop (h : REnv U F H σ E as) (i : Nat) : ∃ a1 rest, as.Perm (a1 ++ rest) ∧ REnv U F H σ (E.set i none) rest := by
  match e : E[i]? with
  | none =>
    have : E.set i none = E := by
      rw [List.set_eq_of_length_le]
      exact List.getElem?_eq_none_iff.mp e
    exact ⟨[], as, List.Perm.refl _, by rw [this]; exact h⟩
  | some none =>
    have : E.set i none = E := by
      apply List.ext_getElem?
      intro j
      by_cases q : i = j
      · subst q
        obtain ⟨hl, _⟩ := List.getElem?_eq_some_iff.mp e
        rw [List.getElem?_set_self hl, e]
      · rw [List.getElem?_set_ne q]
    exact ⟨[], as, List.Perm.refl _, by rw [this]; exact h⟩
  | some (some d) =>
    obtain ⟨v, a1, rest, _, _, p, q⟩ := h.take e
    exact ⟨a1, rest, p, q⟩
theorem set_none_get {E : En} {i : Nat} (h : i < E.length) : (E.set i none)[i]? = some none := by rw [List.getElem?_set_self h]
/-- a store: the old value forgotten -/
theorem REnv.store {a1 : List Addr} (h : REnv U F H σ E as) (hi : i < E.length) (q : Rp U F H v d a1) : ∃ a0 rest, as.Perm (a0 ++ rest) ∧ REnv U F H (σ.set i (some v)) (E.set i (some d)) (a1 ++ rest) := by
  obtain ⟨a0, rest, p, r⟩ := h.drop i
  refine ⟨a0, rest, p, ?_⟩
  have := r.put (set_none_get hi) q
  rw [List.set_set] at this
  exact this
end

section
variable {F F1 F2 F' H H1 H2 H' : Hp} {as as1 bs cs ds : List Addr}
theorem Good.sub (g : Good F H as) (h : ∀ b ∈ bs, b ∈ as) (nd : bs.Nodup) : Good F H bs := ⟨g.le, nd, fun a z => g.off a (h a z), fun a z => g.pl a (h a z), g.nt⟩
theorem Good.perm (g : Good F H as) (p : as.Perm bs) : Good F H bs := g.sub (fun b z => p.mem_iff.mpr z) (p.nodup_iff.mp g.nd)
theorem Step.refl (g : Good F H as) : Step F H as F H as := ⟨g, Fle.refl F, fun _ _ h _ _ => h, fun _ _ h => h, fun _ h => h, fun _ h => .inl h, fun _ h => .inl h⟩
theorem Step.sub (s : Step F H as F' H' cs) (h : ∀ b ∈ ds, b ∈ cs) (nd : ds.Nodup) : Step F H as F' H' ds := ⟨s.good.sub h nd, s.ext, s.same, s.tabs, s.keep, s.newF, fun b z => s.newO b (h b z)⟩
theorem Step.perm (s : Step F H as F' H' cs) (p : cs.Perm ds) : Step F H as F' H' ds := s.sub (fun b z => p.mem_iff.mpr z) (p.nodup_iff.mp s.good.nd)
theorem Step.right (s : Step F H as F' H' (bs ++ cs)) : Step F H as F' H' cs := s.sub (fun b z => List.mem_append_right _ z) (List.nodup_append.mp s.good.nd).2.1
theorem Step.left (s : Step F H as F' H' (bs ++ cs)) : Step F H as F' H' bs := s.sub (fun b z => List.mem_append_left _ z) (List.nodup_append.mp s.good.nd).1
/-- from a start with more -/
theorem Step.start (s : Step F H as F' H' cs) (h : ∀ b ∈ as, b ∈ bs) (hb : ∀ b ∈ bs, H b ≠ none) : Step F H bs F' H' cs :=
  ⟨s.good, s.ext, fun b o e z n => s.same b o e (fun q => z (h b q)) n, s.tabs, s.keep, fun b z => (s.newF b z).imp_right fun q => q.imp_left (h b), fun b z => (s.newO b z).imp_left (h b)⟩
theorem Step.permS (s : Step F H as F' H' cs) (p : as.Perm bs) : Step F H bs F' H' cs :=
  ⟨s.good, s.ext, fun b o e z n => s.same b o e (fun q => z (p.mem_iff.mp q)) n, s.tabs, s.keep, fun b z => (s.newF b z).imp_right fun q => q.imp_left p.mem_iff.mp, fun b z => (s.newO b z).imp_left p.mem_iff.mp⟩
/-- one step behind another, bs waiting meanwhile -/
theorem Step.seq (s : Step F H as F1 H1 (bs ++ as1)) (t : Step F1 H1 as1 F2 H2 cs) : Step F H as F2 H2 (bs ++ cs) := by
  have nd := List.nodup_append.mp s.good.nd
  have off1 : ∀ b ∈ bs, b ∉ as1 := fun b z q => nd.2.2 b z b q rfl
  refine ⟨⟨t.good.le, ?_, fun a z => ?_, fun a z => ?_, t.good.nt⟩, s.ext.trans t.ext, fun b o e z n => ?_, fun P q h => t.tabs P q (s.tabs P q h), fun b z => t.keep b (s.keep b z), fun b z => ?_, fun b z => ?_⟩
  · refine List.nodup_append.mpr ⟨nd.1, t.good.nd, fun a z b q e => ?_⟩
    subst e
    rcases t.newO a q with r | r
    · exact off1 a z r
    · exact s.good.on a (List.mem_append_left _ z) r
  · rcases List.mem_append.mp z with z | z
    · refine Classical.byContradiction fun q => ?_
      rcases t.newF a q with r | r | r
      · exact r (s.good.off a (List.mem_append_left _ z))
      · exact off1 a z r
      · exact s.good.on a (List.mem_append_left _ z) r
    · exact t.good.off a z
  · rcases List.mem_append.mp z with z | z
    · obtain ⟨o, e, pl⟩ := s.good.pl a (List.mem_append_left _ z)
      exact ⟨o, t.same a o e (off1 a z) pl.nt, pl⟩
    · exact t.good.pl a z
  · refine t.same b o (s.same b o e z n) (fun q => ?_) n
    rcases s.newO b (List.mem_append_right _ q) with r | r
    · exact z r
    · rw [e] at r
      cases r
  · rcases t.newF b z with r | r | r
    · exact s.newF b r
    · exact .inr (s.newO b (List.mem_append_right _ r))
    · refine .inr (.inr (Classical.byContradiction fun q => s.keep b q r))
  · rcases List.mem_append.mp z with z | z
    · exact s.newO b (List.mem_append_left _ z)
    · rcases t.newO b z with r | r
      · exact s.newO b (List.mem_append_right _ r)
      · refine .inr (Classical.byContradiction fun q => s.keep b q r)
theorem Step.trans (s : Step F H as F1 H1 as1) (t : Step F1 H1 as1 F2 H2 cs) : Step F H as F2 H2 cs := Step.seq (bs := []) s t
/-- a step that owns nothing at its start, with what waits -/
theorem Step.frame (t : Step F H [] F' H' cs) (g : Good F H bs) : Step F H bs F' H' (bs ++ cs) :=
  Step.seq (bs := bs) (as1 := []) ⟨by rw [List.append_nil]; exact g, Fle.refl F, fun _ _ h _ _ => h, fun _ _ h => h, fun _ h => h, fun _ h => .inl h, fun _ h => .inl (by simpa using h)⟩ t
/-- owned addresses that wait are as they were -/
theorem Step.kept (s : Step F H as F' H' cs) {b : Addr} (hb : ∃ o, H b = some o ∧ Pl o) (hn : b ∉ as) : H' b = H b := by
  obtain ⟨o, e, pl⟩ := hb
  rw [e]
  exact s.same b o e hn pl.nt
theorem Step.wait (s : Step F H as F1 H1 (bs ++ as1)) (t : Step F1 H1 as1 F2 H2 cs) : ∀ b ∈ bs, H2 b = H1 b := fun b z =>
  t.kept (s.good.pl b (List.mem_append_left _ z)) fun q => (List.nodup_append.mp s.good.nd).2.2 b z b q rfl
/-- what is tracked by an owner is frozen -/
theorem Step.freeze (g : Good F H (as ++ bs)) : Step F H (as ++ bs) (fun b => if b ∈ as then H b else F b) H bs := by
  have nd := List.nodup_append.mp g.nd
  refine ⟨⟨fun a o e => ?_, nd.2.1, fun a z => ?_, fun a z => g.pl a (List.mem_append_right _ z), fun a ps e => ?_⟩, fun a o e => ?_, fun _ _ h _ _ => h, fun _ _ h => h, fun _ h => h, fun b z => ?_, fun b z => .inl (List.mem_append_right _ z)⟩
  · by_cases h : a ∈ as
    · simpa [h] using e
    · exact g.le a o (by simpa [h] using e)
  · have : a ∉ as := fun q => nd.2.2 a q a z rfl
    simp only [this, if_false]
    exact g.off a (List.mem_append_right _ z)
  · by_cases h : a ∈ as
    · obtain ⟨o, e1, pl⟩ := g.pl a (List.mem_append_left _ h)
      simp only [h, if_true] at e
      rw [e1] at e
      cases e
      exact pl
    · simp only [h, if_false] at e
      exact g.nt a ps e
  · by_cases h : a ∈ as
    · rw [g.off a (List.mem_append_left _ h)] at e
      cases e
    · simp only [h, if_false]
      exact e
  · by_cases h : b ∈ as
    · exact .inr (.inl (List.mem_append_left _ h))
    · simp only [h, if_false] at z
      exact .inl z
/-- a new owned object -/
theorem Step.alloc {p : Addr} {o : HO} (g : Good F H []) (hp : H p = none) (pl : Pl o := by exact True.intro) : Step F H [] F (upd H p o) [p] := by
  refine ⟨⟨fun a u e => ?_, by simp, fun a z => ?_, fun a z => ?_, g.nt⟩, Fle.refl F, fun b u e _ _ => ?_, fun P q h => LamX.TabS.ext h fun b u e => ?_, fun b z => ?_, fun b z => .inl z, fun b z => ?_⟩
  · rw [upd_ne (ne_of_none (g.le a u e) hp)]
    exact g.le a u e
  · rw [List.mem_singleton] at z
    subst z
    cases e : F a with
    | none => rfl
    | some o' =>
      rw [g.le a o' e] at hp
      cases hp
  · rw [List.mem_singleton] at z
    subst z
    exact ⟨o, upd_same, pl⟩
  · rw [upd_ne (ne_of_none e hp)]
    exact e
  · rw [upd_ne (ne_of_none e hp)]
    exact e
  · by_cases e : b = p
    · subst e
      exact absurd hp z
    · rw [upd_ne e]
      exact z
  · rw [List.mem_singleton] at z
    subst z
    exact .inr hp
/-- a new frozen object -/
theorem Step.allocF {p : Addr} {o : HO} (g : Good F H []) (hp : H p = none) (pl : ∀ ps, o ≠ .tbl ps := by intro ps e; cases e) : Step F H [] (upd F p o) (upd H p o) [] := by
  refine ⟨⟨fun a u e => ?_, List.nodup_nil, fun a z => (nomatch z), fun a z => (nomatch z), fun a ps e => ?_⟩, fun a u e => ?_, fun b u e _ _ => ?_, fun P q h => LamX.TabS.ext h fun b u e => ?_, fun b z => ?_, fun b z => ?_, fun b z => (nomatch z)⟩
  · by_cases q : a = p
    · subst q
      rw [upd_same] at e ⊢
      exact e
    · rw [upd_ne q] at e ⊢
      exact g.le a u e
  · by_cases q : a = p
    · subst q
      rw [upd_same] at e
      exact pl ps (Option.some.inj e)
    · rw [upd_ne q] at e
      exact g.nt a ps e
  · have q : a ≠ p := ne_of_none (g.le a u e) hp
    rw [upd_ne q]
    exact e
  · rw [upd_ne (ne_of_none e hp)]
    exact e
  · rw [upd_ne (ne_of_none e hp)]
    exact e
  · by_cases e : b = p
    · subst e
      exact absurd hp z
    · rw [upd_ne e]
      exact z
  · by_cases e : b = p
    · subst e
      exact .inr (.inr hp)
    · rw [upd_ne e] at z
      exact .inl z
/-- an owned object is written -/
theorem Step.write {p : Addr} {o : HO} (g : Good F H (p :: as)) (pl : Pl o := by exact True.intro) : Step F H (p :: as) F (upd H p o) (p :: as) := by
  obtain ⟨op, ep, plp⟩ := g.pl p (.head _)
  refine ⟨⟨fun a u e => ?_, g.nd, g.off, fun a z => ?_, g.nt⟩, Fle.refl F, fun b u e z _ => ?_, fun P q ⟨ps, h1, h2, h3⟩ => ⟨ps, ?_, h2, fun pos cv hc => ?_⟩, fun b z => ?_, fun b z => .inl z, fun b z => .inl z⟩
  · have : a ≠ p := fun q => by
      subst q
      rw [g.off a (.head _)] at e
      cases e
    rw [upd_ne this]
    exact g.le a u e
  · by_cases e : a = p
    · subst e
      exact ⟨o, upd_same, pl⟩
    · rw [upd_ne e]
      exact g.pl a z
  · rw [upd_ne fun q => z (by rw [q]; exact List.mem_cons_self)]
    exact e
  · rw [upd_ne fun q => plp.nt ps (by rw [q, ep] at h1; exact Option.some.inj h1)]
    exact h1
  · obtain ⟨c, e1, e2⟩ := h3 pos cv hc
    refine ⟨c, e1, ?_⟩
    rw [upd_ne fun q => plp.nc c _ (by rw [q, ep] at e2; exact Option.some.inj (by rw [q]; exact e2))]
    exact e2
  · by_cases e : b = p
    · subst e
      rw [upd_same]
      exact fun q => nomatch q
    · rw [upd_ne e]
      exact z
end
end MP

/-! Mirror layer, part 2: readings by mirrors; names, constants, operators, displays, tests. -/
namespace MP
open PySem PySem.Spec L2

abbrev Ex := En → Option (D × En)
abbrev Tx := En → Option (Bool × En)
abbrev Lx := En → Option (List D × En)
inductive Hd where
  | slot (i : Nat)
  | val (d : D)
abbrev Ox := En → Option (Hd × En)
abbrev Hx := En → Option (List Hd × En)
def dr (E : En) : Hd → Option D
  | .slot i => match E[i]? with
    | some (some d) => some d
    | _ => none
  | .val d => some d
def drL (E : En) : List Hd → Option (List D)
  | [] => some []
  | h :: hs => match dr E h with
    | some d => match drL E hs with
      | some ds => some (d :: ds)
      | none => none
    | none => none

/-- what stands for a handle -/
def RpH (U : Wd) (F H : Hp) (σ : Sl) (v : V) : Hd → List Addr → Prop
  | .slot i, bs => bs = [] ∧ σ[i]? = some (some v)
  | .val d, bs => Rp U F H v d bs
inductive RpHL (U : Wd) (F H : Hp) (σ : Sl) : List V → List Hd → List Addr → Prop where
  | nil : RpHL U F H σ [] [] []
  | cons {v : V} {h : Hd} {vs : List V} {hs : List Hd} {as bs : List Addr} : RpH U F H σ v h as → RpHL U F H σ vs hs bs → RpHL U F H σ (v :: vs) (h :: hs) (as ++ bs)
section
variable {U : Wd} {F F' H H' : Hp} {σ : Sl} {E : En} {as bs : List Addr} {v : V} {h : Hd} {d : D}
theorem RpH.mono (hF : Fle F F') (q : RpH U F H σ v h as) (k : ∀ a ∈ as, H' a = H a) : RpH U F' H' σ v h as := by
  cases h with
  | slot i => exact q
  | val d => exact Rp.mono hF q k
theorem RpHL.mono (hF : Fle F F') : ∀ {vs : List V} {hs : List Hd} {as : List Addr}, RpHL U F H σ vs hs as → (∀ a ∈ as, H' a = H a) → RpHL U F' H' σ vs hs as
  | _, _, _, .nil, _ => .nil
  | _, _, _, .cons q t, k => .cons (q.mono hF fun a z => k a (List.mem_append_left _ z)) (RpHL.mono hF t fun a z => k a (List.mem_append_right _ z))
theorem dr_slot {i : Nat} (h : dr E (.slot i) = some d) : E[i]? = some (some d) := by
  simp only [dr] at h
  split at h
  · rename_i d' e
    rw [e]
    exact congrArg some h
  · cases h
/-- a handle as it stands now -/
theorem RpH.now (q : RpH U F H σ v h bs) (r : REnv U F H σ E as) (e : dr E h = some d) : ∃ cs, Rp U F H v d cs := by
  cases h with
  | slot i =>
    obtain ⟨v', a1, rest, h1, h2, _, _⟩ := r.take (dr_slot e)
    rw [q.2] at h1
    cases h1
    exact ⟨a1, h2⟩
  | val d' =>
    cases e
    exact ⟨bs, q⟩
abbrev RpP (U : Wd) (F H : Hp) : List V → List D → Prop := Paired fun v d => ∃ cs, Rp U F H v d cs
theorem RpHL.now (r : REnv U F H σ E as) : ∀ {vs : List V} {hs : List Hd} {bs : List Addr} {ds : List D}, RpHL U F H σ vs hs bs → drL E hs = some ds → RpP U F H vs ds
  | _, _, _, _, .nil, e => by
    cases e
    exact .nil
  | _, h :: hs, _, ds, .cons q t, e => by
    unfold drL at e
    cases e1 : dr E h with
    | none => rw [e1] at e; cases e
    | some d =>
      cases e2 : drL E hs with
      | none => rw [e1, e2] at e; cases e
      | some ds' =>
        rw [e1, e2] at e
        cases e
        exact .cons (q.now r e1) (RpHL.now r t e2)
end

/-! ### readings -/
def tM (U : Wd) (m : Ex) : TE := fun σ H Q => ∃ (E : En) (F : Hp) (as : List Addr) (d : D) (E' : En), Good F H as ∧ REnv U F H σ E as ∧ m E = some (d, E') ∧
  ∀ v F' H' bs as', Step F H as F' H' (bs ++ as') → REnv U F' H' σ E' as' → Rp U F' H' v d bs → Q v H'
def tO (U : Wd) (m : Ox) : TE := fun σ H Q => ∃ (E : En) (F : Hp) (as : List Addr) (d : Hd) (E' : En), Good F H as ∧ REnv U F H σ E as ∧ m E = some (d, E') ∧
  ∀ v F' H' bs as', Step F H as F' H' (bs ++ as') → REnv U F' H' σ E' as' → RpH U F' H' σ v d bs → Q v H'
def tT (U : Wd) (m : Tx) : TT := fun σ H Q => ∃ (E : En) (F : Hp) (as : List Addr) (b : Bool) (E' : En), Good F H as ∧ REnv U F H σ E as ∧ m E = some (b, E') ∧
  ∀ F' H' as', Step F H as F' H' as' → REnv U F' H' σ E' as' → Q b H'
def tL (U : Wd) (m : Lx) : TA := fun σ H Q => ∃ (E : En) (F : Hp) (as : List Addr) (ds : List D) (E' : En), Good F H as ∧ REnv U F H σ E as ∧ m E = some (ds, E') ∧
  ∀ vs F' H' bs as', Step F H as F' H' (bs ++ as') → REnv U F' H' σ E' as' → RpL U F' H' vs ds bs → Q vs H'
def tH (U : Wd) (m : Hx) : TA := fun σ H Q => ∃ (E : En) (F : Hp) (as : List Addr) (hs : List Hd) (E' : En), Good F H as ∧ REnv U F H σ E as ∧ m E = some (hs, E') ∧
  ∀ vs F' H' bs as', Step F H as F' H' (bs ++ as') → REnv U F' H' σ E' as' → RpHL U F' H' σ vs hs bs → Q vs H'
abbrev ux (X : Cx) [le : LE] : Wd := ⟨X.prog, X.w, X.K, X.base, X.mg, le⟩

section
variable [LE] {X : Cx} {e : Expr}
theorem pe_mono {t t' : TE} (h : PE X e t) (k : ∀ σ H Q, t' σ H Q → t σ H Q) : PE X e t' := ⟨fun pins s σ H Q I q => h.run pins s σ H Q I (k σ H Q q)⟩
theorem pt_mono {t t' : TT} (h : PT X e t) (k : ∀ σ H Q, t' σ H Q → t σ H Q) : PT X e t' := ⟨fun pins s σ H Q I q => h.run pins s σ H Q I (k σ H Q q)⟩
theorem pw_mono {t t' : TT} (h : PW X e t) (k : ∀ σ H Q, t' σ H Q → t σ H Q) : PW X e t' := ⟨fun wh pins s σ H Q I q => h.run wh pins s σ H Q I (k σ H Q q)⟩
theorem pa_mono {es : List Expr} {t t' : TA} (h : PA X es t) (k : ∀ σ H Q, t' σ H Q → t σ H Q) : PA X es t' := ⟨fun pos pins s σ H Q I q => h.run pos pins s σ H Q I (k σ H Q q)⟩
theorem pk_mono {es : List Keyword} {t t' : TA} (h : PK X es t) (k : ∀ σ H Q, t' σ H Q → t σ H Q) : PK X es t' := ⟨fun pos pins s σ H Q I q => h.run pos pins s σ H Q I (k σ H Q q)⟩
theorem ps_mono {st : Stmt} {t t' : TS} (h : PS X st t) (k : ∀ D σ H, t' D σ H → t D σ H) : PS X st t' := ⟨fun pins s σ H D I q => h.run pins s σ H D I (k D σ H q)⟩
theorem pss_mono {st : List Stmt} {t t' : TS} (h : PSs X st t) (k : ∀ D σ H, t' D σ H → t D σ H) : PSs X st t' := ⟨fun pins s σ H D I q => h.run pins s σ H D I (k D σ H q)⟩
end

/-! ### bookkeeping -/
section
variable {U : Wd} {F F1 F2 F' H H1 H2 H' : Hp} {σ : Sl} {E E1 E2 : En} {as as1 as2 bs b1 b2 cs : List Addr}
/-- an operation that owns nothing at its start, behind a step -/
theorem fin (s : Step F H as F2 H2 as2) (r : REnv U F2 H2 σ E2 as2) (t : Step F2 H2 [] F' H' bs) : Step F H as F' H' (bs ++ as2) ∧ REnv U F' H' σ E2 as2 := by
  have t2 : Step F2 H2 as2 F' H' (bs ++ as2) := (t.frame s.good).perm List.perm_append_comm
  exact ⟨s.trans t2, r.mono t.ext fun a z => t.kept (s.good.pl a z) (fun q => nomatch q)⟩
theorem Step.start0 (s : Step F H as F' H' (bs ++ as2)) : Good F' H' [] := s.good.sub (fun _ z => nomatch z) List.nodup_nil
theorem Good.zero (g : Good F H as) : Good F H [] := g.sub (fun _ z => nomatch z) List.nodup_nil
end

/-! ### constants and names -/
def xC (d : D) : Ex := fun E => some (d, E)
def oV (m : Ex) : Ox := fun E => match m E with
  | some (d, E') => some (.val d, E')
  | none => none
def oN (i : Nat) : Ox := fun E => match E[i]? with
  | some (some _) => some (.slot i, E)
  | _ => none
def xShare (i : Nat) : Ex := fun E => match E[i]? with
  | some (some d) => some (d.frz, E.set i (some d.frz))
  | _ => none
def xTake (i : Nat) : Ex := fun E => match E[i]? with
  | some (some d) => some (d, E.set i none)
  | _ => none
section
variable [LE] {X : Cx} {e : Expr} {pos : Pos}
theorem mv_const {v : V} {d : D} (h : PE X e (tC v)) (hv : ∀ F H, Rp (ux X) F H v d []) : PE X e (tM (ux X) (xC d)) := pe_mono h fun σ H Q q => by
  obtain ⟨E, F, as, d', E', g, r, e, q⟩ := q
  cases e
  exact q v F H [] as (Step.refl g) r (hv F H)
theorem mv_int {i j} : PE X (.Constant (.int i) j pos) (tM (ux X) (xC (.int i))) := mv_const pe_int fun _ _ => .int i
theorem mv_bl {b j} : PE X (.Constant (.bool b) j pos) (tM (ux X) (xC (.bl b))) := mv_const pe_bl fun _ _ => .bl b
theorem mv_non {j} : PE X (.Constant .none j pos) (tM (ux X) (xC .non)) := mv_const pe_non fun _ _ => .non
theorem mv_str {s j} : PE X (.Constant (.str s) j pos) (tM (ux X) (xC (.str s))) := mv_const pe_str fun _ _ => .str s
theorem mv_glob {x : Str} {v : V} {u : Value} {d : D} (hv : ∀ F H, Rp (ux X) F H v d []) (hg : Gl X x) (hm : X.mg x = some u) (r : RelV v u) (hd : (x == ("__debug__" : Str)) = false := by decide) : PE X (.Name x pos) (tM (ux X) (xC d)) := mv_const (pe_glob hg hm r hd) hv
theorem ov {m : Ex} (h : PE X e (tM (ux X) m)) : PE X e (tO (ux X) (oV m)) := pe_mono h fun σ H Q q => by
  obtain ⟨E, F, as, hd, E', g, r, e, q⟩ := q
  unfold oV at e
  cases e1 : m E with
  | none => rw [e1] at e; cases e
  | some p =>
    obtain ⟨d, E1⟩ := p
    rw [e1] at e
    cases e
    exact ⟨E, F, as, d, E', g, r, e1, q⟩
theorem on_ {i : Nat} {x : Str} (h : PE X (.Name x pos) (tVar i)) : PE X (.Name x pos) (tO (ux X) (oN i)) := pe_mono h fun σ H Q q => by
  obtain ⟨E, F, as, hd, E', g, r, e, q⟩ := q
  unfold oN at e
  split at e
  · rename_i d ed
    cases e
    obtain ⟨v, a1, rest, h1, _, _, _⟩ := r.take ed
    exact ⟨v, h1, q v F H [] as (Step.refl g) r ⟨rfl, h1⟩⟩
  · cases e
theorem mv_share {i : Nat} {x : Str} (h : PE X (.Name x pos) (tVar i)) : PE X (.Name x pos) (tM (ux X) (xShare i)) := pe_mono h fun σ H Q q => by
  obtain ⟨E, F, as, hd, E', g, r, e, q⟩ := q
  unfold xShare at e
  split at e
  · rename_i d ed
    cases e
    obtain ⟨v, a1, rest, h1, h2, p, r2⟩ := r.take ed
    have g2 := g.perm p
    have st := Step.freeze g2
    refine ⟨v, h1, q v _ H [] rest (st.permS p.symm) ?_ (Rp.freeze st.ext h2 fun a z => by simp [z])⟩
    have hi : i < E.length := (List.getElem?_eq_some_iff.mp ed).1
    have r3 : REnv (ux X) (fun b => if b ∈ a1 then H b else F b) H σ (E.set i none) rest := r2.mono st.ext fun _ _ => rfl
    have r4 := r3.putS (d := d.frz) (v := v) (a1 := []) (set_none_get hi) h1 (Rp.freeze st.ext h2 fun a z => by simp [z])
    rw [List.set_set] at r4
    exact r4
  · cases e
theorem mv_take {i : Nat} {x : Str} (h : PE X (.Name x pos) (tVar i)) : PE X (.Name x pos) (tM (ux X) (xTake i)) := pe_mono h fun σ H Q q => by
  obtain ⟨E, F, as, hd, E', g, r, e, q⟩ := q
  unfold xTake at e
  split at e
  · rename_i d ed
    cases e
    obtain ⟨v, a1, rest, h1, h2, p, r2⟩ := r.take ed
    exact ⟨v, h1, q v F H a1 rest ((Step.refl g).perm p) r2 h2⟩
  · cases e
end

/-! ### operators -/
def op2 (f : D → D → Option D) (a b : Ox) : Ex := fun E => match a E with
  | some (h1, E1) => match b E1 with
    | some (h2, E2) => match dr E2 h1, dr E2 h2 with
      | some d1, some d2 => match f d1 d2 with
        | some d => some (d, E2)
        | none => none
      | _, _ => none
    | none => none
  | none => none
def op1 (f : D → Option D) (a : Ox) : Ex := fun E => match a E with
  | some (h1, E1) => match dr E1 h1 with
    | some d1 => match f d1 with
      | some d => some (d, E1)
      | none => none
    | none => none
  | none => none
theorem op2_inv {f : D → D → Option D} {a b : Ox} {E E' : En} {d : D} (h : op2 f a b E = some (d, E')) : ∃ h1 E1 h2 d1 d2, a E = some (h1, E1) ∧ b E1 = some (h2, E') ∧ dr E' h1 = some d1 ∧ dr E' h2 = some d2 ∧ f d1 d2 = some d := by
  unfold op2 at h
  split at h
  · rename_i h1 E1 e1
    split at h
    · rename_i h2 E2 e2
      split at h
      · rename_i d1 d2 e3 e4
        split at h
        · rename_i d' e5
          cases h
          exact ⟨h1, E1, h2, d1, d2, e1, e2, e3, e4, e5⟩
        · cases h
      · cases h
    · cases h
  · cases h
theorem op1_inv {f : D → Option D} {a : Ox} {E E' : En} {d : D} (h : op1 f a E = some (d, E')) : ∃ h1 d1, a E = some (h1, E') ∧ dr E' h1 = some d1 ∧ f d1 = some d := by
  unfold op1 at h
  split at h
  · rename_i h1 E1 e1
    split at h
    · rename_i d1 e3
      split at h
      · rename_i d' e5
        cases h
        exact ⟨h1, d1, e1, e3, e5⟩
      · cases h
    · cases h
  · cases h
/-- a two-place rule keeps to a mirror -/
def Ok2 (U : Wd) (r : R2) (f : D → D → Option D) : Prop := ∀ (F H : Hp) (x y : V) (d1 d2 d : D) (c1 c2 : List Addr) (Q : VK), Good F H [] → Rp U F H x d1 c1 → Rp U F H y d2 c2 → f d1 d2 = some d →
  (∀ v F' H' bs, Step F H [] F' H' bs → Rp U F' H' v d bs → Q v H') → r x y H Q
def Ok1 (U : Wd) (r : V → Hp → VK → Prop) (f : D → Option D) : Prop := ∀ (F H : Hp) (x : V) (d1 d : D) (c1 : List Addr) (Q : VK), Good F H [] → Rp U F H x d1 c1 → f d1 = some d →
  (∀ v F' H' bs, Step F H [] F' H' bs → Rp U F' H' v d bs → Q v H') → r x H Q
/-- a result without a new object -/
theorem same_ {F H : Hp} {U : Wd} {v : V} {d : D} {Q : VK} (g : Good F H []) (k : ∀ v F' H' bs, Step F H [] F' H' bs → Rp U F' H' v d bs → Q v H') (h : Rp U F H v d []) : Q v H := k v F H [] (Step.refl g) h
theorem seq2 {U : Wd} {a b : Ox} {σ : Sl} {H : Hp} {R : V → V → Hp → Prop} {E E1 E2 : En} {F : Hp} {as : List Addr} {h1 h2 : Hd} (g : Good F H as) (r : REnv U F H σ E as) (e1 : a E = some (h1, E1)) (e2 : b E1 = some (h2, E2))
    (k : ∀ x y F2 H2 c1 c2 as2, Step F H as F2 H2 (c1 ++ (c2 ++ as2)) → REnv U F2 H2 σ E2 as2 → RpH U F2 H2 σ x h1 c1 → RpH U F2 H2 σ y h2 c2 → R x y H2) : tO U a σ H fun x H1 => tO U b σ H1 fun y H2 => R x y H2 := by
  refine ⟨E, F, as, h1, E1, g, r, e1, fun x F1 H1 c1 as1 s1 r1 q1 => ?_⟩
  refine ⟨E1, F1, as1, h2, E2, s1.right.good, r1, e2, fun y F2 H2 c2 as2 s2 r2 q2 => ?_⟩
  exact k x y F2 H2 c1 c2 as2 (s1.seq s2) r2 (q1.mono s2.ext (Step.wait s1 s2)) q2
theorem op2_reads {U : Wd} {r : R2} {f : D → D → Option D} {a b : Ox} (ok : Ok2 U r f) {σ : Sl} {H : Hp} {Q : VK} (q : tM U (op2 f a b) σ H Q) : tOp r (tO U a) (tO U b) σ H Q := by
  obtain ⟨E, F, as, d, E', g, rE, e, q⟩ := q
  obtain ⟨h1, E1, h2, d1, d2, e1, e2, e3, e4, e5⟩ := op2_inv e
  refine seq2 (R := fun x y H2 => r x y H2 Q) g rE e1 e2 fun x y F2 H2 c1 c2 as2 s r2 q1 q2 => ?_
  obtain ⟨z1, w1⟩ := q1.now r2 e3
  obtain ⟨z2, w2⟩ := q2.now r2 e4
  refine ok F2 H2 x y d1 d2 d z1 z2 Q s.good.zero w1 w2 e5 fun v F' H' bs t w => ?_
  obtain ⟨s3, r3⟩ := fin s.right.right r2 t
  exact q v F' H' bs as2 s3 r3 w
theorem op1_reads {U : Wd} {r : V → Hp → VK → Prop} {f : D → Option D} {a : Ox} (ok : Ok1 U r f) {σ : Sl} {H : Hp} {Q : VK} (q : tM U (op1 f a) σ H Q) : tUn r (tO U a) σ H Q := by
  obtain ⟨E, F, as, d, E', g, rE, e, q⟩ := q
  obtain ⟨h1, d1, e1, e3, e5⟩ := op1_inv e
  refine ⟨E, F, as, h1, E', g, rE, e1, fun x F1 H1 c1 as1 s1 r1 q1 => ?_⟩
  obtain ⟨z1, w1⟩ := q1.now r1 e3
  refine ok F1 H1 x d1 d z1 Q s1.good.zero w1 e5 fun v F' H' bs t w => ?_
  obtain ⟨s3, r3⟩ := fin s1.right r1 t
  exact q v F' H' bs as1 s3 r3 w
section
variable [LE] {X : Cx} {a b : Expr} {ma mb : Ox} {r : R2} {f : D → D → Option D} {pos : Pos}
theorem mv_op {op : Operator} (ho : OpR X (binaryOp op) r) (ok : Ok2 (ux X) r f) (ha : PE X a (tO (ux X) ma)) (hb : PE X b (tO (ux X) mb)) : PE X (.BinOp a op b pos) (tM (ux X) (op2 f ma mb)) := pe_mono (pe_op ho ha hb) fun _ _ _ q => op2_reads ok q
theorem mv_cmp {op : CmpOp} (ho : OpR X (compareOp op) r) (ok : Ok2 (ux X) r f) (ha : PE X a (tO (ux X) ma)) (hb : PE X b (tO (ux X) mb)) (hm : behindInMarks op b = false) : PE X (.Compare a [op] [b] pos) (tM (ux X) (op2 f ma mb)) := pe_mono (pe_cmpR ho ha hb hm) fun _ _ _ q => op2_reads ok q
theorem mv_ix (hr : IxR X r) (ok : Ok2 (ux X) r f) (ha : PE X a (tO (ux X) ma)) (hb : PE X b (tO (ux X) mb)) (hs : PlainIx b) : PE X (.Subscript a b pos) (tM (ux X) (op2 f ma mb)) := pe_mono (pe_ix hr ha hb hs) fun _ _ _ q => op2_reads ok q
theorem mv_un {op : UnaryOp} {r : V → Hp → VK → Prop} {f : D → Option D} (ho : UnR X (unaryOp op) r) (ok : Ok1 (ux X) r f) (ha : PE X a (tO (ux X) ma)) : PE X (.UnaryOp op a pos) (tM (ux X) (op1 f ma)) := pe_mono (pe_un ho ha) fun _ _ _ q => op1_reads ok q
end

/-! ### tests -/
def toB (m : Ex) : Tx := fun E => match m E with
  | some (.bl b, E') => some (b, E')
  | _ => none
def andT (a b : Tx) : Tx := fun E => match a E with
  | some (true, E1) => b E1
  | some (false, E1) => some (false, E1)
  | none => none
def orT (a b : Tx) : Tx := fun E => match a E with
  | some (true, E1) => some (true, E1)
  | some (false, E1) => b E1
  | none => none
def notT (a : Tx) : Tx := fun E => match a E with
  | some (b, E1) => some (!b, E1)
  | none => none
def andX (a b : Ex) : Ex := fun E => match a E with
  | some (.bl true, E1) => b E1
  | some (.bl false, E1) => some (.bl false, E1)
  | _ => none
def orX (a b : Ex) : Ex := fun E => match a E with
  | some (.bl true, E1) => some (.bl true, E1)
  | some (.bl false, E1) => b E1
  | _ => none
def notX (a : Ex) : Ex := fun E => match a E with
  | some (.bl b, E1) => some (.bl (!b), E1)
  | _ => none
def ifX (t : Tx) (a b : Ex) : Ex := fun E => match t E with
  | some (true, E1) => a E1
  | some (false, E1) => b E1
  | none => none
theorem toB_inv {m : Ex} {E E' : En} {b : Bool} (h : toB m E = some (b, E')) : m E = some (.bl b, E') := by
  unfold toB at h
  split at h
  · rename_i b' E1 e
    cases h
    exact e
  · cases h
theorem rp_bl {U : Wd} {F H : Hp} {v : V} {b : Bool} {bs : List Addr} (h : Rp U F H v (.bl b) bs) : v = .bl b ∧ bs = [] := by
  cases h
  exact ⟨rfl, rfl⟩
theorem rp_int {U : Wd} {F H : Hp} {v : V} {b : Int} {bs : List Addr} (h : Rp U F H v (.int b) bs) : v = .int b ∧ bs = [] := by
  cases h
  exact ⟨rfl, rfl⟩
theorem rp_str {U : Wd} {F H : Hp} {v : V} {b : Str} {bs : List Addr} (h : Rp U F H v (.str b) bs) : v = .str b ∧ bs = [] := by
  cases h
  exact ⟨rfl, rfl⟩
section
variable [LE] {X : Cx} {a b : Expr} {rest : List Expr} {pos : Pos} {U : Wd} {σ : Sl} {H : Hp}
theorem toB_reads {m : Ex} {Q : Bool → Hp → Prop} (q : tT U (toB m) σ H Q) : tM U m σ H fun x H' => ∃ k, x = .bl k ∧ Q k H' := by
  obtain ⟨E, F, as, d, E', g, rE, e, q⟩ := q
  refine ⟨E, F, as, .bl d, E', g, rE, toB_inv e, fun v F' H' bs as' s r w => ?_⟩
  obtain ⟨rfl, rfl⟩ := rp_bl w
  exact ⟨d, rfl, q F' H' as' s r⟩
theorem mt_val {e : Expr} {m : Ex} (h : PE X e (tM (ux X) m)) (he : ∀ whole, isTrue e X.env whole = (do let v ← whole; standAt e.pos; holding [v] (truthy v)) := by intro _; rfl) : PT X e (tT (ux X) (toB m)) := pt_mono (pt_val h he) fun _ _ _ q => toB_reads q
theorem mt_cmp {ma mb : Ox} {r : R2} {f : D → D → Option D} {op : CmpOp} (ho : OpR X (compareOp op) r) (ok : Ok2 (ux X) r f) (ha : PE X a (tO (ux X) ma)) (hb : PE X b (tO (ux X) mb)) (hm : behindInMarks op b = false) : PT X (.Compare a [op] [b] pos) (tT (ux X) (toB (op2 f ma mb))) := pt_mono (pt_cmpR ho ha hb hm) fun _ _ _ q => op2_reads ok (toB_reads q)
theorem andT_inv {a b : Tx} {E E' : En} {c : Bool} (h : andT a b E = some (c, E')) : ∃ k E1, a E = some (k, E1) ∧ if k = true then b E1 = some (c, E') else (c = false ∧ E' = E1) := by
  unfold andT at h
  split at h
  · rename_i E1 e
    exact ⟨true, E1, e, by simpa using h⟩
  · rename_i E1 e
    cases h
    exact ⟨false, E', e, by simp⟩
  · cases h
theorem orT_inv {a b : Tx} {E E' : En} {c : Bool} (h : orT a b E = some (c, E')) : ∃ k E1, a E = some (k, E1) ∧ if k = true then (c = true ∧ E' = E1) else b E1 = some (c, E') := by
  unfold orT at h
  split at h
  · rename_i E1 e
    cases h
    exact ⟨true, E', e, by simp⟩
  · rename_i E1 e
    exact ⟨false, E1, e, by simpa using h⟩
  · cases h
theorem andT_reads {a b : Tx} {Q : Bool → Hp → Prop} (q : tT U (andT a b) σ H Q) : tAnd (tT U a) (tT U b) σ H Q := by
  obtain ⟨E, F, as, d, E', g, rE, e, q⟩ := q
  obtain ⟨k, E1, e1, e2⟩ := andT_inv e
  refine ⟨E, F, as, k, E1, g, rE, e1, fun F1 H1 as1 s1 r1 => ?_⟩
  cases k with
  | true =>
    rw [if_pos rfl] at e2 ⊢
    exact ⟨E1, F1, as1, d, E', s1.good, r1, e2, fun F' H' as' s r => q F' H' as' (s1.trans s) r⟩
  | false =>
    rw [if_neg Bool.false_ne_true] at e2 ⊢
    obtain ⟨rfl, rfl⟩ := e2
    exact q F1 H1 as1 s1 r1
theorem orT_reads {a b : Tx} {Q : Bool → Hp → Prop} (q : tT U (orT a b) σ H Q) : tOr (tT U a) (tT U b) σ H Q := by
  obtain ⟨E, F, as, d, E', g, rE, e, q⟩ := q
  obtain ⟨k, E1, e1, e2⟩ := orT_inv e
  refine ⟨E, F, as, k, E1, g, rE, e1, fun F1 H1 as1 s1 r1 => ?_⟩
  cases k with
  | true =>
    rw [if_pos rfl] at e2 ⊢
    obtain ⟨rfl, rfl⟩ := e2
    exact q F1 H1 as1 s1 r1
  | false =>
    rw [if_neg Bool.false_ne_true] at e2 ⊢
    exact ⟨E1, F1, as1, d, E', s1.good, r1, e2, fun F' H' as' s r => q F' H' as' (s1.trans s) r⟩
theorem mw_and1 {ta : Tx} (ha : PT X a (tT (ux X) ta)) : PW X (.BoolOp .And [a] pos) (tT (ux X) ta) := pw_and1 ha
theorem mw_or1 {ta : Tx} (ha : PT X a (tT (ux X) ta)) : PW X (.BoolOp .Or [a] pos) (tT (ux X) ta) := pw_or1 ha
theorem mw_and {ta tb : Tx} (ha : PT X a (tT (ux X) ta)) (hb : PW X (.BoolOp .And (b :: rest) pos) (tT (ux X) tb)) : PW X (.BoolOp .And (a :: b :: rest) pos) (tT (ux X) (andT ta tb)) := pw_mono (pw_and ha hb) fun _ _ _ q => andT_reads q
theorem mw_or {ta tb : Tx} (ha : PT X a (tT (ux X) ta)) (hb : PW X (.BoolOp .Or (b :: rest) pos) (tT (ux X) tb)) : PW X (.BoolOp .Or (a :: b :: rest) pos) (tT (ux X) (orT ta tb)) := pw_mono (pw_or ha hb) fun _ _ _ q => orT_reads q
theorem mt_not {ta : Tx} (ha : PT X a (tT (ux X) ta)) : PT X (.UnaryOp .Not a pos) (tT (ux X) (notT ta)) := pt_mono (pt_not ha) fun σ H Q q => by
  obtain ⟨E, F, as, d, E', g, rE, e, q⟩ := q
  unfold notT at e
  split at e
  · rename_i b' E1 e1
    cases e
    exact ⟨E, F, as, b', E', g, rE, e1, q⟩
  · cases e
/-! as values -/
theorem mv_one {op} {m : Ex} (h : PE X a (tM (ux X) m)) : PE X (.BoolOp op [a] pos) (tM (ux X) m) := pe_one h
theorem mv_and {ma mb : Ex} (ha : PE X a (tM (ux X) ma)) (hb : PE X (.BoolOp .And (b :: rest) pos) (tM (ux X) mb)) : PE X (.BoolOp .And (a :: b :: rest) pos) (tM (ux X) (andX ma mb)) := pe_mono (pe_and ha hb) fun σ H Q q => by
  obtain ⟨E, F, as, d, E', g, rE, e, q⟩ := q
  unfold andX at e
  split at e
  · rename_i E1 e1
    refine ⟨E, F, as, .bl true, E1, g, rE, e1, fun v F1 H1 bs as1 s1 r1 w => ?_⟩
    obtain ⟨rfl, rfl⟩ := rp_bl w
    exact ⟨true, rfl, by rw [if_pos rfl]; exact ⟨E1, F1, as1, d, E', s1.good, r1, e, fun v F' H' bs as' s r w => q v F' H' bs as' (s1.trans s) r w⟩⟩
  · rename_i E1 e1
    cases e
    refine ⟨E, F, as, .bl false, E', g, rE, e1, fun v F1 H1 bs as1 s1 r1 w => ?_⟩
    obtain ⟨rfl, rfl⟩ := rp_bl w
    exact ⟨false, rfl, by rw [if_neg Bool.false_ne_true]; exact q _ F1 H1 [] as1 s1 r1 (.bl false)⟩
  · cases e
theorem mv_or {ma mb : Ex} (ha : PE X a (tM (ux X) ma)) (hb : PE X (.BoolOp .Or (b :: rest) pos) (tM (ux X) mb)) : PE X (.BoolOp .Or (a :: b :: rest) pos) (tM (ux X) (orX ma mb)) := pe_mono (pe_or ha hb) fun σ H Q q => by
  obtain ⟨E, F, as, d, E', g, rE, e, q⟩ := q
  unfold orX at e
  split at e
  · rename_i E1 e1
    cases e
    refine ⟨E, F, as, .bl true, E', g, rE, e1, fun v F1 H1 bs as1 s1 r1 w => ?_⟩
    obtain ⟨rfl, rfl⟩ := rp_bl w
    exact ⟨true, rfl, by rw [if_pos rfl]; exact q _ F1 H1 [] as1 s1 r1 (.bl true)⟩
  · rename_i E1 e1
    refine ⟨E, F, as, .bl false, E1, g, rE, e1, fun v F1 H1 bs as1 s1 r1 w => ?_⟩
    obtain ⟨rfl, rfl⟩ := rp_bl w
    exact ⟨false, rfl, by rw [if_neg Bool.false_ne_true]; exact ⟨E1, F1, as1, d, E', s1.good, r1, e, fun v F' H' bs as' s r w => q v F' H' bs as' (s1.trans s) r w⟩⟩
  · cases e
theorem mv_not {ma : Ex} (ha : PE X a (tM (ux X) ma)) : PE X (.UnaryOp .Not a pos) (tM (ux X) (notX ma)) := pe_mono (pe_not ha) fun σ H Q q => by
  obtain ⟨E, F, as, d, E', g, rE, e, q⟩ := q
  unfold notX at e
  split at e
  · rename_i b E1 e1
    cases e
    refine ⟨E, F, as, .bl b, E', g, rE, e1, fun v F1 H1 bs as1 s1 r1 w => ?_⟩
    obtain ⟨rfl, rfl⟩ := rp_bl w
    exact ⟨b, rfl, q _ F1 H1 [] as1 s1 r1 (.bl (!b))⟩
  · cases e
theorem mv_if {c : Expr} {mc : Tx} {ma mb : Ex} (hc : PT X c (tT (ux X) mc)) (ha : PE X a (tM (ux X) ma)) (hb : PE X b (tM (ux X) mb)) : PE X (.IfExp c a b pos) (tM (ux X) (ifX mc ma mb)) := pe_mono (pe_ifExp hc ha hb) fun σ H Q q => by
  obtain ⟨E, F, as, d, E', g, rE, e, q⟩ := q
  unfold ifX at e
  split at e
  · rename_i E1 e1
    refine ⟨E, F, as, true, E1, g, rE, e1, fun F1 H1 as1 s1 r1 => ?_⟩
    show (if true = true then _ else _)
    rw [if_pos rfl]
    exact ⟨E1, F1, as1, d, E', s1.good, r1, e, fun v F' H' bs as' s r w => q v F' H' bs as' (s1.trans s) r w⟩
  · rename_i E1 e1
    refine ⟨E, F, as, false, E1, g, rE, e1, fun F1 H1 as1 s1 r1 => ?_⟩
    show (if false = true then _ else _)
    rw [if_neg Bool.false_ne_true]
    exact ⟨E1, F1, as1, d, E', s1.good, r1, e, fun v F' H' bs as' s r w => q v F' H' bs as' (s1.trans s) r w⟩
  · cases e
end

/-! ### rows of values, of handles -/
def xNil : Lx := fun E => some ([], E)
def xCons (m : Ex) (ms : Lx) : Lx := fun E => match m E with
  | some (d, E1) => match ms E1 with
    | some (ds, E2) => some (d :: ds, E2)
    | none => none
  | none => none
def hNil : Hx := fun E => some ([], E)
def hCons (m : Ox) (ms : Hx) : Hx := fun E => match m E with
  | some (d, E1) => match ms E1 with
    | some (ds, E2) => some (d :: ds, E2)
    | none => none
  | none => none
section
variable [LE] {X : Cx} {e : Expr} {es : List Expr} {pos : Pos} {U : Wd} {σ : Sl} {H : Hp}
theorem xNil_reads {Q : List V → Hp → Prop} (q : tL U xNil σ H Q) : tNil σ H Q := by
  obtain ⟨E, F, as, d, E', g, rE, e, q⟩ := q
  cases e
  exact q [] F H [] as (Step.refl g) rE .nil
theorem xCons_reads {m : Ex} {ms : Lx} {Q : List V → Hp → Prop} (q : tL U (xCons m ms) σ H Q) : tCons (tM U m) (tL U ms) σ H Q := by
  obtain ⟨E, F, as, d, E', g, rE, e, q⟩ := q
  unfold xCons at e
  split at e
  · rename_i d1 E1 e1
    split at e
    · rename_i ds E2 e2
      cases e
      refine ⟨E, F, as, d1, E1, g, rE, e1, fun v F1 H1 b1 as1 s1 r1 w1 => ?_⟩
      refine ⟨E1, F1, as1, ds, E', s1.right.good, r1, e2, fun vs F2 H2 b2 as2 s2 r2 w2 => ?_⟩
      exact q (v :: vs) F2 H2 (b1 ++ b2) as2 (by rw [List.append_assoc]; exact s1.seq s2) r2 (.cons (w1.mono s2.ext (Step.wait s1 s2)) w2)
    · cases e
  · cases e
theorem hNil_reads {Q : List V → Hp → Prop} (q : tH U hNil σ H Q) : tNil σ H Q := by
  obtain ⟨E, F, as, d, E', g, rE, e, q⟩ := q
  cases e
  exact q [] F H [] as (Step.refl g) rE .nil
theorem hCons_reads {m : Ox} {ms : Hx} {Q : List V → Hp → Prop} (q : tH U (hCons m ms) σ H Q) : tCons (tO U m) (tH U ms) σ H Q := by
  obtain ⟨E, F, as, d, E', g, rE, e, q⟩ := q
  unfold hCons at e
  split at e
  · rename_i d1 E1 e1
    split at e
    · rename_i ds E2 e2
      cases e
      refine ⟨E, F, as, d1, E1, g, rE, e1, fun v F1 H1 b1 as1 s1 r1 w1 => ?_⟩
      refine ⟨E1, F1, as1, ds, E', s1.right.good, r1, e2, fun vs F2 H2 b2 as2 s2 r2 w2 => ?_⟩
      exact q (v :: vs) F2 H2 (b1 ++ b2) as2 (by rw [List.append_assoc]; exact s1.seq s2) r2 (.cons (w1.mono s2.ext (Step.wait s1 s2)) w2)
    · cases e
  · cases e
theorem ma_nil : PA X [] (tL (ux X) xNil) := pa_mono pa_nil fun _ _ _ q => xNil_reads q
theorem ma_cons {m : Ex} {ms : Lx} (h : PE X e (tM (ux X) m)) (t : PA X es (tL (ux X) ms)) (hs : starEach (e :: es) X.env = (false, eval e X.env) :: starEach es X.env := by rfl) : PA X (e :: es) (tL (ux X) (xCons m ms)) := pa_mono (pa_cons h t hs) fun _ _ _ q => xCons_reads q
theorem mh_nil : PA X [] (tH (ux X) hNil) := pa_mono pa_nil fun _ _ _ q => hNil_reads q
theorem mh_cons {m : Ox} {ms : Hx} (h : PE X e (tO (ux X) m)) (t : PA X es (tH (ux X) ms)) (hs : starEach (e :: es) X.env = (false, eval e X.env) :: starEach es X.env := by rfl) : PA X (e :: es) (tH (ux X) (hCons m ms)) := pa_mono (pa_cons h t hs) fun _ _ _ q => hCons_reads q
theorem mk_nil : PK X [] (tH (ux X) hNil) := pk_mono pk_nil fun _ _ _ q => hNil_reads q
theorem mk_cons {m : Ox} {ms : Hx} {kws : List Keyword} {nm : Option Str} {kpos : Pos} (h : PE X e (tO (ux X) m)) (t : PK X kws (tH (ux X) ms)) : PK X (⟨nm, e, kpos⟩ :: kws) (tH (ux X) (hCons m ms)) := pk_mono (pk_cons h t) fun _ _ _ q => hCons_reads q

/-! ### displays -/
def lineOk (n : Nat) : Bool := decide (n ≤ sizeLine)
def dLst (m : Lx) : Ex := fun E => match m E with
  | some (ds, E1) => if lineOk ds.length = true then some (.lst true ds, E1) else none
  | none => none
def mkTup (ds : List D) : D := .tup (!frozenL ds) ds
def dTup (m : Lx) : Ex := fun E => match m E with
  | some (ds, E1) => if lineOk ds.length = true then some (mkTup ds, E1) else none
  | none => none
theorem mv_lst {m : Lx} (h : PA X es (tL (ux X) m)) : PE X (.List es pos) (tM (ux X) (dLst m)) := pe_mono (pe_lst h) fun σ H Q q => by
  obtain ⟨E, F, as, d, E', g, rE, e, q⟩ := q
  unfold dLst at e
  split at e
  · rename_i ds E1 e1
    split at e
    · rename_i hl
      cases e
      refine ⟨E, F, as, ds, E', g, rE, e1, fun vs F1 H1 bs as1 s1 r1 w => ⟨by rw [w.len]; exact of_decide_eq_true hl, fun p hp => ?_⟩⟩
      have t := Step.alloc (o := .lst vs) s1.good.zero hp
      have t2 : Step F1 H1 (bs ++ as1) F1 (upd H1 p (.lst vs)) ((p :: bs) ++ as1) := (t.frame s1.good).perm (by
        refine List.perm_append_comm.trans ?_
        exact List.Perm.refl _)
      have ne : ∀ a ∈ bs ++ as1, a ≠ p := fun a z => fun q => s1.good.on a z (q ▸ hp)
      refine q (.ref p) F1 _ (p :: bs) as1 (s1.trans t2) (r1.mono (Fle.refl _) fun a z => upd_ne (ne a (List.mem_append_right _ z))) ?_
      exact .lstO upd_same (w.mono (Fle.refl _) fun a z => upd_ne (ne a (List.mem_append_left _ z)))
    · cases e
  · cases e
theorem mv_tup {k} {m : Lx} (h : PA X es (tL (ux X) m)) : PE X (.Tuple es k pos) (tM (ux X) (dTup m)) := pe_mono (pe_tup h) fun σ H Q q => by
  obtain ⟨E, F, as, d, E', g, rE, e, q⟩ := q
  unfold dTup at e
  split at e
  · rename_i ds E1 e1
    split at e
    · rename_i hl
      cases e
      refine ⟨E, F, as, ds, E', g, rE, e1, fun vs F1 H1 bs as1 s1 r1 w => ⟨by rw [w.len]; exact of_decide_eq_true hl, fun p hp => ?_⟩⟩
      have ne : ∀ a ∈ bs ++ as1, a ≠ p := fun a z => fun q => s1.good.on a z (q ▸ hp)
      unfold mkTup at q
      cases hf : frozenL ds with
      | true =>
        rw [hf] at q
        have e0 : bs = [] := w.frozen.mp hf
        subst e0
        have t := Step.allocF (o := .tup vs) s1.good.zero hp
        obtain ⟨s3, r3⟩ := fin s1 r1 t
        exact q (.ref p) _ _ [] as1 s3 r3 (.tupS (.inl (.inl upd_same)) (w.mono0 t.ext))
      | false =>
        rw [hf] at q
        have t := Step.alloc (o := .tup vs) s1.good.zero hp
        have t2 : Step F1 H1 (bs ++ as1) F1 (upd H1 p (.tup vs)) ((p :: bs) ++ as1) := (t.frame s1.good).perm (by
          refine List.perm_append_comm.trans ?_
          exact List.Perm.refl _)
        refine q (.ref p) F1 _ (p :: bs) as1 (s1.trans t2) (r1.mono (Fle.refl _) fun a z => upd_ne (ne a (List.mem_append_right _ z))) ?_
        exact .tupO upd_same (w.mono (Fle.refl _) fun a z => upd_ne (ne a (List.mem_append_left _ z)))
    · cases e
  · cases e
end
end MP

/-! Mirror layer, part 3: statements, targets, loops, calls, comprehensions. -/
namespace MP
open PySem PySem.Spec L2

inductive Ctl where
  | nx
  | bk
  | ct
  | rt (d : D)
  | rs (n : Str) (ks : List Str) (xs : List D)
/-- what is wished of exceptions -/
class WC where
  W : WX
abbrev WC0 : WC := ⟨fun _ _ _ _ => False⟩
abbrev Sm := En → Option (Ctl × En)
abbrev Gm := D → En → Option En
abbrev Gs := List D → En → Option En
abbrev Pn := Nat → Bool
def SameAt (pin : Pn) (σ σ' : Sl) : Prop := σ'.length = σ.length ∧ ∀ i, pin i = true → σ'[i]? = σ[i]?
theorem SameAt.refl (pin : Pn) (σ : Sl) : SameAt pin σ σ := ⟨rfl, fun _ _ => rfl⟩
theorem SameAt.trans {pin : Pn} {σ σ1 σ2 : Sl} (a : SameAt pin σ σ1) (b : SameAt pin σ1 σ2) : SameAt pin σ σ2 := ⟨b.1.trans a.1, fun i h => (b.2 i h).trans (a.2 i h)⟩
theorem SameAt.set {pin : Pn} {σ : Sl} {i : Nat} {s : Option V} (h : pin i = false) : SameAt pin σ (σ.set i s) := ⟨List.length_set, fun j hj => by
  have : i ≠ j := fun e => by
    subst e
    rw [h] at hj
    cases hj
  rw [List.getElem?_set_ne this]⟩
theorem SameAt.weak {pin pin' : Pn} {σ σ' : Sl} (h : ∀ i, pin i = true → pin' i = true) (a : SameAt pin' σ σ') : SameAt pin σ σ' := ⟨a.1, fun i q => a.2 i (h i q)⟩

def OutOk (U : Wd) [wc : WC] (pin : Pn) (D : Ends) (σ : Sl) (F H : Hp) (as : List Addr) (E' : En) : Ctl → Prop
  | .nx => ∀ σ' F' H' as', Step F H as F' H' as' → REnv U F' H' σ' E' as' → SameAt pin σ σ' → D.nx σ' H'
  | .bk => ∀ σ' F' H' as', Step F H as F' H' as' → REnv U F' H' σ' E' as' → SameAt pin σ σ' → D.bk σ' H'
  | .ct => ∀ σ' F' H' as', Step F H as F' H' as' → REnv U F' H' σ' E' as' → SameAt pin σ σ' → D.ct σ' H'
  | .rt d => ∀ v σ' F' H' bs as', Step F H as F' H' (bs ++ as') → REnv U F' H' σ' E' as' → SameAt pin σ σ' → Rp U F' H' v d bs → D.rt v H'
  | .rs n ks xs => ∃ C, U.mg n = some (.ref C) ∧ ∀ dx vs σ' F' H' as', Step F H as F' H' as' → REnv U F' H' σ' E' as' → SameAt pin σ σ' → RpL U F' H' vs xs [] → F' dx = some (.xd (ks.zip vs)) → wc.W (.ref C) (some dx) σ' H'
def tS (U : Wd) [wc : WC] (pin : Pn) (m : Sm) : TS := fun D σ H => ∃ (E : En) (F : Hp) (as : List Addr) (c : Ctl) (E' : En), Good F H as ∧ REnv U F H σ E as ∧ m E = some (c, E') ∧ OutOk U pin D σ F H as E' c
theorem OutOk.step {U : Wd} [WC] {pin : Pn} {D : Ends} {σ σ1 : Sl} {F F1 H H1 : Hp} {as as1 : List Addr} {E' : En} {c : Ctl} (q : OutOk U pin D σ F H as E' c) (s : Step F H as F1 H1 as1) (p : SameAt pin σ σ1) : OutOk U pin D σ1 F1 H1 as1 E' c := by
  cases c with
  | nx => exact fun σ' F' H' as' t r w => q σ' F' H' as' (s.trans t) r (p.trans w)
  | bk => exact fun σ' F' H' as' t r w => q σ' F' H' as' (s.trans t) r (p.trans w)
  | ct => exact fun σ' F' H' as' t r w => q σ' F' H' as' (s.trans t) r (p.trans w)
  | rt d => exact fun v σ' F' H' bs as' t r w z => q v σ' F' H' bs as' (s.trans t) r (p.trans w) z
  | rs n ks xs =>
    obtain ⟨C, e, q⟩ := q
    exact ⟨C, e, fun dx vs σ' F' H' as' t r w z y => q dx vs σ' F' H' as' (s.trans t) r (p.trans w) z y⟩

/-! ### small statements -/
def sSkip : Sm := fun E => some (.nx, E)
def sBreak : Sm := fun E => some (.bk, E)
def sCont : Sm := fun E => some (.ct, E)
def sNever : Sm := fun _ => none
def sSeq (a b : Sm) : Sm := fun E => match a E with
  | some (.nx, E1) => b E1
  | r => r
def sDrop (m : Ex) : Sm := fun E => match m E with
  | some (_, E1) => some (.nx, E1)
  | none => none
def sRet (m : Ex) : Sm := fun E => match m E with
  | some (d, E1) => some (.rt d, E1)
  | none => none
def sRetN : Sm := fun E => some (.rt .non, E)
def sIf (t : Tx) (a b : Sm) : Sm := fun E => match t E with
  | some (true, E1) => a E1
  | some (false, E1) => b E1
  | none => none
def sAsg (m : Ex) (g : Gm) : Sm := fun E => match m E with
  | some (d, E1) => match g d E1 with
    | some E2 => some (.nx, E2)
    | none => none
  | none => none
/-- a target's reading -/
def tG (U : Wd) (pin : Pn) (m : Gm) : TG := fun v σ H Q => ∃ (E : En) (F : Hp) (bs as : List Addr) (d : D) (E' : En), Good F H (bs ++ as) ∧ REnv U F H σ E as ∧ Rp U F H v d bs ∧ m d E = some E' ∧
  ∀ σ' F' H' as', Step F H (bs ++ as) F' H' as' → REnv U F' H' σ' E' as' → SameAt pin σ σ' → Q σ' H'
def tGs (U : Wd) (pin : Pn) (m : Gs) : TGs := fun vs σ H Q => ∃ (E : En) (F : Hp) (bs as : List Addr) (ds : List D) (E' : En), Good F H (bs ++ as) ∧ REnv U F H σ E as ∧ RpL U F H vs ds bs ∧ m ds E = some E' ∧
  ∀ σ' F' H' as', Step F H (bs ++ as) F' H' as' → REnv U F' H' σ' E' as' → SameAt pin σ σ' → Q σ' H'
def gSet (i : Nat) : Gm := fun d E => if i < E.length then some (E.set i (some d)) else none
def gNo : Gs := fun ds E => match ds with
  | [] => some E
  | _ => none
def gOne (g : Gm) (gs : Gs) : Gs := fun ds E => match ds with
  | d :: r => match g d E with
    | some E1 => gs r E1
    | none => none
  | [] => none
def gTup' (n : Nat) (gs : Gs) : Gm := fun d E => match d with
  | .tup _ ds => if ds.length = n then gs ds E else none
  | _ => none
section
variable [LE] [WC] {X : Cx} {st : Stmt} {rest : List Stmt} {e : Expr} {pos : Pos} {pin : Pn}
theorem ms_nil : PSs X [] (tS (ux X) pin sSkip) := pss_mono pss_nil fun D σ H q => by
  obtain ⟨E, F, as, c, E', g, r, e, q⟩ := q
  cases e
  exact q σ F H as (Step.refl g) r (SameAt.refl _ _)
theorem ms_never : PSs X rest (tS (ux X) pin sNever) := pss_mono pss_never fun D σ H q => by
  obtain ⟨E, F, as, c, E', g, r, e, q⟩ := q
  cases e
theorem ms_never1 : PS X st (tS (ux X) pin sNever) := ps_mono ps_never fun D σ H q => by
  obtain ⟨E, F, as, c, E', g, r, e, q⟩ := q
  cases e
theorem ms_cons {a b : Sm} (h : PS X st (tS (ux X) pin a)) (t : PSs X rest (tS (ux X) pin b)) : PSs X (st :: rest) (tS (ux X) pin (sSeq a b)) := pss_mono (pss_cons h t) fun D σ H q => by
  obtain ⟨E, F, as, c, E', g, r, e, q⟩ := q
  unfold sSeq at e
  split at e
  · rename_i E1 e1
    refine ⟨E, F, as, .nx, E1, g, r, e1, fun σ' F' H' as' s r1 w => ?_⟩
    exact ⟨E1, F', as', c, E', s.good, r1, e, q.step s w⟩
  · rename_i hn
    refine ⟨E, F, as, c, E', g, r, e, ?_⟩
    cases c with
    | nx => exact absurd e (hn _)
    | bk => exact q
    | ct => exact q
    | rt d => exact q
    | rs n ks xs => exact q
theorem ms_one {a : Sm} (h : PS X st (tS (ux X) pin a)) : PSs X [st] (tS (ux X) pin a) := pss_one h
theorem ms_pass : PS X (.Pass pos) (tS (ux X) pin sSkip) := ps_mono ps_pass fun D σ H q => by
  obtain ⟨E, F, as, c, E', g, r, e, q⟩ := q
  cases e
  exact q σ F H as (Step.refl g) r (SameAt.refl _ _)
theorem ms_break : PS X (.Break pos) (tS (ux X) pin sBreak) := ps_mono ps_break fun D σ H q => by
  obtain ⟨E, F, as, c, E', g, r, e, q⟩ := q
  cases e
  exact q σ F H as (Step.refl g) r (SameAt.refl _ _)
theorem ms_cont : PS X (.Continue pos) (tS (ux X) pin sCont) := ps_mono ps_continue fun D σ H q => by
  obtain ⟨E, F, as, c, E', g, r, e, q⟩ := q
  cases e
  exact q σ F H as (Step.refl g) r (SameAt.refl _ _)
theorem ms_drop {m : Ex} (h : PE X e (tM (ux X) m)) (hs : swapsWith e none pos.line X.env = pure false := by rfl) : PS X (.Expr e pos) (tS (ux X) pin (sDrop m)) := ps_mono (ps_expr h hs) fun D σ H q => by
  obtain ⟨E, F, as, c, E', g, r, e, q⟩ := q
  unfold sDrop at e
  split at e
  · rename_i d E1 e1
    cases e
    exact ⟨E, F, as, d, E', g, r, e1, fun v F' H' bs as' s r1 w => q σ F' H' as' s.right r1 (SameAt.refl _ _)⟩
  · cases e
theorem ms_ret {m : Ex} (h : PE X e (tM (ux X) m)) : PS X (.Return (some e) pos) (tS (ux X) pin (sRet m)) := ps_mono (ps_ret h) fun D σ H q => by
  obtain ⟨E, F, as, c, E', g, r, e, q⟩ := q
  unfold sRet at e
  split at e
  · rename_i d E1 e1
    cases e
    exact ⟨E, F, as, d, E', g, r, e1, fun v F' H' bs as' s r1 w => q v σ F' H' bs as' s r1 (SameAt.refl _ _) w⟩
  · cases e
theorem ms_retN : PS X (.Return none pos) (tS (ux X) pin sRetN) := ps_mono ps_retN fun D σ H q => by
  obtain ⟨E, F, as, c, E', g, r, e, q⟩ := q
  cases e
  exact q .non σ F H [] as (Step.refl g) r (SameAt.refl _ _) .non
theorem ms_if {c : Expr} {a b : List Stmt} {t : Tx} {ma mb : Sm} (hc : PT X c (tT (ux X) t)) (ha : PSs X a (tS (ux X) pin ma)) (hb : PSs X b (tS (ux X) pin mb)) : PS X (.If c a b pos) (tS (ux X) pin (sIf t ma mb)) := ps_mono (ps_if hc ha hb) fun D σ H q => by
  obtain ⟨E, F, as, c, E', g, r, e, q⟩ := q
  unfold sIf at e
  split at e
  · rename_i E1 e1
    refine ⟨E, F, as, true, E1, g, r, e1, fun F1 H1 as1 s1 r1 => ?_⟩
    show (if true = true then _ else _)
    rw [if_pos rfl]
    exact ⟨E1, F1, as1, c, E', s1.good, r1, e, q.step s1 (SameAt.refl _ _)⟩
  · rename_i E1 e1
    refine ⟨E, F, as, false, E1, g, r, e1, fun F1 H1 as1 s1 r1 => ?_⟩
    show (if false = true then _ else _)
    rw [if_neg Bool.false_ne_true]
    exact ⟨E1, F1, as1, c, E', s1.good, r1, e, q.step s1 (SameAt.refl _ _)⟩
  · cases e
/-! targets -/
theorem mg_name {i : Nat} {x : Str} (h : PG X (.Name x pos) (gName i)) (hp : pin i = false) : PG X (.Name x pos) (tG (ux X) pin (gSet i)) := ⟨fun pins s σ H v u Q I r q => h.run pins s σ H v u Q I r (by
  obtain ⟨E, F, bs, as, d, E', g, rE, w, e, q⟩ := q
  unfold gSet at e
  split at e
  · rename_i hi
    cases e
    obtain ⟨a0, rest, p, r1⟩ := rE.store hi w
    have p2 : (bs ++ as).Perm (a0 ++ (bs ++ rest)) := (p.append_left bs).trans (by
      rw [← List.append_assoc, ← List.append_assoc]
      exact List.perm_append_comm.append_right rest)
    exact q _ F H (bs ++ rest) (((Step.refl g).perm p2).right) r1 (SameAt.set hp)
  · cases e)⟩
theorem mgs_nil : PGs X [] (tGs (ux X) pin gNo) := ⟨fun pins s σ H vs us Q I r q => (pgs_nil (X := X)).run pins s σ H vs us Q I r (by
  obtain ⟨E, F, bs, as, ds, E', g, rE, w, e, q⟩ := q
  unfold gNo at e
  split at e
  · cases e
    cases w
    exact ⟨rfl, q σ F H as (Step.refl g) rE (SameAt.refl _ _)⟩
  · cases e)⟩
theorem mgs_cons {es : List Expr} {a : Gm} {b : Gs} (h1 : PG X e (tG (ux X) pin a)) (h2 : PGs X es (tGs (ux X) pin b)) (hs : (assignEach (e :: es) X.env).map (·.2) = assign e X.env :: (assignEach es X.env).map (·.2) := by rfl) : PGs X (e :: es) (tGs (ux X) pin (gOne a b)) :=
  ⟨fun pins s σ H vs us Q I r q => (pgs_cons h1 h2 hs).run pins s σ H vs us Q I r (by
  obtain ⟨E, F, bs, as, ds, E', g, rE, w, e, q⟩ := q
  unfold gOne at e
  split at e
  · rename_i d dr
    split at e
    · rename_i E1 e1
      cases w with
      | @cons v _ vr _ b1 b2 w1 w2 =>
        have g' : Good F H (b1 ++ (b2 ++ as)) := by rw [← List.append_assoc]; exact g
        have gp : Good F H (b2 ++ (b1 ++ as)) := g'.perm (by
          rw [← List.append_assoc, ← List.append_assoc]
          exact List.perm_append_comm.append_right as)
        refine ⟨v, vr, rfl, E, F, b1, as, d, E1, gp.sub (fun b z => List.mem_append_right _ z) (List.nodup_append.mp gp.nd).2.1, rE, w1, e1, fun σ1 F1 H1 as1 s1 r1 p1 => ?_⟩
        have s0 : Step F H ((b1 ++ b2) ++ as) F H (b2 ++ (b1 ++ as)) := (Step.refl g).perm (by
          rw [List.append_assoc, ← List.append_assoc b1, ← List.append_assoc b2]
          exact List.perm_append_comm.append_right as)
        have s2 : Step F H ((b1 ++ b2) ++ as) F1 H1 (b2 ++ as1) := s0.seq s1
        refine ⟨E1, F1, b2, as1, dr, E', s2.good, r1, w2.mono s1.ext (Step.wait s0 s1), e, fun σ' F' H' as' s r w => ?_⟩
        exact q σ' F' H' as' (s2.trans s) r (p1.trans w)
    · cases e
  · cases e)⟩
theorem mg_tup {es : List Expr} {k n : Nat} {gs : Gs} (hc : X.calm = true) (h : PGs X es (tGs (ux X) pin gs)) (hn : (assignEach es X.env).length = n := by rfl) (hst : (assignEach es X.env).findIdx? (·.1) = none := by rfl) : PG X (.Tuple es k pos) (tG (ux X) pin (gTup' n gs)) :=
  ⟨fun pins s σ H v u Q I r q => (pg_tup hc h hn hst).run pins s σ H v u Q I r (by
  obtain ⟨E, F, bs, as, d, E', g, rE, w, e, q⟩ := q
  unfold gTup' at e
  split at e
  · rename_i o ds
    split at e
    · rename_i hl
      cases w with
      | tupS w1 w2 => exact ⟨_, _, rfl, g.le.seqT w1, w2.len.trans hl, E, F, [], as, ds, E', g, rE, w2, e, q⟩
      | @tupO a vs _ b2 w1 w2 =>
        refine ⟨_, _, rfl, .inl (.inl w1), w2.len.trans hl, E, F, b2, as, ds, E', g.sub (fun b z => List.mem_cons_of_mem a z) (List.nodup_cons.mp g.nd).2, rE, w2, e, fun σ' F' H' as' s r w => ?_⟩
        exact q σ' F' H' as' (s.start (fun b z => List.mem_cons_of_mem a z) g.on) r w
    · cases e
  · cases e)⟩
theorem ms_asg {tg : Expr} {m : Ex} {gm : Gm} (he : PE X e (tM (ux X) m)) (hg : PG X tg (tG (ux X) pin gm)) (hs : swapsWithSole [tg] e pos.line X.env = pure false := by rfl) (hw : swappedStores [tg] e X.env = pure none := by rfl)
    (h1 : (assignEach [tg] X.env).map (·.2) = [assign tg X.env] := by rfl) : PS X (.Assign [tg] e pos) (tS (ux X) pin (sAsg m gm)) := ps_mono (ps_asg he hg hs hw h1) fun D σ H q => by
  obtain ⟨E, F, as, c, E', g, r, e, q⟩ := q
  unfold sAsg at e
  split at e
  · rename_i d E1 e1
    split at e
    · rename_i E2 e2
      cases e
      refine ⟨E, F, as, d, E1, g, r, e1, fun v F1 H1 bs as1 s1 r1 w => ?_⟩
      exact ⟨E1, F1, bs, as1, d, E', s1.good, r1, w, e2, fun σ' F' H' as' s r p => q σ' F' H' as' (s1.trans s) r p⟩
    · cases e
  · cases e
/-- name = [.. for ..] on one line -/
theorem ms_asg' {tg : Expr} {m : Ex} {gm : Gm} {t : TE} {g0 : TG} (h : PS X (.Assign [tg] e pos) (tAsg t g0)) (ht : ∀ σ H Q, tM (ux X) m σ H Q → t σ H Q) (hg : ∀ v σ H Q, tG (ux X) pin gm v σ H Q → g0 v σ H Q) : PS X (.Assign [tg] e pos) (tS (ux X) pin (sAsg m gm)) := ps_mono h fun D σ H q => by
  obtain ⟨E, F, as, c, E', g, r, e, q⟩ := q
  unfold sAsg at e
  split at e
  · rename_i d E1 e1
    split at e
    · rename_i E2 e2
      cases e
      refine ht σ H _ ⟨E, F, as, d, E1, g, r, e1, fun v F1 H1 bs as1 s1 r1 w => ?_⟩
      exact hg v σ H1 _ ⟨E1, F1, bs, as1, d, E', s1.good, r1, w, e2, fun σ' F' H' as' s r p => q σ' F' H' as' (s1.trans s) r p⟩
    · cases e
  · cases e
/-- a, b = x, y with plain local names -/
def sPar (i j : Nat) (m : Lx) : Sm := fun E => match m E with
  | some ([d, d'], E1) => if i < E1.length then (if j < E1.length then some (.nx, (E1.set i (some d)).set j (some d')) else none) else none
  | _ => none
theorem ms_par {i j : Nat} {x y : Str} {a b : Expr} {m : Lx} {px py pt : Pos} {kt k2 pt2} (h : PS X (.Assign [.Tuple [.Name x px, .Name y py] kt pt] (.Tuple [a, b] k2 pt2) pos) (tPar i j (tL (ux X) m))) (hi : pin i = false) (hj : pin j = false) :
    PS X (.Assign [.Tuple [.Name x px, .Name y py] kt pt] (.Tuple [a, b] k2 pt2) pos) (tS (ux X) pin (sPar i j m)) := ps_mono h fun D σ H q => by
  obtain ⟨E, F, as, c, E', g, r, e, q⟩ := q
  unfold sPar at e
  split at e
  · rename_i d d' E1 e1
    split at e
    · rename_i l1
      split at e
      · rename_i l2
        cases e
        refine ⟨E, F, as, _, E1, g, r, e1, fun vs F1 H1 bs as1 s1 r1 w => ?_⟩
        cases w with
        | @cons v _ vr _ b1 b2 w1 w2 =>
          cases w2 with
          | @cons v' _ vr _ b3 b4 w3 w4 =>
            cases w4
            refine ⟨v, v', rfl, ?_⟩
            obtain ⟨a0, rest, p, r2⟩ := r1.store l1 w1
            obtain ⟨a0', rest', p', r3⟩ := r2.store (by simpa using l2) w3
            rw [List.append_nil] at s1
            have p2 : (b1 ++ b3 ++ as1).Perm ((a0 ++ a0') ++ (b3 ++ rest')) := by
              have q1 : (b1 ++ b3 ++ as1).Perm (b1 ++ b3 ++ (a0 ++ rest)) := p.append_left _
              have q2 : (b1 ++ b3 ++ (a0 ++ rest)).Perm (a0 ++ (b3 ++ (b1 ++ rest))) := by
                refine List.Perm.trans (l₂ := (b1 ++ b3) ++ a0 ++ rest) (by simp) ?_
                refine List.Perm.trans (List.Perm.append_right rest List.perm_append_comm) ?_
                rw [List.append_assoc]
                refine List.Perm.append_left a0 ?_
                refine List.Perm.trans (List.Perm.append_right rest List.perm_append_comm) ?_
                rw [List.append_assoc]
              have q3 : (a0 ++ (b3 ++ (b1 ++ rest))).Perm (a0 ++ (b3 ++ (a0' ++ rest'))) := (p'.append_left _).append_left _
              have q4 : (a0 ++ (b3 ++ (a0' ++ rest'))).Perm ((a0 ++ a0') ++ (b3 ++ rest')) := by
                rw [List.append_assoc]
                refine List.Perm.append_left a0 ?_
                rw [← List.append_assoc, ← List.append_assoc]
                exact List.Perm.append_right rest' List.perm_append_comm
              exact q1.trans (q2.trans (q3.trans q4))
            exact q _ F1 H1 (b3 ++ rest') ((s1.perm p2).right) r3 ((SameAt.set hi).trans (SameAt.set hj))
      · cases e
    · cases e
  · cases e
end

/-! ### forgetting slots -/
def kill : List Nat → En → En
  | [], E => E
  | i :: is, E => kill is (E.set i none)
theorem REnv.kill {U : Wd} {F H : Hp} {σ : Sl} : ∀ (is : List Nat) {E : En} {as : List Addr}, REnv U F H σ E as → ∃ a0 rest, as.Perm (a0 ++ rest) ∧ REnv U F H σ (MP.kill is E) rest
  | [], E, as, h => ⟨[], as, List.Perm.refl _, h⟩
  | i :: is, E, as, h => by
    obtain ⟨a0, rest, p, r⟩ := h.drop i
    obtain ⟨a1, rest1, p1, r1⟩ := REnv.kill is r
    exact ⟨a0 ++ a1, rest1, p.trans (by rw [List.append_assoc]; exact p1.append_left a0), r1⟩
def sKill (is : List Nat) : Sm := fun E => some (.nx, kill is E)

/-! ### while -/
def sWhile (c : Tx) (b : Sm) (dead : List Nat) : Nat → Sm
  | 0 => fun _ => none
  | n + 1 => fun E => match c E with
    | some (false, E1) => some (.nx, E1)
    | some (true, E1) => match b E1 with
      | some (.nx, E2) => sWhile c b dead n (kill dead E2)
      | some (.ct, E2) => sWhile c b dead n (kill dead E2)
      | some (.bk, E2) => some (.nx, E2)
      | some (.rt d, E2) => some (.rt d, E2)
      | some (.rs n ks xs, E2) => some (.rs n ks xs, E2)
      | none => none
    | none => none
section
variable [LE] [WC] {X : Cx} {pin : Pn} {pos : Pos}
theorem ms_while {c : Expr} {body : List Stmt} {t : Tx} {b : Sm} {dead : List Nat} {n : Nat} (hp : PassesOwn (model X.prog X.w) X.A X.env X.xe) (hc : PT X c (tT (ux X) t)) (hb : PSs X body (tS (ux X) pin b)) : PS X (.While c body [] pos) (tS (ux X) pin (sWhile t b dead n)) :=
  ps_mono (ps_while hp hc hb) fun D σ H q => by
  refine ⟨fun m σ H => tS (ux X) pin (sWhile t b dead m) D σ H, ⟨n, q⟩, ?_⟩
  rintro m σ H ⟨E, F, as, c, E', g, r, e, q⟩
  cases m with
  | zero => cases e
  | succ m =>
    unfold sWhile at e
    split at e
    · rename_i E1 e1
      cases e
      refine ⟨E, F, as, false, E', g, r, e1, fun F1 H1 as1 s1 r1 => ?_⟩
      show (if false = true then _ else _)
      rw [if_neg Bool.false_ne_true]
      exact q σ F1 H1 as1 s1 r1 (SameAt.refl _ _)
    · rename_i E1 e1
      refine ⟨E, F, as, true, E1, g, r, e1, fun F1 H1 as1 s1 r1 => ?_⟩
      show (if true = true then _ else _)
      rw [if_pos rfl]
      refine ⟨fun σ' H' => tS (ux X) pin (sWhile t b dead m) D σ' H', fun σ' H' z => ⟨m, Nat.lt_succ_self m, z⟩, ?_⟩
      split at e
      · rename_i E2 e2
        refine ⟨E1, F1, as1, .nx, E2, s1.good, r1, e2, fun σ' F2 H2 as2 s2 r2 w => ?_⟩
        obtain ⟨a0, rest, p, r3⟩ := r2.kill dead
        exact ⟨_, F2, rest, c, E', ((Step.refl s2.good).perm p).right.good, r3, e, q.step (s1.trans ((s2.perm p).right)) w⟩
      · rename_i E2 e2
        refine ⟨E1, F1, as1, .ct, E2, s1.good, r1, e2, fun σ' F2 H2 as2 s2 r2 w => ?_⟩
        obtain ⟨a0, rest, p, r3⟩ := r2.kill dead
        exact ⟨_, F2, rest, c, E', ((Step.refl s2.good).perm p).right.good, r3, e, q.step (s1.trans ((s2.perm p).right)) w⟩
      · rename_i E2 e2
        cases e
        exact ⟨E1, F1, as1, .bk, E', s1.good, r1, e2, fun σ' F2 H2 as2 s2 r2 w => q σ' F2 H2 as2 (s1.trans s2) r2 w⟩
      · rename_i d E2 e2
        cases e
        exact ⟨E1, F1, as1, .rt d, E', s1.good, r1, e2, fun v σ' F2 H2 bs as2 s2 r2 w z => q v σ' F2 H2 bs as2 (s1.trans s2) r2 w z⟩
      · rename_i n1 k1 x1 E2 e2
        cases e
        obtain ⟨C, eC, q⟩ := q
        exact ⟨E1, F1, as1, .rs n1 k1 x1, E', s1.good, r1, e2, C, eC, fun dx vs σ' F2 H2 as2 s2 r2 w z y => q dx vs σ' F2 H2 as2 (s1.trans s2) r2 w z y⟩
      · cases e
    · cases e
end

/-! ### handing over: handles taken out of the environment, and put back -/
def takeL : List Hd → En → Option (List D × En)
  | [], E => some ([], E)
  | .val d :: hs, E => match takeL hs E with
    | some (ds, E1) => some (d :: ds, E1)
    | none => none
  | .slot i :: hs, E => match E[i]? with
    | some (some d) => match takeL hs (if d.frozen = true then E else E.set i none) with
      | some (ds, E1) => some (d :: ds, E1)
      | none => none
    | _ => none
def putL : List Hd → List D → List (Option D) → En → En
  | .slot i :: hs, d :: ds, f :: fs, E => putL hs ds fs (if d.frozen = true then E else E.set i f)
  | .val _ :: hs, _ :: ds, _ :: fs, E => putL hs ds fs E
  | _, _, _, E => E
/-- the handles' slots hold the values -/
inductive HsAt (σ : Sl) : List V → List Hd → Prop where
  | nil : HsAt σ [] []
  | slot {i : Nat} {v : V} {vs : List V} {hs : List Hd} : σ[i]? = some (some v) → HsAt σ vs hs → HsAt σ (v :: vs) (.slot i :: hs)
  | val {d : D} {v : V} {vs : List V} {hs : List Hd} : HsAt σ vs hs → HsAt σ (v :: vs) (.val d :: hs)
section
variable {U : Wd} {F H : Hp} {σ : Sl}
theorem RpHL.at : ∀ {vs : List V} {hs : List Hd} {bs : List Addr}, RpHL U F H σ vs hs bs → HsAt σ vs hs
  | _, _, _, .nil => .nil
  | _, .slot i :: _, _, .cons q t => .slot q.2 t.at
  | _, .val d :: _, _, .cons q t => .val t.at
theorem takeL_ok : ∀ {vs : List V} {hs : List Hd} {bs : List Addr} {E E2 : En} {as : List Addr} {ds : List D}, RpHL U F H σ vs hs bs → REnv U F H σ E as → takeL hs E = some (ds, E2) →
    ∃ ws as2, RpL U F H vs ds ws ∧ REnv U F H σ E2 as2 ∧ (bs ++ as).Perm (ws ++ as2)
  | _, _, _, E, E2, as, ds, .nil, r, e => by
    cases e
    exact ⟨[], as, .nil, r, List.Perm.refl _⟩
  | _, .val d :: hs, _, E, E2, as, ds, .cons (as := b1) (bs := b2) q t, r, e => by
    unfold takeL at e
    split at e
    · rename_i ds' E1 e1
      cases e
      obtain ⟨ws, as2, h1, h2, h3⟩ := takeL_ok t r e1
      exact ⟨b1 ++ ws, as2, .cons q h1, h2, by rw [List.append_assoc, List.append_assoc]; exact h3.append_left b1⟩
    · cases e
  | _, .slot i :: hs, _, E, E2, as, ds, .cons (as := b1) (bs := b2) q t, r, e => by
    obtain ⟨q1, q2⟩ := q
    subst q1
    unfold takeL at e
    split at e
    · rename_i d ed
      obtain ⟨v, a1, rest, z1, z2, p, r2⟩ := r.take ed
      rw [q2] at z1
      cases z1
      by_cases hf : d.frozen = true
      · rw [if_pos hf] at e
        split at e
        · rename_i ds' E1 e1
          cases e
          obtain ⟨ws, as2, h1, h2, h3⟩ := takeL_ok t r e1
          have : a1 = [] := z2.nil_of hf
          subst this
          exact ⟨ws, as2, .cons (as := []) z2 h1, h2, h3⟩
        · cases e
      · rw [if_neg hf] at e
        split at e
        · rename_i ds' E1 e1
          cases e
          obtain ⟨ws, as2, h1, h2, h3⟩ := takeL_ok t r2 e1
          refine ⟨a1 ++ ws, as2, .cons z2 h1, h2, ?_⟩
          rw [List.nil_append, List.append_assoc]
          refine List.Perm.trans ?_ (h3.append_left a1)
          refine (p.append_left b2).trans ?_
          rw [← List.append_assoc, ← List.append_assoc]
          exact List.perm_append_comm.append_right rest
        · cases e
    · cases e
theorem putL_ok : ∀ {vs : List V} {hs : List Hd} {ds : List D} {fs : List (Option D)} {cs : List Addr} {E : En} {as : List Addr}, HsAt σ vs hs → RpE U F H (vs.map some) fs cs → REnv U F H σ E as →
    ∃ a0 as', (cs ++ as).Perm (a0 ++ as') ∧ REnv U F H σ (putL hs ds fs E) as'
  | _, [], ds, fs, cs, E, as, _, f, r => by
    unfold putL
    exact ⟨cs, as, List.Perm.refl _, r⟩
  | _, .val d :: hs, [], fs, cs, E, as, _, f, r => by
    unfold putL
    exact ⟨cs, as, List.Perm.refl _, r⟩
  | _, .slot d :: hs, [], fs, cs, E, as, _, f, r => by
    unfold putL
    exact ⟨cs, as, List.Perm.refl _, r⟩
  | _, .val d' :: hs, d :: ds, [], cs, E, as, _, f, r => by
    unfold putL
    exact ⟨cs, as, List.Perm.refl _, r⟩
  | _, .slot d' :: hs, d :: ds, [], cs, E, as, _, f, r => by
    unfold putL
    exact ⟨cs, as, List.Perm.refl _, r⟩
  | _, .val d' :: hs, d :: ds, f :: fs, cs, E, as, .val t, q, r => by
    show ∃ a0 as', (cs ++ as).Perm (a0 ++ as') ∧ REnv U F H σ (putL hs ds fs E) as'
    cases q with
    | nn q => exact putL_ok t q r
    | @sm _ _ _ _ a1 c2 w q =>
      obtain ⟨a0, as', p, r'⟩ := putL_ok (ds := ds) t q r
      exact ⟨a1 ++ a0, as', by rw [List.append_assoc, List.append_assoc]; exact p.append_left a1, r'⟩
  | _, .slot i :: hs, d :: ds, f :: fs, cs, E, as, .slot hv t, q, r => by
    show ∃ a0 as', (cs ++ as).Perm (a0 ++ as') ∧ REnv U F H σ (putL hs ds fs (if d.frozen = true then E else E.set i f)) as'
    by_cases hf : d.frozen = true
    · rw [if_pos hf]
      cases q with
      | nn q => exact putL_ok t q r
      | @sm _ _ _ _ a1 c2 w q =>
        obtain ⟨a0, as', p, r'⟩ := putL_ok (ds := ds) t q r
        exact ⟨a1 ++ a0, as', by rw [List.append_assoc, List.append_assoc]; exact p.append_left a1, r'⟩
    · rw [if_neg hf]
      obtain ⟨b0, rest, p0, r0⟩ := r.drop i
      cases q with
      | nn q =>
        obtain ⟨a0, as', p, r'⟩ := putL_ok (ds := ds) t q r0
        refine ⟨b0 ++ a0, as', ?_, r'⟩
        refine (p0.append_left cs).trans ?_
        rw [List.append_assoc]
        refine List.Perm.trans ?_ (p.append_left b0)
        rw [← List.append_assoc, ← List.append_assoc]
        exact List.perm_append_comm.append_right rest
      | @sm _ dd _ _ a1 c2 w q =>
        by_cases hi : i < E.length
        · have r1 := r0.putS (set_none_get hi) hv w
          rw [List.set_set] at r1
          obtain ⟨a0, as', p, r'⟩ := putL_ok (ds := ds) t q r1
          refine ⟨b0 ++ a0, as', ?_, r'⟩
          refine (p0.append_left _).trans ?_
          rw [List.append_assoc b0 a0 as']
          refine List.Perm.trans ?_ (p.append_left b0)
          have q1 : (a1 ++ c2 ++ (b0 ++ rest)).Perm (b0 ++ (a1 ++ c2 ++ rest)) := by
            rw [← List.append_assoc, ← List.append_assoc b0]
            exact List.perm_append_comm.append_right rest
          refine q1.trans (List.Perm.append_left b0 ?_)
          rw [← List.append_assoc]
          exact List.perm_append_comm.append_right rest
        · have l := r.len
          have : σ[i]? = none := List.getElem?_eq_none_iff.mpr (by omega)
          rw [this] at hv
          cases hv
end

/-! ### calls -/
abbrev Fm := List D → Option (D × List (Option D))
def xCall (mf : Fm) (m : Hx) : Ex := fun E => match m E with
  | some (hs, E1) => match takeL hs E1 with
    | some (ds, E2) => match mf ds with
      | some (d, fs) => some (d, putL hs ds fs E2)
      | none => none
    | none => none
  | none => none
/-- a def's promise by its mirror -/
def spM (U : Wd) (mf : Fm) : Sp := fun vs H Q _ => ∃ (F : Hp) (ds : List D) (ws : List Addr) (d : D) (fs : List (Option D)), Good F H ws ∧ RpL U F H vs ds ws ∧ mf ds = some (d, fs) ∧
  ∀ v F' H' bs cs, Step F H ws F' H' (bs ++ cs) → Rp U F' H' v d bs → REnv U F' H' (vs.map some) fs cs → Q v H'
theorem call_reads {U : Wd} {mf : Fm} {m : Hx} {σ : Sl} {H : Hp} {Q : VK} {E0 : XK} (q : tM U (xCall mf m) σ H Q) : tH U m σ H fun vs H1 => spM U mf vs H1 Q E0 := by
  obtain ⟨E, F, as, d, E', g, rE, e, q⟩ := q
  unfold xCall at e
  split at e
  · rename_i hs E1 e1
    split at e
    · rename_i ds E2 e2
      split at e
      · rename_i d' fs e3
        cases e
        refine ⟨E, F, as, hs, E1, g, rE, e1, fun vs F1 H1 b1 as1 s1 r1 w1 => ?_⟩
        obtain ⟨ws, as2, z1, z2, z3⟩ := takeL_ok w1 r1 e2
        have s2 := s1.perm z3
        refine ⟨F1, ds, ws, d, fs, s2.left.good, z1, e3, fun v F' H' bs cs s w r => ?_⟩
        have s2' : Step F H as F1 H1 (as2 ++ ws) := s2.perm List.perm_append_comm
        have s3 : Step F H as F' H' (as2 ++ (bs ++ cs)) := s2'.seq s
        have r2 : REnv U F' H' σ E2 as2 := z2.mono s.ext (Step.wait s2' s)
        obtain ⟨cs0, rc, pc⟩ := r
        obtain ⟨a0, as', p, r'⟩ := putL_ok (ds := ds) w1.at rc r2
        refine q v F' H' bs as' ?_ r' w
        have p2 : (as2 ++ (bs ++ cs)).Perm (a0 ++ (bs ++ as')) := by
          have q1 : (as2 ++ (bs ++ cs)).Perm (bs ++ (cs ++ as2)) := by
            rw [← List.append_assoc bs]
            exact List.perm_append_comm
          have q2 : (bs ++ (cs ++ as2)).Perm (bs ++ (a0 ++ as')) := ((pc.symm.append_right as2).trans p).append_left bs
          refine q1.trans (q2.trans ?_)
          rw [← List.append_assoc, ← List.append_assoc]
          exact List.perm_append_comm.append_right as'
        exact (s3.perm p2).right
      · cases e
    · cases e
  · cases e
/-- the def at f keeps its mirror, wherever nothing is being shown (no guard runs) -/
structure FnG (P : Program) (w : World) (K : PySem.W.Frag) (mg : Str → Option Value) (base : Heap) (k : Nat) (f : Addr) (fd : FuncData) (ps : List Str) (mf : Fm) : Prop where
  len : ∀ ds r, mf ds = some r → ds.length = ps.length
  run : ∀ (le : LE) (A : Around) (os : List PySem.Env) (s : Shared) (H : Hp) (args : Args) (us : List Value) (vs : List V) (Q : VK), Room k A → A.guards = some [] →
    Env0 P w K mg base A os s H → BindsTo s fd args (ps.zip us) → Vals vs us → spM ⟨P, w, K, base, mg, le⟩ mf vs H Q E0 → codeAny (model P w) A (.call (.ref f) args) (CR CX0 os P w H s Q E0) s
theorem spM_len {U : Wd} {mf : Fm} {n : Nat} (hl : ∀ ds r, mf ds = some r → ds.length = n) {vs : List V} {H : Hp} {Q : VK} {E : XK} (h : spM U mf vs H Q E) : vs.length = n := by
  obtain ⟨F, ds, ws, d, fs, g, l, e, q⟩ := h
  rw [l.len]
  exact hl _ _ e
section
variable [LE] [WC] {X : Cx} {e : Expr} {es : List Expr} {pos p : Pos} {k : Nat} {f : Addr} {fd : FuncData} {ps : List Str} {mf : Fm} {m : Hx} {x : Str}
/-- the call itself -/
theorem run_G (G : FnG X.prog X.w X.K X.mg X.base k f fd ps mf) (hr : Room k X.A) (gd : X.A.guards = some []) {ks : List (Str × Value)} {pins : List (Addr × Obj)} {σ : Sl} {H : Hp} {s : Shared} {Q : VK} {us ws : List Value} {vs : List V} (I : Inv X pins σ H s)
    (hb : BindsTo s fd ⟨ws, ks⟩ (ps.zip us)) (r : Vals vs us) (h : spM (ux X) mf vs H Q E0) : wpAny (model X.prog X.w) X.A (call (.ref f) ws ks) (EP X pins σ Q) X.xe s :=
  wpAny_call (codeAny_mono (G.run _ X.A X.stack s H _ us vs Q hr gd I.env0 hb r h) fun res s2 hres => match res, hres with
    | .error _, z => z.elim
    | .ok (.ret _), z => I.after z)
theorem mv_call (G : FnG X.prog X.w X.K X.mg X.base k f fd ps mf) (hr : Room k X.A) (gd : X.A.guards = some []) (hg : Gl X x) (hm : X.mg x = some (.ref f)) (hk : PySem.W.keepIn X.K (.ref f) = true) (hb : Binds X.K fd ps [])
    (ha : PA X (e :: es) (tH (ux X) m)) (hdb : (x == ("__debug__" : Str)) = false := by decide) (he : starEach (e :: es) X.env = (false, eval e X.env) :: starEach es X.env := by rfl) (hpl : (backTo pos (starEach es X.env)).any (·.1) = false := by rfl) :
    PE X (.Call (.Name x p) (e :: es) [] pos) (tM (ux X) (xCall mf m)) :=
  ⟨fun pins s σ H Q I q => wpAny_Call_Name_kw (ld_glob I hg hm (PySem.W.callWith_K (h₀ := X.base) I.ok.mod.kin hk (thn (ha.run pos pins s σ H _ I (call_reads (E0 := E0) q)) fun us s1 ⟨vs, H1, I1, r, z⟩ => ⟨I1.kIn, by
    have hl : (us ++ []).length = ps.length := by
      rw [List.append_nil, ← r.length]
      exact spM_len G.len z
    have hb1 := hb s1 us I1.kIn hl
    rw [List.append_nil] at hb1
    exact run_G G hr gd I1 hb1 r z⟩) he hpl) hdb)⟩
end

/-! ### defs -/
def finals : List Bool → En → List (Option D)
  | [], _ => []
  | true :: bs, x :: E => x :: finals bs E
  | false :: bs, _ :: E => none :: finals bs E
  | _ :: bs, [] => none :: finals bs []
def fnM (slots : Nat) (mask : List Bool) (body : Sm) : Fm := fun ds => if ds.length = mask.length then
    match body (ds.map some ++ List.replicate (slots - mask.length) none) with
    | some (.rt d, E') => some (d, finals mask E')
    | some (.nx, E') => some (.non, finals mask E')
    | _ => none
  else none
section
variable {U : Wd} {F H : Hp}
theorem RpE.ofL : ∀ {vs : List V} {ds : List D} {as : List Addr} (n : Nat), RpL U F H vs ds as → RpE U F H (vs.map some ++ List.replicate n none) (ds.map some ++ List.replicate n none) as
  | _, _, _, n, .nil => by
    show RpE U F H (List.replicate n none) (List.replicate n none) []
    induction n with
    | zero => exact .nil
    | succ n ih =>
      rw [List.replicate_succ]
      exact .nn ih
  | _, _, _, n, .cons h t => .sm h (RpE.ofL n t)
theorem finals_ok : ∀ {mask : List Bool} {σ : Sl} {E : En} {as : List Addr} {vs : List V}, RpE U F H σ E as → vs.length = mask.length → (∀ (i : Nat), mask[i]? = some true → σ[i]? = (vs.map some)[i]?) → ∃ cs rest, as.Perm (cs ++ rest) ∧ RpE U F H (vs.map some) (finals mask E) cs
  | [], σ, E, as, vs, r, hl, h => by
    have : vs = [] := List.eq_nil_of_length_eq_zero hl
    subst this
    exact ⟨[], as, List.Perm.refl _, .nil⟩
  | b :: mask, σ, E, as, [], r, hl, h => by simp at hl
  | b :: mask, _, _, _, v :: vs, .nil, hl, h => by
    have hl' : vs.length = mask.length := by simpa using hl
    have e : finals (b :: mask) [] = none :: finals mask [] := by cases b <;> rfl
    have : ∀ (i : Nat), mask[i]? = some true → ([] : Sl)[i]? = (vs.map some)[i]? := fun i q => h (i + 1) q
    obtain ⟨cs, rest, p, q⟩ := finals_ok (mask := mask) .nil hl' this
    rw [e]
    exact ⟨cs, rest, p, .nn q⟩
  | b :: mask, _, _, as, v :: vs, .nn (σ := σ) (E := E) t, hl, h => by
    have hl' : vs.length = mask.length := by simpa using hl
    have : ∀ (i : Nat), mask[i]? = some true → σ[i]? = (vs.map some)[i]? := fun i q => h (i + 1) q
    obtain ⟨cs, rest, p, q⟩ := finals_ok (mask := mask) t hl' this
    have e : finals (b :: mask) (none :: E) = none :: finals mask E := by cases b <;> rfl
    rw [e]
    exact ⟨cs, rest, p, .nn q⟩
  | b :: mask, _, _, _, v :: vs, .sm (v := v') (d := d) (σ := σ) (E := E) (as := a1) (bs := a2) w t, hl, h => by
    have hl' : vs.length = mask.length := by simpa using hl
    have : ∀ (i : Nat), mask[i]? = some true → σ[i]? = (vs.map some)[i]? := fun i q => h (i + 1) q
    obtain ⟨cs, rest, p, q⟩ := finals_ok (mask := mask) t hl' this
    cases b with
    | true =>
      have hv := h 0 rfl
      have hv : v' = v := by simpa using hv
      subst hv
      exact ⟨a1 ++ cs, rest, by rw [List.append_assoc]; exact p.append_left a1, .sm w q⟩
    | false =>
      refine ⟨cs, a1 ++ rest, ?_, .nn q⟩
      refine (p.append_left a1).trans ?_
      rw [← List.append_assoc, ← List.append_assoc]
      exact List.perm_append_comm.append_right rest
end
section
variable {P : Program} {w : World} {K : PySem.W.Frag} {mg : Str → Option Value} {base : Heap}
/-- the body's end is the promise's -/
theorem body_reads {U : Wd} [WC] {pin : Pn} {body : Sm} {mask : List Bool} {N : List Str} {vs : List V} {H : Hp} {Q : VK} {E : XK} (hpin : ∀ i, mask[i]? = some true → pin i = true) (h : spM U (fnM N.length mask body) vs H Q E) :
    tS U pin body { nx := fun _ H' => Q .non H', rt := Q } (L2.start N vs) H := by
  obtain ⟨F, ds, ws, d, fs, g, r, e, q⟩ := h
  unfold fnM at e
  split at e
  · rename_i hl
    have lv : vs.length = mask.length := by rw [r.len, hl]
    have r0 : REnv U F H (L2.start N vs) (ds.map some ++ List.replicate (N.length - mask.length) none) ws := by
      refine ⟨ws, ?_, List.Perm.refl _⟩
      unfold L2.start
      rw [lv]
      exact RpE.ofL _ r
    have pins : ∀ {σ' : Sl}, SameAt pin (L2.start N vs) σ' → ∀ i, mask[i]? = some true → σ'[i]? = (vs.map some)[i]? := fun {σ'} sa i hi => by
      rw [sa.2 i (hpin i hi)]
      have hlt : i < vs.length := by
        rw [lv]
        exact (List.getElem?_eq_some_iff.mp hi).1
      unfold L2.start
      rw [List.getElem?_append_left (by simpa using hlt)]
    split at e
    · rename_i d' E' eb
      cases e
      refine ⟨_, F, ws, .rt d, E', g, r0, eb, fun v σ' F' H' bs as' s rr sa wv => ?_⟩
      obtain ⟨as0, rr, pp⟩ := rr
      obtain ⟨cs, rest, p1, rf⟩ := finals_ok rr lv (pins sa)
      refine q v F' H' bs cs ?_ wv ⟨cs, rf, List.Perm.refl _⟩
      have p2 : (bs ++ as').Perm (rest ++ (bs ++ cs)) := by
        refine ((pp.symm.trans p1).append_left bs).trans ?_
        rw [← List.append_assoc]
        exact List.perm_append_comm
      exact (s.perm p2).right
    · rename_i E' eb
      cases e
      refine ⟨_, F, ws, .nx, E', g, r0, eb, fun σ' F' H' as' s rr sa => ?_⟩
      obtain ⟨as0, rr, pp⟩ := rr
      obtain ⟨cs, rest, p1, rf⟩ := finals_ok rr lv (pins sa)
      refine q .non F' H' [] cs ?_ .non ⟨cs, rf, List.Perm.refl _⟩
      have p2 : as'.Perm (rest ++ cs) := (pp.symm.trans p1).trans List.perm_append_comm
      exact (s.perm p2).right
    · cases e
  · cases e
theorem fnM_len {n : Nat} {mask : List Bool} {body : Sm} {ds : List D} {r : D × List (Option D)} (h : fnM n mask body ds = some r) : ds.length = mask.length := by
  unfold fnM at h
  split at h
  · assumption
  · cases h
/-- THE RULE for a def by its mirror -/
theorem ok_def {x qual : Str} {st : Stmt} {f : Addr} {fd : FuncData} {N ps : List Str} {k : Nat} {body : Sm} {mask : List Bool} {pin : Pn} (Fn : Fun K x qual st f fd) (S : FnScope N ps (defScope st)) (hm : mask.length = ps.length) (hpin : ∀ i, mask[i]? = some true → pin i = true)
    (hbody : ∀ (le : LE) (cdv : Value) (A : Around) (outer : List PySem.Env) (s : Shared) (H : Hp), Room k (A.deeper (PyProof.Rows.envOfC qual (defScope st) s.heap.objs.size f cdv)) → A.guards = some [] →
      PSs (cxOf CX0 P w K mg base N qual (defScope st) f cdv A outer s H E0).nox (defBody st) (tS ⟨P, w, K, base, mg, le⟩ (wc := WC0) pin body)) : FnG P w K mg base (k + 1) f fd ps (fnM N.length mask body) := by
  obtain ⟨oc, od, kV, doc, pm, an, cdv, ct, osl, rfl, lk, code⟩ := Fn.ex
  refine ⟨fun ds r h => (fnM_len h).trans hm, fun le A os s H args us vs Q hr gd e0 hb rv hsp => ?_⟩
  have len : vs.length = ps.length := spM_len (fun ds r h => (fnM_len h).trans hm) hsp
  have old : ∀ b o, base.get? b = some o → s.heap.get? b = some o := fun b o z => (e0.bs b o z).1
  have inK := e0.mod.kin.keeps old
  -- each parameter is a local or a cell that is made at the call
  have kinds : ∀ y ∈ ps.zip us, (defScope st).names.lookup y.1 = some .local ∨ ((defScope st).names.lookup y.1 = some .cell ∧ ((cellsFrom (s.heap.objs.size + 1) (defScope st).names []).lookup y.1).isSome = true) := by
    intro y hy
    cases S.par y.1 (List.of_mem_zip (a := y.1) (b := y.2) hy).1 with
    | inl z => exact Or.inl z
    | inr z => exact Or.inr ⟨z, PySem.W.cellsFrom_some _ _ _ (Or.inl z)⟩
  refine codeAny_call_function hr.depth (inK _ _ lk) rfl S.co S.gen rfl (PySem.W.codeRec_of inK code) (hb _ _ _ _ ?_)
  refine wpAny_newFunctionEnv_cells S.kind kinds ?_
  rintro env rfl s1 made
  refine ⟨(e0.mod.nolimit.keeps old).keeps made.toInCall.keep, codeAny_func ?_⟩
  have body0 := (hbody le cdv A os s H (hr.deeper _) gd).nox
  have I := inv_start (CX := CX0) (E := E0) S hr.hd e0 len rv made
  refine wpAny_mono (body0.run [] s1 (L2.start N vs) H _ I (@body_reads _ WC0 _ _ _ _ _ _ _ _ hpin hsp)) ?_ fun _ _ z => z
  intro fl s2 z
  have fin0 : ∀ {σ2 : Sl} {H2 : Hp} {v : V} {u : Value}, Inv (cxOf CX0 P w K mg base N qual (defScope st) f cdv A os s H E0) [] σ2 H2 s2 → RelV v u → Q v H2 → CE os P w H s Q u s2 :=
    fun {σ2 H2 v u} J r2 q2 => ⟨v, H2, J.os, J.bare, J.base, J.hok, r2, q2⟩
  match fl, z with
  | .ret u, ⟨v, σ2, H2, J, r2, q2⟩ => exact fin0 J r2 q2
  | .next, ⟨σ2, H2, J, q2⟩ => exact fin0 (v := .non) (u := .none) J rfl q2
  | .brk, ⟨_, _, _, q2⟩ => exact q2.elim
  | .cont, ⟨_, _, _, q2⟩ => exact q2.elim
end
end MP

/-! Mirror layer, part 4: what loops walk; for; comprehensions. -/
namespace MP
open PySem PySem.Spec L2

def ItOk (U : Wd) (J : It) (F1 H1 : Hp) (ws : List Addr) (items : List D) : Prop := ∀ F2 H2, Fle F1 F2 → Good F2 H2 [] → (∀ a ∈ ws, H2 a = H1 a) →
  (∀ (i : Nat) (d : D), items[i]? = some d → J.go i H2 ∧ ∀ x H', J.yld i H2 x H' → ∃ F', Step F2 H2 [] F' H' [] ∧ Rp U F' H' x d []) ∧ J.stop items.length H2
abbrev Mk := List D → Option (List D)
def tI (U : Wd) (m : Hx) (mk : Mk) : TI := fun σ H R => ∃ (E : En) (F : Hp) (as : List Addr) (hs : List Hd) (E1 : En) (ds : List D) (E2 : En) (items : List D), Good F H as ∧ REnv U F H σ E as ∧ m E = some (hs, E1) ∧ takeL hs E1 = some (ds, E2) ∧ mk ds = some items ∧
  ∀ J vs F' H' ws as', Step F H as F' H' (ws ++ as') → REnv U F' H' σ E2 as' → RpL U F' H' vs ds ws → HsAt σ vs hs → ItOk U J F' H' ws items → R J H'

/-! ### views -/
section
variable {U : Wd} {F F' H H' : Hp} {v : V} {o : Bool} {ds : List D} {as : List Addr}
theorem lst_view (h : Rp U F H v (.lst o ds) as) : ∃ a vs bs, v = .ref a ∧ RpL U F H vs ds bs ∧ (∀ b ∈ bs, b ∈ as) ∧ (∀ F2 H2, Fle F F2 → Fle F2 H2 → (∀ b ∈ as, H2 b = H b) → H2 a = some (.lst vs)) := by
  cases h with
  | lstS h l => exact ⟨_, _, [], rfl, l, fun _ z => (nomatch z), fun F2 H2 a b _ => b _ _ (a _ _ h)⟩
  | @lstO a vs _ bs h l => exact ⟨_, _, bs, rfl, l, fun b z => List.mem_cons_of_mem a z, fun F2 H2 _ _ k => (k a (.head _)).trans h⟩
theorem tup_view (h : Rp U F H v (.tup o ds) as) : ∃ a vs bs, v = .ref a ∧ RpL U F H vs ds bs ∧ (∀ b ∈ bs, b ∈ as) ∧ (∀ F2 H2, Fle F F2 → Fle F2 H2 → (∀ b ∈ as, H2 b = H b) → SqT U.K H2 a vs) := by
  cases h with
  | tupS h l => exact ⟨_, _, [], rfl, l, fun _ z => (nomatch z), fun F2 H2 a b _ => (a.trans b).seqT h⟩
  | @tupO a vs _ bs h l => exact ⟨_, _, bs, rfl, l, fun b z => List.mem_cons_of_mem a z, fun F2 H2 _ _ k => .inl (.inl ((k a (.head _)).trans h))⟩
theorem RpL.frozen0 {vs : List V} (h : RpL U F H vs ds as) (hf : frozenL ds = true) : RpL U F H vs ds [] := by
  have := h.frozen.mp hf
  subst this
  exact h
/-- a list whose items are frozen, now -/
theorem lst_now (g : Fle F H) (h : Rp U F H v (.lst o ds) as) : ∃ a vs, v = .ref a ∧ H a = some (.lst vs) ∧ ∃ bs, RpL U F H vs ds bs := by
  obtain ⟨a, vs, bs, e, l, _, k⟩ := lst_view h
  exact ⟨a, vs, e, k F H (Fle.refl F) g fun _ _ => rfl, bs, l⟩
theorem tup_now (g : Fle F H) (h : Rp U F H v (.tup o ds) as) : ∃ a vs, v = .ref a ∧ SqT U.K H a vs ∧ ∃ bs, RpL U F H vs ds bs := by
  obtain ⟨a, vs, bs, e, l, _, k⟩ := tup_view h
  exact ⟨a, vs, e, k F H (Fle.refl F) g fun _ _ => rfl, bs, l⟩
end

theorem Good.right' {F H : Hp} {ws as : List Addr} (g : Good F H (ws ++ as)) : Good F H as := g.sub (fun b z => List.mem_append_right _ z) (List.nodup_append.mp g.nd).2.1
/-! ### kinds of walks -/
def mkLst : Mk
  | [.lst _ ds] => if frozenL ds = true then some ds else none
  | _ => none
def mkTupI : Mk
  | [.tup _ ds] => if frozenL ds = true then some ds else none
  | _ => none
def mkScr : Mk
  | [.scr ns] => some (ns.map D.int)
  | _ => none
def signD (c : Nat) : D := .str ⟨#[c]⟩
def mkStr : Mk
  | [.str s] => some (s.cps.toList.map signD)
  | _ => none
def smallI (i : Int) : Bool := decide (-(2 ^ 62) ≤ i ∧ i < 2 ^ 62)
def rngD (a : Int) (n : Nat) : List D := (List.range n).map fun i => .int (a + (i : Nat))
def mkRng1 : Mk
  | [.int n] => if smallI n = true then some (rngD 0 n.toNat) else none
  | _ => none
def mkRng2 : Mk
  | [.int a, .int b] => if smallI a = true then (if smallI b = true then some (rngD a (b - a).toNat) else none) else none
  | _ => none
def enumD (n : Nat) : List D → List D
  | [] => []
  | d :: ds => .tup false [.int n, d] :: enumD (n + 1) ds
def mkEnum : Mk
  | [.lst _ ds] => if frozenL ds = true then some (enumD 0 ds) else none
  | _ => none
def zipD : List D → List D → List D
  | x :: xs, y :: ys => .tup false [x, y] :: zipD xs ys
  | _, _ => []
def mkZip : Mk
  | [.lst _ ds, .lst _ es] => if frozenL ds = true then (if frozenL es = true then some (zipD ds es) else none) else none
  | _ => none
theorem enumD_get : ∀ (ds : List D) (n i : Nat), (enumD n ds)[i]? = ds[i]?.map fun d => D.tup false [.int ((n + i : Nat) : Int), d]
  | [], n, i => by simp [enumD]
  | d :: ds, n, 0 => by simp [enumD]
  | d :: ds, n, i + 1 => by
    rw [enumD, List.getElem?_cons_succ, List.getElem?_cons_succ, enumD_get ds (n + 1) i]
    rw [show n + 1 + i = n + (i + 1) by omega]
theorem enumD_len : ∀ (ds : List D) (n : Nat), (enumD n ds).length = ds.length
  | [], n => rfl
  | d :: ds, n => by rw [enumD, List.length_cons, List.length_cons, enumD_len ds]
theorem zipD_get : ∀ (xs ys : List D) (i : Nat) (d : D), (zipD xs ys)[i]? = some d → ∃ x y, xs[i]? = some x ∧ ys[i]? = some y ∧ d = .tup false [x, y]
  | x :: xs, y :: ys, 0, d, h => by
    simp only [zipD, List.getElem?_cons_zero, Option.some.injEq] at h
    exact ⟨x, y, rfl, rfl, h.symm⟩
  | x :: xs, y :: ys, i + 1, d, h => by
    simp only [zipD, List.getElem?_cons_succ] at h
    exact zipD_get xs ys i d h
  | [], ys, i, d, h => by simp [zipD] at h
  | x :: xs, [], i, d, h => by simp [zipD] at h
theorem zipD_len : ∀ (xs ys : List D), (zipD xs ys).length = min xs.length ys.length
  | x :: xs, y :: ys => by rw [zipD, List.length_cons, List.length_cons, List.length_cons, zipD_len xs ys]; omega
  | [], ys => by simp [zipD]
  | x :: xs, [] => by simp [zipD]

section
variable {U : Wd} {m : Hx} {mk : Mk} {σ : Sl} {H : Hp} {R : It → Hp → Prop}
/-- the handles come, as data -/
theorem tI_reads {T : List V → Hp → Prop} (q : tI U m mk σ H R)
    (k : ∀ (vs : List V) (ds : List D) (items : List D) (F' H' : Hp) (ws : List Addr), Good F' H' [] → RpL U F' H' vs ds ws → mk ds = some items → (∀ J, ItOk U J F' H' ws items → R J H') → T vs H') : tH U m σ H T := by
  obtain ⟨E, F, as, hs, E1, ds, E2, items, g, r, e1, e2, e3, q⟩ := q
  refine ⟨E, F, as, hs, E1, g, r, e1, fun vs F' H' bs as' s r1 w => ?_⟩
  obtain ⟨ws, as2, z1, z2, z3⟩ := takeL_ok w r1 e2
  exact k vs ds items F' H' ws s.good.zero z1 e3 fun J ok => q J vs F' H' ws as2 (s.perm z3) z2 z1 w.at ok
theorem tO_of_tH {m : Ox} {T : List V → Hp → Prop} (q : tH U (hCons m hNil) σ H T) : tO U m σ H fun x H1 => T [x] H1 := by
  letI : LE := ⟨"", []⟩
  have := hCons_reads q
  obtain ⟨E, F, as, d, E', g, rE, e, q⟩ := this
  refine ⟨E, F, as, d, E', g, rE, e, fun v F' H' bs as' s r w => ?_⟩
  obtain ⟨E2, F2, as2, d2, E2', g2, rE2, e2, q2⟩ := q v F' H' bs as' s r w
  cases e2
  exact q2 [] F2 H' [] as2 (Step.refl g2) rE2 .nil
theorem one_view {vs : List V} {d : D} {ws : List Addr} {F H : Hp} (h : RpL U F H vs [d] ws) : ∃ v, vs = [v] ∧ Rp U F H v d ws := by
  cases h with
  | @cons v _ vs _ as bs h t =>
    cases t
    rw [List.append_nil]
    exact ⟨v, rfl, h⟩
theorem two_view {vs : List V} {d e : D} {ws : List Addr} {F H : Hp} (h : RpL U F H vs [d, e] ws) : ∃ v u as bs, vs = [v, u] ∧ ws = as ++ bs ∧ Rp U F H v d as ∧ Rp U F H u e bs := by
  cases h with
  | @cons v _ vs _ as bs h t =>
    obtain ⟨u, rfl, hu⟩ := one_view t
    exact ⟨v, u, as, bs, rfl, rfl, h, hu⟩
end
section
variable [LE] [WC] {X : Cx} {tg e e2 : Expr} {pos p tpos : Pos} {m m2 : Ox}
theorem pi_mono {iter : Expr} {t t' : TI} (h : PI X tg iter t) (k : ∀ σ H R, t' σ H R → t σ H R) : PI X tg iter t' := ⟨fun pins s σ H R I q => h.run pins s σ H R I (k σ H R q)⟩
theorem itl_ok {K : PySem.W.Frag} {U : Wd} {a : Addr} {vs : List V} {ds : List D} {F H : Hp} {ws : List Addr} (h : ∀ F2 H2, Fle F F2 → Good F2 H2 [] → (∀ b ∈ ws, H2 b = H b) → SqL K H2 a vs) (l : RpL U F H vs ds []) : ItOk U (Itl K a) F H ws ds := fun F2 H2 f g k => by
  have q := h F2 H2 f g k
  refine ⟨fun i d e => ?_, ⟨vs, q, by rw [l.len]; exact Nat.le_refl _⟩⟩
  obtain ⟨v, ev, rv⟩ := l.get0 e
  refine ⟨⟨vs, v, q, ev⟩, fun x H' y => ?_⟩
  obtain ⟨rfl, y⟩ := y
  have := y vs q
  rw [ev] at this
  cases this
  exact ⟨F2, Step.refl g, rv.mono0 f⟩
theorem itt_ok {K : PySem.W.Frag} {U : Wd} {a : Addr} {vs : List V} {ds : List D} {F H : Hp} {ws : List Addr} (h : ∀ F2 H2, Fle F F2 → Good F2 H2 [] → (∀ b ∈ ws, H2 b = H b) → SqT K H2 a vs) (l : RpL U F H vs ds []) : ItOk U (Itt K a) F H ws ds := fun F2 H2 f g k => by
  have q := h F2 H2 f g k
  refine ⟨fun i d e => ?_, ⟨vs, q, by rw [l.len]; exact Nat.le_refl _⟩⟩
  obtain ⟨v, ev, rv⟩ := l.get0 e
  refine ⟨⟨vs, v, q, ev⟩, fun x H' y => ?_⟩
  obtain ⟨rfl, y⟩ := y
  have := y vs q
  rw [ev] at this
  cases this
  exact ⟨F2, Step.refl g, rv.mono0 f⟩
theorem mi_lst (h : PE X e (tO (ux X) m)) : PI X tg e (tI (ux X) (hCons m hNil) mkLst) := pi_mono (pi_list h) fun σ H R q => by
  have hz : tH (ux X) (hCons m hNil) σ H (fun vs H1 => ∃ a, vs = [.ref a] ∧ (∃ xs, SqL X.K H1 a xs) ∧ R (Itl X.K a) H1) := tI_reads q fun vs0 ds0 items F' H' ws g w0 e0 k => by
    unfold mkLst at e0
    split at e0
    · rename_i o ds'
      split at e0
      · rename_i hf
        cases e0
        obtain ⟨v, rfl, w1⟩ := one_view w0
        obtain ⟨a, vs, bs, rfl, l, sub, kk⟩ := lst_view w1
        refine ⟨a, rfl, ⟨vs, .inl (.inl (kk F' H' (Fle.refl _) g.le fun _ _ => rfl))⟩, k _ ?_⟩
        exact itl_ok (fun F2 H2 f g2 k2 => .inl (.inl (kk F2 H2 f g2.le k2))) (l.frozen0 hf)
      · cases e0
    · cases e0
  obtain ⟨E, F, as, d, E', g, rE, e1, z⟩ := tO_of_tH hz
  refine ⟨E, F, as, d, E', g, rE, e1, fun v F' H' bs as' s r w => ?_⟩
  obtain ⟨a, e2, x, y⟩ := z v F' H' bs as' s r w
  exact ⟨a, by simpa using e2, x, y⟩
theorem mi_scr (h : PE X e (tO (ux X) m)) : PI X tg e (tI (ux X) (hCons m hNil) mkScr) := pi_mono (pi_list h) fun σ H R q => by
  have hz : tH (ux X) (hCons m hNil) σ H (fun vs H1 => ∃ a, vs = [.ref a] ∧ (∃ xs, SqL X.K H1 a xs) ∧ R (Itl X.K a) H1) := tI_reads q fun vs0 ds0 items F' H' ws g w0 e0 k => by
    unfold mkScr at e0
    split at e0
    · rename_i ns
      cases e0
      obtain ⟨v, rfl, w1⟩ := one_view w0
      cases w1 with
      | scr w =>
        refine ⟨_, rfl, ⟨_, g.le.seqL w⟩, k _ ?_⟩
        exact itl_ok (fun F2 H2 f g2 k2 => (f.trans g2.le).seqL w) (RpL.ints ns)
    · cases e0
  obtain ⟨E, F, as, d, E', g, rE, e1, z⟩ := tO_of_tH hz
  refine ⟨E, F, as, d, E', g, rE, e1, fun v F' H' bs as' s r w => ?_⟩
  obtain ⟨a, e2, x, y⟩ := z v F' H' bs as' s r w
  exact ⟨a, by simpa using e2, x, y⟩
theorem mi_tup (h : PE X e (tO (ux X) m)) : PI X tg e (tI (ux X) (hCons m hNil) mkTupI) := pi_mono (pi_tup h) fun σ H R q => by
  have hz : tH (ux X) (hCons m hNil) σ H (fun vs H1 => ∃ a, vs = [.ref a] ∧ (∃ xs, SqT X.K H1 a xs) ∧ R (Itt X.K a) H1) := tI_reads q fun vs0 ds0 items F' H' ws g w0 e0 k => by
    unfold mkTupI at e0
    split at e0
    · rename_i o ds'
      split at e0
      · rename_i hf
        cases e0
        obtain ⟨v, rfl, w1⟩ := one_view w0
        obtain ⟨a, vs, bs, rfl, l, sub, kk⟩ := tup_view w1
        refine ⟨a, rfl, ⟨vs, kk F' H' (Fle.refl _) g.le fun _ _ => rfl⟩, k _ ?_⟩
        exact itt_ok (fun F2 H2 f g2 k2 => kk F2 H2 f g2.le k2) (l.frozen0 hf)
      · cases e0
    · cases e0
  obtain ⟨E, F, as, d, E', g, rE, e1, z⟩ := tO_of_tH hz
  refine ⟨E, F, as, d, E', g, rE, e1, fun v F' H' bs as' s r w => ?_⟩
  obtain ⟨a, e2, x, y⟩ := z v F' H' bs as' s r w
  exact ⟨a, by simpa using e2, x, y⟩
theorem mi_str (h : PE X e (tO (ux X) m)) : PI X tg e (tI (ux X) (hCons m hNil) mkStr) := pi_mono (pi_str h) fun σ H R q => by
  have hz : tH (ux X) (hCons m hNil) σ H (fun vs H1 => ∃ x, vs = [.str x] ∧ R (Its x) H1) := tI_reads q fun vs0 ds0 items F' H' ws g w0 e0 k => by
    unfold mkStr at e0
    split at e0
    · rename_i s
      cases e0
      obtain ⟨v, rfl, w1⟩ := one_view w0
      obtain ⟨rfl, rfl⟩ := rp_str w1
      refine ⟨s, rfl, k _ fun F2 H2 f g2 k2 => ⟨fun i d e => ?_, ?_⟩⟩
      · rw [List.getElem?_map] at e
        cases ec : s.cps.toList[i]? with
        | none => rw [ec] at e; cases e
        | some c =>
          rw [ec] at e
          cases e
          have hi : i < s.cps.size := by
            have := (List.getElem?_eq_some_iff.mp ec).1
            simpa using this
          refine ⟨hi, fun x H' y => ?_⟩
          obtain ⟨rfl, c', e1, rfl⟩ := y
          rw [Array.getElem?_toList] at ec
          rw [ec] at e1
          cases e1
          exact ⟨F2, Step.refl g2, .str _⟩
      · show s.cps.size ≤ _
        rw [List.length_map, Array.length_toList]
        exact Nat.le_refl _
    · cases e0
  obtain ⟨E, F, as, d, E', g, rE, e1, z⟩ := tO_of_tH hz
  refine ⟨E, F, as, d, E', g, rE, e1, fun v F' H' bs as' s r w => ?_⟩
  obtain ⟨a, e2, x⟩ := z v F' H' bs as' s r w
  exact ⟨a, by simpa using e2, x⟩
theorem itr_ok {U : Wd} {a : Int} {n : Nat} {F H : Hp} {ws : List Addr} : ItOk U (Itr a n) F H ws (rngD a n) := fun F2 H2 f g k => by
  refine ⟨fun i d e => ?_, by show n ≤ _; rw [rngD, List.length_map, List.length_range]; exact Nat.le_refl _⟩
  rw [rngD, List.getElem?_map] at e
  cases ei : (List.range n)[i]? with
  | none => rw [ei] at e; cases e
  | some j =>
    rw [ei] at e
    obtain ⟨hi, hj⟩ := List.getElem?_eq_some_iff.mp ei
    rw [List.getElem_range] at hj
    subst hj
    rw [List.length_range] at hi
    cases e
    refine ⟨hi, fun x H' y => ?_⟩
    obtain ⟨rfl, rfl⟩ := y
    exact ⟨F2, Step.refl g, .int _⟩
theorem mi_rng1 {mh : Hx} (hg : Gl X "range") (hm : X.mg "range" = none) (ha : PA X [e] (tH (ux X) mh)) (hs : starEach [e] X.env = [(false, eval e X.env)] := by rfl) : PI X tg (.Call (.Name "range" p) [e] [] pos) (tI (ux X) mh mkRng1) := pi_mono (pi_range1 hg hm ha hs) fun σ H R q => by
  refine tI_reads q fun vs ds items F' H' ws g w e k => ?_
  unfold mkRng1 at e
  split at e
  · rename_i n
    split at e
    · rename_i hn
      cases e
      obtain ⟨v, rfl, w1⟩ := one_view w
      obtain ⟨rfl, rfl⟩ := rp_int w1
      have hn := of_decide_eq_true hn
      exact ⟨n, rfl, hn.1, hn.2, k _ itr_ok⟩
    · cases e
  · cases e
theorem mi_rng2 {mh : Hx} (hg : Gl X "range") (hm : X.mg "range" = none) (ha : PA X [e, e2] (tH (ux X) mh)) (hs : starEach [e, e2] X.env = [(false, eval e X.env), (false, eval e2 X.env)] := by rfl) (hs2 : starEach [e2] X.env = [(false, eval e2 X.env)] := by rfl) :
    PI X tg (.Call (.Name "range" p) [e, e2] [] pos) (tI (ux X) mh mkRng2) := pi_mono (pi_range2 hg hm ha hs hs2) fun σ H R q => by
  refine tI_reads q fun vs ds items F' H' ws g w e k => ?_
  unfold mkRng2 at e
  split at e
  · rename_i a b
    split at e
    · rename_i h1
      split at e
      · rename_i h2
        cases e
        obtain ⟨v, u, as, bs, rfl, rfl, w1, w2⟩ := two_view w
        obtain ⟨rfl, rfl⟩ := rp_int w1
        obtain ⟨rfl, rfl⟩ := rp_int w2
        have h1 := of_decide_eq_true h1
        have h2 := of_decide_eq_true h2
        exact ⟨a, b, rfl, ⟨h1.1, h1.2, h2.1, h2.2⟩, k _ itr_ok⟩
      · cases e
    · cases e
  · cases e
theorem pair_new {U : Wd} {F H : Hp} {T : Addr} {x y : V} {d e : D} (g : Good F H []) (hT : H T = none) (h1 : Rp U F H x d []) (h2 : Rp U F H y e []) : ∃ F', Step F H [] F' (upd H T (.tup [x, y])) [] ∧ Rp U F' (upd H T (.tup [x, y])) (.ref T) (.tup false [d, e]) [] := by
  have t := Step.allocF (o := .tup [x, y]) g hT
  exact ⟨_, t, .tupS (.inl (.inl upd_same)) (.cons0 (h1.mono0 t.ext) (.cons0 (h2.mono0 t.ext) .nil))⟩
theorem mi_enum {mh : Hx} {elts : List Expr} {kk : Nat} (hg : Gl X "enumerate") (hm : X.mg "enumerate" = none) (ha : PA X [e] (tH (ux X) mh)) (hs : starEach [e] X.env = [(false, eval e X.env)] := by rfl) :
    PI X (.Tuple elts kk tpos) (.Call (.Name "enumerate" p) [e] [] pos) (tI (ux X) mh mkEnum) := pi_mono (pi_enum hg hm ha hs) fun σ H R q => by
  refine tI_reads q fun vs0 ds0 items F' H' ws g w0 e0 k => ?_
  unfold mkEnum at e0
  split at e0
  · rename_i o ds'
    split at e0
    · rename_i hf
      cases e0
      obtain ⟨v, rfl, w1⟩ := one_view w0
      obtain ⟨a, vs, bs, rfl, l, sub, kk⟩ := lst_view w1
      have l0 := l.frozen0 hf
      refine ⟨a, vs, rfl, .inl (.inl (kk F' H' (Fle.refl _) g.le fun _ _ => rfl)), k _ fun F2 H2 f g2 k2 => ?_⟩
      have hq : SqL X.K H2 a vs := .inl (.inl (kk F2 H2 f g2.le k2))
      refine ⟨fun i d e => ?_, ⟨vs, hq, by rw [enumD_len, l.len]; exact Nat.le_refl _⟩⟩
      rw [enumD_get] at e
      cases ed : ds'[i]? with
      | none => rw [ed] at e; cases e
      | some d0 =>
        rw [ed] at e
        cases e
        obtain ⟨v, ev, rv⟩ := l0.get0 ed
        refine ⟨⟨vs, v, hq, ev⟩, fun x H'' y => ?_⟩
        obtain ⟨T, x0, rfl, hT, rfl, hx⟩ := y
        have := hx vs hq
        rw [ev] at this
        cases this
        rw [Nat.zero_add]
        exact pair_new g2 hT (.int _) (rv.mono0 f)
    · cases e0
  · cases e0
theorem mi_zip {mh : Hx} {elts : List Expr} {kk : Nat} (hg : Gl X "zip") (hm : X.mg "zip" = none) (ha : PA X [e, e2] (tH (ux X) mh)) (hs : starEach [e, e2] X.env = (false, eval e X.env) :: starEach [e2] X.env := by rfl) (hpl : (backTo pos (starEach [e2] X.env)).any (·.1) = false := by rfl) :
    PI X (.Tuple elts kk tpos) (.Call (.Name "zip" p) [e, e2] [] pos) (tI (ux X) mh mkZip) := pi_mono (pi_zip hg hm ha hs hpl) fun σ H R q => by
  refine tI_reads q fun vs0 ds0 items F' H' ws g w0 e0 k => ?_
  unfold mkZip at e0
  split at e0
  · rename_i o1 xs o2 ys
    split at e0
    · rename_i hf1
      split at e0
      · rename_i hf2
        cases e0
        obtain ⟨v, u, as, bs, rfl, rfl, w1, w2⟩ := two_view w0
        obtain ⟨a, vs, b1, rfl, l1, sub1, k1⟩ := lst_view w1
        obtain ⟨b, us, b2, rfl, l2, sub2, k2⟩ := lst_view w2
        have l1' := l1.frozen0 hf1
        have l2' := l2.frozen0 hf2
        refine ⟨a, b, vs, us, rfl, .inl (.inl (k1 F' H' (Fle.refl _) g.le fun _ _ => rfl)), .inl (.inl (k2 F' H' (Fle.refl _) g.le fun _ _ => rfl)), k _ fun F2 H2 f g2 kk => ?_⟩
        have hq1 : SqL X.K H2 a vs := .inl (.inl (k1 F2 H2 f g2.le fun z hz => kk z (List.mem_append_left _ hz)))
        have hq2 : SqL X.K H2 b us := .inl (.inl (k2 F2 H2 f g2.le fun z hz => kk z (List.mem_append_right _ hz)))
        refine ⟨fun i d e => ?_, ⟨vs, us, hq1, hq2, by rw [zipD_len, l1.len, l2.len]; omega⟩⟩
        obtain ⟨x, y, ex, ey, rfl⟩ := zipD_get _ _ _ _ e
        obtain ⟨v, ev, rv⟩ := l1'.get0 ex
        obtain ⟨u, eu, ru⟩ := l2'.get0 ey
        refine ⟨⟨vs, us, v, u, hq1, hq2, ev, eu⟩, fun z H'' y => ?_⟩
        obtain ⟨T, x0, y0, rfl, hT, rfl, hx, hy⟩ := y
        have h1 := hx vs hq1
        have h2 := hy us hq2
        rw [ev] at h1
        rw [eu] at h2
        cases h1
        cases h2
        exact pair_new g2 hT (rv.mono0 f) (ru.mono0 f)
      · cases e0
    · cases e0
  · cases e0
end

/-! ### for -/
def pinU (l : List Nat) (pin : Pn) : Pn := fun i => l.contains i || pin i
def HsIn (pin : Pn) (m : Hx) : Prop := ∀ E hs E1, m E = some (hs, E1) → ∀ i, Hd.slot i ∈ hs → pin i = true
theorem hs_nil {pin : Pn} : HsIn pin hNil := fun E hs E1 e i z => by
  cases e
  cases z
theorem hs_val {pin : Pn} {m : Ex} {ms : Hx} (t : HsIn pin ms) : HsIn pin (hCons (oV m) ms) := fun E hs E1 e i z => by
  unfold hCons at e
  split at e
  · rename_i d E' e1
    split at e
    · rename_i ds E'' e2
      cases e
      rcases List.mem_cons.mp z with z | z
      · subst z
        unfold oV at e1
        split at e1
        · cases e1
        · cases e1
      · exact t _ _ _ e2 i z
    · cases e
  · cases e
theorem hs_slot {pin : Pn} {j : Nat} {ms : Hx} (h : pin j = true) (t : HsIn pin ms) : HsIn pin (hCons (oN j) ms) := fun E hs E1 e i z => by
  unfold hCons at e
  split at e
  · rename_i d E' e1
    split at e
    · rename_i ds E'' e2
      cases e
      rcases List.mem_cons.mp z with z | z
      · subst z
        unfold oN at e1
        split at e1
        · cases e1
          exact h
        · cases e1
      · exact t _ _ _ e2 i z
    · cases e
  · cases e
def sForL (g : Gm) (b : Sm) (dead : List Nat) : List D → Sm
  | [] => fun E => some (.nx, E)
  | x :: xs => fun E => match g x E with
    | some E1 => match b E1 with
      | some (.nx, E2) => sForL g b dead xs (kill dead E2)
      | some (.ct, E2) => sForL g b dead xs (kill dead E2)
      | some (.bk, E2) => some (.nx, E2)
      | some (.rt d, E2) => some (.rt d, E2)
      | some (.rs n ks xs, E2) => some (.rs n ks xs, E2)
      | none => none
    | none => none
def sFor (m : Hx) (mk : Mk) (g : Gm) (b : Sm) (dead : List Nat) : Sm := fun E => match m E with
  | some (hs, E1) => match takeL hs E1 with
    | some (ds, E2) => match mk ds with
      | some items => match sForL g b dead items E2 with
        | some (c, E3) => some (c, putL hs ds (ds.map some) E3)
        | none => none
      | none => none
    | none => none
  | none => none
theorem RpE.ofL0 {U : Wd} {F H : Hp} {vs : List V} {ds : List D} {as : List Addr} (h : RpL U F H vs ds as) : RpE U F H (vs.map some) (ds.map some) as := by
  have := RpE.ofL 0 h
  simpa using this
theorem HsAt.keep {σ σ' : Sl} {pin : Pn} (p : SameAt pin σ σ') : ∀ {vs : List V} {hs : List Hd}, HsAt σ vs hs → (∀ i, Hd.slot i ∈ hs → pin i = true) → HsAt σ' vs hs
  | _, _, .nil, _ => .nil
  | _, _, .slot h t, k => .slot (by rw [p.2 _ (k _ (.head _))]; exact h) (HsAt.keep p t fun i z => k i (.tail _ z))
  | _, _, .val t, k => .val (HsAt.keep p t fun i z => k i (.tail _ z))
section
variable {U : Wd} [wc : WC] {pin : Pn} {D0 : Ends} {σ0 σ : Sl} {F H F1 H1 : Hp} {as ws as1 : List Addr} {vs : List V} {ds : List D} {hs : List Hd} {E E' : En}
/-- the loop's end: what was taken is put back -/
theorem OutOk.back (q : OutOk U pin D0 σ0 F H (ws ++ as) (putL hs ds (ds.map some) E') c) (l : RpL U F H vs ds ws) (hv : HsAt σ0 vs hs) : ∀ {c' : Ctl}, c' = c →
    match c' with
    | .nx => ∀ σ' F' H' as', Step F H as F' H' as' → REnv U F' H' σ' E' as' → SameAt pin σ0 σ' → HsAt σ' vs hs → Good F H (ws ++ as) → D0.nx σ' H'
    | .bk => ∀ σ' F' H' as', Step F H as F' H' as' → REnv U F' H' σ' E' as' → SameAt pin σ0 σ' → HsAt σ' vs hs → Good F H (ws ++ as) → D0.bk σ' H'
    | .ct => ∀ σ' F' H' as', Step F H as F' H' as' → REnv U F' H' σ' E' as' → SameAt pin σ0 σ' → HsAt σ' vs hs → Good F H (ws ++ as) → D0.ct σ' H'
    | .rt d => ∀ v σ' F' H' bs as', Step F H as F' H' (bs ++ as') → REnv U F' H' σ' E' as' → SameAt pin σ0 σ' → HsAt σ' vs hs → Good F H (ws ++ as) → Rp U F' H' v d bs → D0.rt v H'
    | .rs n ks xs => ∃ C, U.mg n = some (.ref C) ∧ ∀ dx us σ' F' H' as', Step F H as F' H' as' → REnv U F' H' σ' E' as' → SameAt pin σ0 σ' → HsAt σ' vs hs → Good F H (ws ++ as) → RpL U F' H' us xs [] → F' dx = some (.xd (ks.zip us)) → wc.W (.ref C) (some dx) σ' H' := by
  have key : ∀ {σ' : Sl} {F' H' : Hp} {bs as' : List Addr}, Step F H as F' H' (bs ++ as') → REnv U F' H' σ' E' as' → HsAt σ' vs hs → Good F H (ws ++ as) → ∃ as2, Step F H (ws ++ as) F' H' (bs ++ as2) ∧ REnv U F' H' σ' (putL hs ds (ds.map some) E') as2 := fun {σ' F' H' bs as'} s r h g => by
    have s0 : Step F H (ws ++ as) F H (ws ++ as) := Step.refl g
    have s2 : Step F H (ws ++ as) F' H' (ws ++ (bs ++ as')) := s0.seq s
    have l2 : RpL U F' H' vs ds ws := l.mono s.ext (Step.wait s0 s)
    obtain ⟨a0, as2, p, r2⟩ := putL_ok (ds := ds) h (RpE.ofL0 l2) r
    refine ⟨as2, ?_, r2⟩
    have p2 : (ws ++ (bs ++ as')).Perm (a0 ++ (bs ++ as2)) := by
      have q1 : (ws ++ (bs ++ as')).Perm (bs ++ (ws ++ as')) := by
        rw [← List.append_assoc, ← List.append_assoc]
        exact List.perm_append_comm.append_right as'
      refine q1.trans ((p.append_left bs).trans ?_)
      rw [← List.append_assoc, ← List.append_assoc]
      exact List.perm_append_comm.append_right as2
    exact (s2.perm p2).right
  intro c' e
  subst e
  cases c' with
  | nx =>
    intro σ' F' H' as' s r w h g
    obtain ⟨as2, s2, r2⟩ := key (bs := []) s r h g
    exact q σ' F' H' as2 s2 r2 w
  | bk =>
    intro σ' F' H' as' s r w h g
    obtain ⟨as2, s2, r2⟩ := key (bs := []) s r h g
    exact q σ' F' H' as2 s2 r2 w
  | ct =>
    intro σ' F' H' as' s r w h g
    obtain ⟨as2, s2, r2⟩ := key (bs := []) s r h g
    exact q σ' F' H' as2 s2 r2 w
  | rt d =>
    intro v σ' F' H' bs as' s r w h g z
    obtain ⟨as2, s2, r2⟩ := key s r h g
    exact q v σ' F' H' bs as2 s2 r2 w z
  | rs n ks xs =>
    obtain ⟨C, eC, q⟩ := q
    refine ⟨C, eC, fun dx us σ' F' H' as' s r w h g z y => ?_⟩
    obtain ⟨as2, s2, r2⟩ := key (bs := []) s r h g
    exact q dx us σ' F' H' as2 s2 r2 w z y
end
theorem Step.pass {F H F1 H1 : Hp} {as as1 ws : List Addr} (s : Step F H as F1 H1 as1) (g : Good F H (ws ++ as)) : Step F H (ws ++ as) F1 H1 (ws ++ as1) := Step.seq (Step.refl g) s
section
variable [LE] [WC] {X : Cx} {pin pin' : Pn} {pos : Pos} {tg iter : Expr} {m : Hx} {mk : Mk} {g : Gm} {b : Sm} {dead : List Nat} {body : List Stmt}
theorem ms_for (hp : PassesOwn (model X.prog X.w) X.A X.env X.xe) (hc : X.calm = true) (hi : PI X tg iter (tI (ux X) m mk)) (hg : PG X tg (tG (ux X) pin' g)) (hb : PSs X body (tS (ux X) pin' b)) (h1 : ∀ i, pin i = true → pin' i = true) (h2 : HsIn pin' m)
    (hs : ∀ x, foldedSetIterable iter X.env x = pure x := by intro _; rfl) : PS X (.For tg iter body [] pos) (tS (ux X) pin (sFor m mk g b dead)) := ps_mono (ps_for hp hc hi hg hb hs) fun D0 σ H q => by
  obtain ⟨E, F, as, c, E', gd, r, e, q⟩ := q
  unfold sFor at e
  split at e
  · rename_i hs0 E1 e1
    split at e
    · rename_i ds E2 e2
      split at e
      · rename_i items e3
        split at e
        · rename_i c' E3 e4
          cases e
          refine ⟨E, F, as, hs0, E1, ds, E2, items, gd, r, e1, e2, e3, fun J vs F0 H0 ws as0 s0 r0 l0 hv0 ok => ?_⟩
          have hin : ∀ i, Hd.slot i ∈ hs0 → pin' i = true := fun i z => h2 _ _ _ e1 i z
          have q0 := q.step s0 (SameAt.refl _ _)
          refine ⟨fun i n σ' H' => n = items.length - i ∧ i ≤ items.length ∧ ∃ E4 F4 as4, Step F0 H0 (ws ++ as0) F4 H' (ws ++ as4) ∧ (∀ a ∈ ws, H' a = H0 a) ∧ REnv (ux X) F4 H' σ' E4 as4 ∧ SameAt pin' σ σ' ∧ sForL g b dead (items.drop i) E4 = some (c, E3),
            ⟨items.length, rfl, Nat.zero_le _, E2, F0, as0, Step.refl s0.good, fun _ _ => rfl, r0, SameAt.refl _ _, e4⟩, ?_⟩
          rintro i n σ1 H1 ⟨rfl, hi, E4, F4, as4, s4, k4, r4, p4, e5⟩
          obtain ⟨ok1, ok2⟩ := ok F4 H1 s4.ext s4.good.zero k4
          have l4 : RpL (ux X) F4 H1 vs ds ws := l0.mono s4.ext k4
          have q4 := q0.step s4 (p4.weak h1)
          have bk := OutOk.back q4 l4 (hv0.keep p4 hin) rfl
          by_cases hlt : i < items.length
          · rw [List.drop_eq_getElem_cons hlt] at e5
            obtain ⟨go, yl⟩ := ok1 i _ (List.getElem?_eq_getElem hlt)
            refine .inr ⟨go, fun σ' H' => items.length - (i + 1) = items.length - (i + 1) ∧ i + 1 ≤ items.length ∧ ∃ E4 F4 as4, Step F0 H0 (ws ++ as0) F4 H' (ws ++ as4) ∧ (∀ a ∈ ws, H' a = H0 a) ∧ REnv (ux X) F4 H' σ' E4 as4 ∧ SameAt pin' σ σ' ∧ sForL g b dead (items.drop (i + 1)) E4 = some (c, E3), fun σ' H' z => ⟨_, by omega, z⟩, fun x Hx hy => ?_⟩
            obtain ⟨Fx, sx, rx⟩ := yl x Hx hy
            obtain ⟨sx2, r5⟩ := fin (Step.refl s4.good.right') r4 sx
            have sx3 : Step F4 H1 as4 Fx Hx as4 := sx2
            have gx := (sx3.pass s4.good)
            have kx : ∀ a ∈ ws, Hx a = H0 a := fun a z => (Step.wait (Step.refl s4.good) sx3 a z).trans (k4 a z)
            unfold sForL at e5
            split at e5
            · rename_i E5 e6
              refine ⟨E4, Fx, [], as4, items[i], E5, sx3.good, r5, rx, e6, fun σ2 F6 H6 as6 s6 r6 p6 => ?_⟩
              have s6' : Step F4 H1 as4 F6 H6 as6 := sx3.trans s6
              have next : ∀ {σ3 F7 H7 as7 E7}, Step F6 H6 as6 F7 H7 as7 → REnv (ux X) F7 H7 σ3 E7 as7 → SameAt pin' σ2 σ3 → sForL g b dead (items.drop (i + 1)) (kill dead E7) = some (c, E3) →
                  (items.length - (i + 1) = items.length - (i + 1) ∧ i + 1 ≤ items.length ∧ ∃ E4 F4 as4, Step F0 H0 (ws ++ as0) F4 H7 (ws ++ as4) ∧ (∀ a ∈ ws, H7 a = H0 a) ∧ REnv (ux X) F4 H7 σ3 E4 as4 ∧ SameAt pin' σ σ3 ∧ sForL g b dead (items.drop (i + 1)) E4 = some (c, E3)) :=
                fun {σ3 F7 H7 as7 E7} s7 r7 p7 e7 => by
                  obtain ⟨a0, rest, pp, r8⟩ := r7.kill dead
                  have s8 : Step F4 H1 as4 F7 H7 rest := (s6'.trans (s7.perm pp)).right
                  exact ⟨rfl, hlt, _, F7, rest, s4.trans (s8.pass s4.good), fun a z => (Step.wait (Step.refl s4.good) s8 a z).trans (k4 a z), r8, p4.trans (p6.trans p7), e7⟩
              split at e5
              · rename_i E7 e7
                exact ⟨E5, F6, as6, .nx, E7, s6.good, r6, e7, fun σ3 F7 H7 as7 s7 r7 p7 => next s7 r7 p7 e5⟩
              · rename_i E7 e7
                exact ⟨E5, F6, as6, .ct, E7, s6.good, r6, e7, fun σ3 F7 H7 as7 s7 r7 p7 => next s7 r7 p7 e5⟩
              · rename_i E7 e7
                cases e5
                refine ⟨E5, F6, as6, .bk, E3, s6.good, r6, e7, fun σ3 F7 H7 as7 s7 r7 p7 => ?_⟩
                exact bk σ3 F7 H7 as7 (s6'.trans s7) r7 ((p6.trans p7).weak h1) (hv0.keep (p4.trans (p6.trans p7)) hin) s4.good
              · rename_i d E7 e7
                cases e5
                refine ⟨E5, F6, as6, .rt d, E3, s6.good, r6, e7, fun v σ3 F7 H7 bs as7 s7 r7 p7 z => ?_⟩
                exact bk v σ3 F7 H7 bs as7 (s6'.trans s7) r7 ((p6.trans p7).weak h1) (hv0.keep (p4.trans (p6.trans p7)) hin) s4.good z
              · rename_i n1 k1 x1 E7 e7
                cases e5
                obtain ⟨C, eC, bk⟩ := bk
                refine ⟨E5, F6, as6, .rs n1 k1 x1, E3, s6.good, r6, e7, C, eC, fun dx us σ3 F7 H7 as7 s7 r7 p7 z y => ?_⟩
                exact bk dx us σ3 F7 H7 as7 (s6'.trans s7) r7 ((p6.trans p7).weak h1) (hv0.keep (p4.trans (p6.trans p7)) hin) s4.good z y
              · cases e5
            · cases e5
          · have ei : i = items.length := by omega
            subst ei
            rw [List.drop_length] at e5
            cases e5
            refine .inl ⟨ok2, ?_⟩
            exact bk σ1 F4 H1 as4 (Step.refl s4.good.right') r4 (SameAt.refl _ _) (hv0.keep p4 hin) s4.good
        · cases e
      · cases e
    · cases e
  · cases e
end
end MP

/-! Mirror layer, part 5: list comprehensions. -/
namespace MP
open PySem PySem.Spec L2

theorem wipe_get (σ : Sl) : ∀ (vs : List Nat) (i : Nat), (wipe σ vs)[i]? = if i ∈ vs then (if i < σ.length then some none else none) else σ[i]?
  | [], i => by simp [wipe]
  | v :: vs, i => by
    unfold wipe
    by_cases h : v = i
    · subst h
      rw [List.getElem?_set]
      simp [wipe_length]
    · rw [List.getElem?_set_ne h, wipe_get σ vs i]
      have : i ≠ v := fun e => h e.symm
      simp [this]
theorem wipe_eq {σ σ2 : Sl} {own : List Nat} (hl : σ2.length = σ.length) (h : ∀ i, i ∉ own → σ2[i]? = σ[i]?) : wipe σ2 own = wipe σ own := by
  apply List.ext_getElem?
  intro i
  rw [wipe_get, wipe_get, hl]
  by_cases q : i ∈ own
  · simp [q]
  · simp [q, h i q]
def pinC (own : List Nat) : Pn := fun i => !own.contains i
theorem wipe_same {σ σ2 : Sl} {own : List Nat} (p : SameAt (pinC own) (wipe σ own) σ2) : wipe σ2 own = wipe σ own := by
  apply List.ext_getElem?
  intro i
  rw [wipe_get, wipe_get, p.1, wipe_length]
  by_cases q : i ∈ own
  · simp [q]
  · have : pinC own i = true := by simp [pinC, q]
    rw [p.2 i this, wipe_get]
    simp [q]
def OwnNone (own : List Nat) (E : En) : Prop := ∀ i ∈ own, E[i]? = some none ∨ E[i]? = none
theorem none_or (E : En) (i : Nat) : (E.set i none)[i]? = some none ∨ (E.set i none)[i]? = none := by
  by_cases h : i < E.length
  · exact .inl (set_none_get h)
  · exact .inr (List.getElem?_eq_none_iff.mpr (by simpa using h))
theorem kill_keep : ∀ (is : List Nat) (E : En) (i : Nat), (E[i]? = some none ∨ E[i]? = none) → (kill is E)[i]? = some none ∨ (kill is E)[i]? = none
  | [], E, i, h => h
  | j :: is, E, i, h => by
    refine kill_keep is (E.set j none) i ?_
    by_cases e : j = i
    · subst e
      exact none_or E j
    · rw [List.getElem?_set_ne e]
      exact h
theorem kill_none : ∀ (is : List Nat) (E : En), OwnNone is (kill is E)
  | [], E => fun i z => (nomatch z)
  | j :: is, E => fun i z => by
    rcases List.mem_cons.mp z with e | z
    · subst e
      exact kill_keep is _ i (none_or E i)
    · exact kill_none is (E.set j none) i z
section
variable {U : Wd} {F H : Hp} {σ : Sl} {E : En} {as : List Addr} {own : List Nat}
theorem REnv.towipe (h : REnv U F H σ E as) : ∀ {own : List Nat}, OwnNone own E → REnv U F H (wipe σ own) E as
  | [], _ => h
  | v :: vs, n => by
    have := REnv.towipe h (own := vs) fun i z => n i (.tail _ z)
    exact this.anyσ (n v (.head _)) none
theorem REnv.unwipe : ∀ {own : List Nat}, REnv U F H (wipe σ own) E as → OwnNone own E → REnv U F H σ E as
  | [], h, _ => h
  | v :: vs, h, n => by
    refine REnv.unwipe (own := vs) ?_ fun i z => n i (.tail _ z)
    by_cases hv : v < (wipe σ vs).length
    · have this : REnv U F H (((wipe σ vs).set v none).set v ((wipe σ vs)[v])) E as := h.anyσ (n v (.head _)) ((wipe σ vs)[v])
      rw [List.set_set, set_self (List.getElem?_eq_getElem hv)] at this
      exact this
    · have e : wipe σ (v :: vs) = wipe σ vs := by
        show (wipe σ vs).set v none = _
        exact List.set_eq_of_length_le (by omega)
      rw [e] at h
      exact h
theorem REnv.wipeKill (own : List Nat) (h : REnv U F H σ E as) : ∃ a0 rest, as.Perm (a0 ++ rest) ∧ REnv U F H (wipe σ own) (MP.kill own E) rest := by
  obtain ⟨a0, rest, p, r⟩ := h.kill own
  exact ⟨a0, rest, p, r.towipe (kill_none own E)⟩
end
def backF : List Nat → En → En → En
  | [], _, E => E
  | i :: is, E0, E => match E0[i]? with
    | some (some d) => backF is E0 (if d.frozen = true then E.set i (some d) else E)
    | _ => backF is E0 E
theorem backF_ok {U : Wd} {F F' H H' : Hp} {σ : Sl} {E0 : En} {as0 : List Addr} (r0 : REnv U F H σ E0 as0) (hF : Fle F F') : ∀ (own : List Nat) {E : En} {as : List Addr}, REnv U F' H' σ E as → ∃ a0 rest, as.Perm (a0 ++ rest) ∧ REnv U F' H' σ (backF own E0 E) rest
  | [], E, as, r => ⟨[], as, List.Perm.refl _, r⟩
  | i :: is, E, as, r => by
    unfold backF
    split
    · rename_i d ed
      by_cases hf : d.frozen = true
      · rw [if_pos hf]
        obtain ⟨v, a1, _, hv, w, _, _⟩ := r0.take ed
        have := w.nil_of hf
        subst this
        obtain ⟨b0, rest, p, r1⟩ := r.drop i
        by_cases hi : i < E.length
        · have r2 := r1.putS (set_none_get hi) hv (w.mono0 (H' := H') hF)
          rw [List.set_set] at r2
          obtain ⟨a0, rest', p', r'⟩ := backF_ok r0 hF is r2
          exact ⟨b0 ++ a0, rest', p.trans (by rw [List.append_assoc]; exact p'.append_left b0), r'⟩
        · have l := r.len
          have : σ[i]? = none := List.getElem?_eq_none_iff.mpr (by omega)
          rw [this] at hv
          cases hv
      · rw [if_neg hf]
        exact backF_ok r0 hF is r
    · exact backF_ok r0 hF is r

def cL (g : Gm) (t : Tx) (e : Ex) (own : List Nat) : List D → En → Option (List D × En)
  | [], E => some ([], E)
  | x :: xs, E => match g x E with
    | some E1 => match t E1 with
      | some (true, E2) => match e E2 with
        | some (d, E3) => match cL g t e own xs (kill own E3) with
          | some (ds, E4) => some (d :: ds, E4)
          | none => none
        | none => none
      | some (false, E2) => cL g t e own xs (kill own E2)
      | none => none
    | none => none
def xComp (m : Hx) (mk : Mk) (own : List Nat) (g : Gm) (t : Tx) (e : Ex) : Ex := fun E => match m E with
  | some (hs, E1) => match takeL hs E1 with
    | some (ds, E2) => match mk ds with
      | some items => match cL g t e own items (kill own E2) with
        | some (rs, E3) => if lineOk rs.length = true then some (.lst true rs, putL hs ds (ds.map some) (backF own E2 E3)) else none
        | none => none
      | none => none
    | none => none
  | none => none
theorem Step.writeIn {F H : Hp} {as : List Addr} {p : Addr} {o : HO} (g : Good F H as) (hp : p ∈ as) (pl : Pl o := by exact True.intro) : Step F H as F (upd H p o) as := by
  obtain ⟨a, b, rfl⟩ := List.append_of_mem hp
  have pm : (a ++ p :: b).Perm (p :: (a ++ b)) := List.perm_middle
  exact ((Step.write (g.perm pm) pl).perm pm.symm).permS pm.symm
theorem comp_reads {U : Wd} {m : Hx} {mk : Mk} {own : List Nat} {g : Gm} {t : Tx} {e : Ex} {σ : Sl} {H : Hp} {Q : VK} (q : tM U (xComp m mk own g t e) σ H Q) : tLc (tI U m mk) (tG U (pinC own) g) (tT U t) (tM U e) own σ H Q := by
  obtain ⟨E, F, as, d, E', gd, r, e0, q⟩ := q
  unfold xComp at e0
  split at e0
  · rename_i hs E1 e1
    split at e0
    · rename_i ds E2 e2
      split at e0
      · rename_i items e3
        split at e0
        · rename_i rs E3 e4
          split at e0
          · rename_i hl
            cases e0
            have hl : rs.length ≤ sizeLine := of_decide_eq_true hl
            refine ⟨E, F, as, hs, E1, ds, E2, items, gd, r, e1, e2, e3, fun J vs F0 H0 ws as0 s0 r0 l0 hv0 ok Dp hD => ?_⟩
            have ne0 : ∀ a ∈ ws ++ as0, a ≠ Dp := fun a z h => s0.good.on a z (h ▸ hD)
            obtain ⟨a0, rest, p0, r1⟩ := r0.wipeKill own
            -- the state between turns
            let St (i : Nat) (H' : Hp) : Prop := ∃ E4 F4 as4 acc accd accs rs', Step F0 H0 (ws ++ as0) F4 H' (((Dp :: accs) ++ ws) ++ as4) ∧ (∀ a ∈ ws, H' a = H0 a) ∧ H' Dp = some (.lst acc) ∧ RpL U F4 H' acc accd accs ∧
              REnv U F4 H' (wipe σ own) E4 as4 ∧ OwnNone own E4 ∧ cL g t e own (items.drop i) E4 = some (rs', E3) ∧ accd ++ rs' = rs
            have st0 : St 0 (upd H0 Dp (.lst [])) := by
              have al := (Step.alloc (o := .lst []) s0.good.zero hD).frame s0.good
              have pr : (ws ++ as0 ++ [Dp]).Perm (a0 ++ ((Dp :: []) ++ ws ++ rest)) := by
                refine List.perm_append_comm.trans ?_
                show (Dp :: (ws ++ as0)).Perm _
                refine List.Perm.trans (l₂ := Dp :: (a0 ++ (ws ++ rest))) (List.Perm.cons Dp ?_) ?_
                · refine (p0.append_left ws).trans ?_
                  rw [← List.append_assoc, ← List.append_assoc]
                  exact List.perm_append_comm.append_right rest
                · exact (List.perm_middle (a := Dp) (l₁ := a0) (l₂ := ws ++ rest)).symm
              have al2 := (al.perm pr).right
              refine ⟨kill own E2, F0, rest, [], [], [], rs, al2, fun a z => upd_ne (ne0 a (List.mem_append_left _ z)), upd_same, .nil, ?_, kill_none own E2, by simpa using e4, rfl⟩
              exact r1.mono (Fle.refl _) fun a z => upd_ne (ne0 a (List.mem_append_right _ (p0.mem_iff.mpr (List.mem_append_right _ z))))
            refine ⟨fun i n H' => n = items.length - i ∧ i ≤ items.length ∧ St i H', ⟨items.length, rfl, Nat.zero_le _, st0⟩, ?_⟩
            rintro i n H1 ⟨rfl, hi, E4, F4, as4, acc, accd, accs, rs', s4, k4, hDp, lacc, r4, on4, e5, er⟩
            obtain ⟨ok1, ok2⟩ := ok F4 H1 s4.ext s4.good.zero k4
            have dis : ∀ b ∈ (Dp :: accs) ++ ws, b ∉ as4 := fun b z h => (List.nodup_append.mp s4.good.nd).2.2 b z b h rfl
            by_cases hlt : i < items.length
            · rw [List.drop_eq_getElem_cons hlt] at e5
              obtain ⟨go, yl⟩ := ok1 i _ (List.getElem?_eq_getElem hlt)
              refine .inr ⟨go, St (i + 1), fun H' z => ⟨items.length - (i + 1), by omega, rfl, hlt, z⟩, fun x Hx hy => ?_⟩
              obtain ⟨Fx, sx, rx⟩ := yl x Hx hy
              obtain ⟨sx3, r5⟩ := fin (Step.refl s4.good.right') r4 sx
              -- how a turn ends
              have turn : ∀ {σ2 : Sl} {F7 H7 : Hp} {as7 : List Addr} {E7 : En}, Step F4 H1 as4 F7 H7 as7 → REnv U F7 H7 σ2 E7 as7 → wipe σ2 own = wipe σ own → cL g t e own (items.drop (i + 1)) (kill own E7) = some (rs', E3) → St (i + 1) H7 := fun {σ2 F7 H7 as7 E7} s7 r7 wq e7 => by
                obtain ⟨a0, rest, pp, r8⟩ := r7.wipeKill own
                rw [wq] at r8
                have s8 : Step F4 H1 as4 F7 H7 rest := (s7.perm pp).right
                have kk : ∀ b ∈ (Dp :: accs) ++ ws, H7 b = H1 b := Step.wait (Step.refl s4.good) s8
                refine ⟨kill own E7, F7, rest, acc, accd, accs, rs', s4.seq s8, fun a z => (kk a (List.mem_append_right _ z)).trans (k4 a z), (kk Dp (List.mem_append_left _ (.head _))).trans hDp, lacc.mono s7.ext fun a z => kk a (List.mem_append_left _ (.tail _ z)), r8, kill_none own E7, e7, er⟩
              unfold cL at e5
              split at e5
              · rename_i E5 e6
                refine ⟨E4, Fx, [], as4, items[i], E5, sx3.good, r5, rx, e6, fun σ2 F6 H6 as6 s6 r6 p6 => ?_⟩
                have s6' : Step F4 H1 as4 F6 H6 as6 := sx3.trans s6
                have wq := wipe_same p6
                refine ⟨wq, ?_⟩
                split at e5
                · rename_i E6 e7
                  refine ⟨E5, F6, as6, true, E6, s6.good, r6, e7, fun F7 H7 as7 s7 r7 => ?_⟩
                  show (if true = true then _ else _)
                  rw [if_pos rfl]
                  split at e5
                  · rename_i dd E7 e8
                    split at e5
                    · rename_i ds' E8 e9
                      cases e5
                      refine ⟨E6, F7, as7, dd, E7, s7.good, r7, e8, fun v F8 H8 bs as8 s8 r8 w8 => ?_⟩
                      have s8' : Step F4 H1 as4 F8 H8 (bs ++ as8) := (s6'.trans s7).trans s8
                      have kk : ∀ b ∈ (Dp :: accs) ++ ws, H8 b = H1 b := Step.wait (Step.refl s4.good) s8'
                      have hD8 : H8 Dp = some (.lst acc) := (kk Dp (List.mem_append_left _ (.head _))).trans hDp
                      have s9 := s4.seq s8'
                      refine ⟨acc, hD8, ?_, ?_⟩
                      · rw [lacc.len]
                        have : rs.length = accd.length + (ds'.length + 1) := by rw [← er, List.length_append, List.length_cons]
                        omega
                      · obtain ⟨a1, rest, pp, r10⟩ := r8.wipeKill own
                        rw [wq] at r10
                        have hin : Dp ∈ ((Dp :: accs) ++ ws) ++ (bs ++ as8) := List.mem_append_left _ (List.mem_append_left _ (.head _))
                        have s10 := s9.trans (Step.writeIn (o := .lst (acc ++ [v])) s9.good hin)
                        have nd := s9.good.nd
                        have ndD : ∀ b, b ∈ accs ++ ws ++ (bs ++ as8) → b ≠ Dp := fun b z h => by
                          have := (List.nodup_cons.mp (show (Dp :: (accs ++ ws ++ (bs ++ as8))).Nodup by simpa using nd)).1
                          exact this (h ▸ z)
                        have pr : (((Dp :: accs) ++ ws) ++ (bs ++ as8)).Perm (a1 ++ (((Dp :: (accs ++ bs)) ++ ws) ++ rest)) := by
                          show (Dp :: ((accs ++ ws) ++ (bs ++ as8))).Perm _
                          refine List.Perm.trans (l₂ := Dp :: (a1 ++ (((accs ++ bs) ++ ws) ++ rest))) (List.Perm.cons Dp ?_) (List.perm_middle (a := Dp) (l₁ := a1) (l₂ := ((accs ++ bs) ++ ws) ++ rest)).symm
                          refine List.Perm.trans (l₂ := (accs ++ ws) ++ (bs ++ (a1 ++ rest))) ((pp.append_left bs).append_left _) ?_
                          refine List.Perm.trans (l₂ := ((accs ++ bs) ++ ws) ++ (a1 ++ rest)) ?_ ?_
                          · rw [← List.append_assoc]
                            refine List.Perm.append_right _ ?_
                            rw [List.append_assoc, List.append_assoc]
                            exact List.perm_append_comm.append_left accs
                          · rw [← List.append_assoc, ← List.append_assoc]
                            exact List.perm_append_comm.append_right rest
                        refine ⟨kill own E7, F8, rest, acc ++ [v], accd ++ [dd], accs ++ bs, ds', (s10.perm pr).right, fun a z => ?_, upd_same, ?_, ?_, kill_none own E7, e9, by rw [← er]; simp⟩
                        · rw [upd_ne (ndD a (List.mem_append_left _ (List.mem_append_right _ z)))]
                          exact (kk a (List.mem_append_right _ z)).trans (k4 a z)
                        · refine RpL.app (lacc.mono s8'.ext fun a z => ?_) (RpL.one (w8.mono (Fle.refl _) fun a z => ?_))
                          · rw [upd_ne (ndD a (List.mem_append_left _ (List.mem_append_left _ z)))]
                            exact kk a (List.mem_append_left _ (.tail _ z))
                          · exact upd_ne (ndD a (List.mem_append_right _ (List.mem_append_left _ z)))
                        · refine r10.mono (Fle.refl _) fun a z => upd_ne (ndD a (List.mem_append_right _ (List.mem_append_right _ (pp.mem_iff.mpr (List.mem_append_right _ z)))))
                    · cases e5
                  · cases e5
                · rename_i E6 e7
                  refine ⟨E5, F6, as6, false, E6, s6.good, r6, e7, fun F7 H7 as7 s7 r7 => ?_⟩
                  show (if false = true then _ else _)
                  rw [if_neg Bool.false_ne_true]
                  exact turn (s6'.trans s7) r7 wq e5
                · cases e5
              · cases e5
            · have ei : i = items.length := by omega
              subst ei
              rw [List.drop_length] at e5
              cases e5
              refine .inl ⟨ok2, ?_⟩
              rw [List.append_nil] at er
              subst er
              have r6 := r4.unwipe on4
              obtain ⟨b0, rest', p6, r7⟩ := backF_ok r0 s4.ext own r6
              have l4 : RpL U F4 H1 vs ds ws := l0.mono s4.ext k4
              obtain ⟨c0, as9, p9, r9⟩ := putL_ok (ds := ds) hv0 (RpE.ofL0 l4) r7
              refine q (.ref Dp) F4 H1 (Dp :: accs) as9 ?_ r9 (.lstO hDp lacc)
              have pr : (((Dp :: accs) ++ ws) ++ as4).Perm ((b0 ++ c0) ++ ((Dp :: accs) ++ as9)) := by
                refine List.Perm.trans (l₂ := (Dp :: accs) ++ (ws ++ (b0 ++ rest'))) (by rw [List.append_assoc]; exact (p6.append_left ws).append_left _) ?_
                refine List.Perm.trans (l₂ := (Dp :: accs) ++ (b0 ++ (ws ++ rest'))) (List.Perm.append_left _ (by
                  rw [← List.append_assoc, ← List.append_assoc]
                  exact List.perm_append_comm.append_right rest')) ?_
                refine List.Perm.trans (l₂ := (Dp :: accs) ++ (b0 ++ (c0 ++ as9))) ((p9.append_left b0).append_left _) ?_
                rw [← List.append_assoc b0, ← List.append_assoc, ← List.append_assoc (b0 ++ c0)]
                exact List.perm_append_comm.append_right as9
              exact (s0.trans (s4.perm pr)).right
          · cases e0
        · cases e0
      · cases e0
    · cases e0
  · cases e0
def tYesT : Tx := fun E => some (true, E)
section
variable [LE] [WC] {X : Cx} {elt tg iter : Expr} {scope : Scope} {own : List (Str × Nat)} {pos spos : Pos} {m : Hx} {mk : Mk} {g : Gm} {t : Tx} {e : Ex} {ifs : List Expr}
theorem mpts_nil : PTs X [] (tT (ux X) tYesT) := ⟨fun pins s σ H Q I q => pts_nil.run pins s σ H Q I (by
  obtain ⟨E, F, as, b, E', g, r, e, q⟩ := q
  cases e
  exact q F H as (Step.refl g) r)⟩
theorem mpts_one {c : Expr} (h : PT X c (tT (ux X) t)) : PTs X [c] (tT (ux X) t) := pts_one h
theorem mv_lc (hc : X.calm = true) (hN : X.N.Nodup) (hi : PI X tg iter (tI (ux X) m mk)) (ok : BlkOk X.N X.env.scope scope own)
    (hg : ∀ (s : Shared) (H : Hp) (C : Addr) (cl : List (Str × Addr)) (fp : List Addr), PG (X.blk s H scope (compEnvC scope cl C X.env) fp) tg (tG (ux X) (pinC (own.map (·.2))) g))
    (ht : ∀ (s : Shared) (H : Hp) (C : Addr) (cl : List (Str × Addr)) (fp : List Addr), PTs (X.blk s H scope (compEnvC scope cl C X.env) fp) ifs (tT (ux X) t))
    (he : ∀ (s : Shared) (H : Hp) (C : Addr) (cl : List (Str × Addr)) (fp : List Addr), PE (X.blk s H scope (compEnvC scope cl C X.env) fp) elt (tM (ux X) e)) (hs : ∀ x, foldedSetIterable iter X.env x = pure x := by intro _; rfl) :
    PE X (.ListComp elt [⟨tg, iter, ifs, 0⟩] scope pos) (tM (ux X) (xComp m mk (own.map (·.2)) g t e)) := pe_mono (pe_lc hc hN hi ok hg ht he hs) fun _ _ _ q => comp_reads q
theorem ms_setLc {i : Nat} {y : Str} {py : Pos} {pin : Pn} (hp : pin i = false) (hc : X.calm = true) (hN : X.N.Nodup) (hy : X.N[i]? = some y) (hyl : X.env.scope.names.lookup y = some .local)
    (hsw : swapsWith (.ListComp elt [⟨tg, iter, ifs, 0⟩] scope pos) (some (.Name y py)) spos.line X.env = pure true) (hi : PI X tg iter (tI (ux X) m mk)) (ok : BlkOk X.N X.env.scope scope own)
    (hg : ∀ (s : Shared) (H : Hp) (C : Addr) (cl : List (Str × Addr)) (fp : List Addr), PG (X.blk s H scope (compEnvC scope cl C X.env) fp) tg (tG (ux X) (pinC (own.map (·.2))) g))
    (ht : ∀ (s : Shared) (H : Hp) (C : Addr) (cl : List (Str × Addr)) (fp : List Addr), PTs (X.blk s H scope (compEnvC scope cl C X.env) fp) ifs (tT (ux X) t))
    (he : ∀ (s : Shared) (H : Hp) (C : Addr) (cl : List (Str × Addr)) (fp : List Addr), PE (X.blk s H scope (compEnvC scope cl C X.env) fp) elt (tM (ux X) e)) (hs : ∀ x, foldedSetIterable iter X.env x = pure x := by intro _; rfl) :
    PS X (.Assign [.Name y py] (.ListComp elt [⟨tg, iter, ifs, 0⟩] scope pos) spos) (tS (ux X) pin (sAsg (xComp m mk (own.map (·.2)) g t e) (gSet i))) :=
  ms_asg' (ps_setLc hc hN hy hyl hsw hi ok hg ht he hs) (fun _ _ _ q => comp_reads q) fun v σ H Q q => by
    obtain ⟨E, F, bs, as, d, E', g, rE, w, e, q⟩ := q
    unfold gSet at e
    split at e
    · rename_i hi
      cases e
      obtain ⟨a0, rest, p, r1⟩ := rE.store hi w
      have p2 : (bs ++ as).Perm (a0 ++ (bs ++ rest)) := (p.append_left bs).trans (by
        rw [← List.append_assoc, ← List.append_assoc]
        exact List.perm_append_comm.append_right rest)
      exact q _ F H (bs ++ rest) (((Step.refl g).perm p2).right) r1 (SameAt.set hp)
    · cases e
end
end MP

/-! Mirror layer, part 6: operators and comparisons by value. -/
namespace MP
open PySem PySem.Spec L2

/-! ### flat data -/
def D.flat : D → Bool
  | .non => true
  | .bl _ => true
  | .int _ => true
  | .str _ => true
  | _ => false
def D.toV : D → V
  | .bl b => .bl b
  | .int i => .int i
  | .str s => .str s
  | _ => .non
section
variable {U : Wd} {F H : Hp} {v : V} {d : D} {as : List Addr}
theorem Rp.flat (h : Rp U F H v d as) (f : d.flat = true) : v = d.toV ∧ as = [] := by
  cases h with
  | non => exact ⟨rfl, rfl⟩
  | bl b => exact ⟨rfl, rfl⟩
  | int i => exact ⟨rfl, rfl⟩
  | str s => exact ⟨rfl, rfl⟩
  | _ => cases f
theorem flatV_of {d : D} (f : d.flat = true) : flatV d.toV = true := by
  cases d with
  | non => rfl
  | bl b => rfl
  | int i => rfl
  | str s => rfl
  | _ => cases f
theorem Rp.ofFlat {d : D} (f : d.flat = true) : Rp U F H d.toV d [] := by
  cases d with
  | non => exact .non
  | bl b => exact .bl b
  | int i => exact .int i
  | str s => exact .str s
  | _ => cases f
theorem RpL.flat : ∀ {vs : List V} {ds : List D} {as : List Addr}, RpL U F H vs ds as → ds.all D.flat = true → vs = ds.map D.toV
  | _, _, _, .nil, _ => rfl
  | _, _, _, .cons h t, f => by
    rw [List.all_cons, Bool.and_eq_true] at f
    rw [List.map_cons, ← (h.flat f.1).1, ← t.flat f.2]
theorem all_flatV {ds : List D} (f : ds.all D.flat = true) : (ds.map D.toV).all flatV = true := by
  rw [List.all_map]
  rw [List.all_eq_true] at f ⊢
  exact fun d z => flatV_of (f d z)
end

/-! ### results -/
section
variable {U : Wd} {F H : Hp} {Q : VK} {vs : List V} {ds : List D}
theorem new_list (g : Good F H []) (l : RpL U F H vs ds []) (k : ∀ v F' H' bs, Step F H [] F' H' bs → Rp U F' H' v (.lst true ds) bs → Q v H') : ∀ p, H p = none → Q (.ref p) (upd H p (.lst vs)) := fun p hp =>
  k (.ref p) F _ [p] (Step.alloc g hp) (.lstO upd_same (l.mono0 (Fle.refl _)))
theorem new_tup (g : Good F H []) (l : RpL U F H vs ds []) (k : ∀ v F' H' bs, Step F H [] F' H' bs → Rp U F' H' v (.tup false ds) bs → Q v H') : ∀ p, H p = none → Q (.ref p) (upd H p (.tup vs)) := fun p hp => by
  have t := Step.allocF (o := .tup vs) g hp
  exact k (.ref p) _ _ [] t (.tupS (.inl (.inl upd_same)) (l.mono0 t.ext))
end
/-- tracked or written list with frozen items -/
theorem lst0 {U : Wd} {F H : Hp} {v : V} {o : Bool} {ds : List D} {as : List Addr} (g : Good F H []) (h : Rp U F H v (.lst o ds) as) (hf : frozenL ds = true) : ∃ a vs, v = .ref a ∧ H a = some (.lst vs) ∧ RpL U F H vs ds [] := by
  obtain ⟨a, vs, e, hq, bs, l⟩ := lst_now g.le h
  exact ⟨a, vs, e, hq, l.frozen0 hf⟩
theorem tup0 {U : Wd} {F H : Hp} {v : V} {o : Bool} {ds : List D} {as : List Addr} (g : Good F H []) (h : Rp U F H v (.tup o ds) as) (hf : frozenL ds = true) : ∃ a vs, v = .ref a ∧ SqT U.K H a vs ∧ RpL U F H vs ds [] := by
  obtain ⟨a, vs, e, hq, bs, l⟩ := tup_now g.le h
  exact ⟨a, vs, e, hq, l.frozen0 hf⟩
theorem tupS0 {U : Wd} {F H : Hp} {v : V} {ds : List D} {as : List Addr} (g : Good F H []) (h : Rp U F H v (.tup false ds) as) : ∃ a vs, v = .ref a ∧ SqT U.K H a vs ∧ RpL U F H vs ds [] ∧ as = [] := by
  cases h with
  | tupS h l => exact ⟨_, _, rfl, g.le.seqT h, l, rfl⟩

/-! ### + -/
def addD : D → D → Option D
  | .int i, .int j => some (.int (i + j))
  | .str a, .str b => if lineOk (a.length + b.length) = true then some (.str (a ++ b)) else none
  | .lst _ xs, .lst _ ys => if (frozenL xs && frozenL ys && lineOk (xs.length + ys.length)) = true then some (.lst true (xs ++ ys)) else none
  | .tup false xs, .tup false ys => if lineOk (xs.length + ys.length) = true then some (.tup false (xs ++ ys)) else none
  | .int i, .bl b => some (.int (i + PyProof.Rows.b2i b))
  | _, _ => none
def rAddInt : R2 := rI0 fun i j => .int (i + j)
def rAddStr : R2 := fun x y H Q => ∃ i j, x = .str i ∧ y = .str j ∧ i.length + j.length ≤ sizeLine ∧ Q (.str (i ++ j)) H
def rAddIB : R2 := fun x y H Q => ∃ i k, x = .int i ∧ y = .bl k ∧ Q (.int (i + PyProof.Rows.b2i k)) H
def rAdd (K : PySem.W.Frag) : R2 := fun x y H Q => rAddInt x y H Q ∨ rAddStr x y H Q ∨ rCat x y H Q ∨ rCatA K x y H Q ∨ rAddIB x y H Q
theorem op_addD {X : Cx} : OpR X (binaryOp .Add) (rAdd X.K) := OpR.or op_add (OpR.or op_add_str (OpR.or op_cat (OpR.or op_catA op_add_ib)))
theorem ok_add {U : Wd} : Ok2 U (rAdd U.K) addD := fun F H x y d1 d2 d c1 c2 Q g w1 w2 e k => by
  unfold addD at e
  split at e
  · cases e
    obtain ⟨rfl, _⟩ := rp_int w1
    obtain ⟨rfl, _⟩ := rp_int w2
    exact .inl ⟨_, _, rfl, rfl, same_ g k (.int _)⟩
  · split at e
    · rename_i h
      cases e
      obtain ⟨rfl, _⟩ := rp_str w1
      obtain ⟨rfl, _⟩ := rp_str w2
      exact .inr (.inl ⟨_, _, rfl, rfl, of_decide_eq_true h, same_ g k (.str _)⟩)
    · cases e
  · split at e
    · rename_i h
      cases e
      simp only [Bool.and_eq_true] at h
      obtain ⟨⟨h1, h2⟩, h3⟩ := h
      obtain ⟨a, vs, rfl, e1, l1⟩ := lst0 g w1 h1
      obtain ⟨b, us, rfl, e2, l2⟩ := lst0 g w2 h2
      exact .inr (.inr (.inl ⟨a, b, vs, us, rfl, rfl, e1, e2, by rw [l1.len, l2.len]; exact of_decide_eq_true h3, new_list g (l1.app0 l2) k⟩))
    · cases e
  · split at e
    · rename_i xs ys h
      cases e
      obtain ⟨a, vs, rfl, e1, l1, _⟩ := tupS0 g w1
      obtain ⟨b, us, rfl, e2, l2, _⟩ := tupS0 g w2
      refine .inr (.inr (.inr (.inl ⟨a, b, vs, us, rfl, rfl, e1, e2, by rw [l1.len, l2.len]; exact of_decide_eq_true h, fun z => ?_, fun z1 z2 => ?_, fun z1 z2 => new_tup g (l1.app0 l2) k⟩)))
      · subst z
        have : xs = [] := List.eq_nil_of_length_eq_zero (by rw [← l1.len]; rfl)
        subst this
        rename_i c2 _
        cases w2 with
        | tupS w2 l => exact same_ g k (.tupS w2 l)
      · subst z2
        have : ys = [] := List.eq_nil_of_length_eq_zero (by rw [← l2.len]; rfl)
        subst this
        rw [List.append_nil] at k
        cases w1 with
        | tupS w1 l => exact same_ g k (.tupS w1 l)
    · cases e
  · cases e
    obtain ⟨rfl, _⟩ := rp_int w1
    obtain ⟨rfl, _⟩ := rp_bl w2
    exact .inr (.inr (.inr (.inr ⟨_, _, rfl, rfl, same_ g k (.int _)⟩)))
  · cases e

/-! ### other arithmetic -/
def subD : D → D → Option D
  | .int i, .int j => some (.int (i - j))
  | _, _ => none
theorem ok_sub {U : Wd} : Ok2 U (rI0 fun i j => .int (i - j)) subD := fun F H x y d1 d2 d c1 c2 Q g w1 w2 e k => by
  unfold subD at e
  split at e
  · cases e
    obtain ⟨rfl, _⟩ := rp_int w1
    obtain ⟨rfl, _⟩ := rp_int w2
    exact ⟨_, _, rfl, rfl, same_ g k (.int _)⟩
  · cases e
def in64 (i : Int) : Bool := decide (-(2 ^ 64) < i ∧ i < 2 ^ 64)
def mulOkS (x : Str) (n : Int) : Bool := decide (-(2 ^ 63) ≤ n ∧ n < 2 ^ 63) && decide (x.length * n.toNat ≤ 16777216)
def mulD : D → D → Option D
  | .int i, .int j => if (in64 i || in64 j) = true then some (.int (i * j)) else none
  | .str s, .int n => if mulOkS s n = true then some (.str (Txt.mul s n)) else none
  | .lst _ xs, .int n => if (frozenL xs && decide (-(2 ^ 63) ≤ n ∧ n < 2 ^ 63) && lineOk (xs.length * n.toNat)) = true then some (.lst true (List.replicate n.toNat xs).flatten) else none
  | _, _ => none
theorem mulOk_of {x : Str} {n : Int} (h : mulOkS x n = true) : MulOk x n := by
  unfold mulOkS at h
  simp only [Bool.and_eq_true, decide_eq_true_eq] at h
  obtain ⟨⟨h1, h2⟩, h3⟩ := h
  refine ⟨?_, fun a b => ?_, fun a b => ?_⟩
  · rw [Bool.or_eq_false_iff, decide_eq_false_iff_not, decide_eq_false_iff_not]
    exact ⟨by omega, by omega⟩
  · have hn : 0 < n := by omega
    have h4 : (x.length : Int) * n ≤ 16777216 := by
      have q : ((x.length * n.toNat : Nat) : Int) ≤ ((16777216 : Nat) : Int) := Int.ofNat_le.mpr h3
      rw [Int.natCast_mul, Int.toNat_of_nonneg (by omega)] at q
      exact q
    have h5 : (x.length : Int) ≤ (2 ^ 63 - 1) / n := by
      rw [Int.le_ediv_iff_mul_le hn]
      omega
    omega
  · have e : sizeLine = 16777216 := by decide
    unfold Builtin.Str.tooLong
    exact decide_eq_false (by omega)
def rMulStr : R2 := fun x y H Q => ∃ s n, x = .str s ∧ y = .int n ∧ MulOk s n ∧ Q (.str (Txt.mul s n)) H
theorem op_mul_str {X : Cx} : OpR X (binaryOp .Mult) rMulStr := by
  intro pins s σ H x y v u Q I rx ry h
  obtain ⟨z, n, rfl, rfl, hok, q⟩ := h
  obtain ⟨t, rfl⟩ := rx
  obtain ⟨t', rfl⟩ := ry
  exact SB.mul hok fun t' k => ⟨.str _, H, I.tok _, ⟨_, rfl⟩, q⟩
def rMulInt : R2 := rI CMul fun i j => .int (i * j)
def rMul : R2 := fun x y H Q => rMulInt x y H Q ∨ rMulStr x y H Q ∨ rRep x y H Q
theorem op_mulD {X : Cx} : OpR X (binaryOp .Mult) rMul := OpR.or op_mul (OpR.or op_mul_str op_rep)
theorem RpL.rep {U : Wd} {F H : Hp} {vs : List V} {ds : List D} (l : RpL U F H vs ds []) : ∀ n : Nat, RpL U F H (List.replicate n vs).flatten (List.replicate n ds).flatten []
  | 0 => .nil
  | n + 1 => by
    rw [List.replicate_succ, List.replicate_succ, List.flatten_cons, List.flatten_cons]
    exact l.app0 (RpL.rep l n)
theorem ok_mul {U : Wd} : Ok2 U rMul mulD := fun F H x y d1 d2 d c1 c2 Q g w1 w2 e k => by
  unfold mulD at e
  split at e
  · split at e
    · rename_i h
      cases e
      obtain ⟨rfl, _⟩ := rp_int w1
      obtain ⟨rfl, _⟩ := rp_int w2
      refine .inl ⟨_, _, rfl, rfl, ?_, same_ g k (.int _)⟩
      rcases Bool.or_eq_true_iff.mp h with h | h
      · exact .inl (of_decide_eq_true h)
      · exact .inr (of_decide_eq_true h)
    · cases e
  · split at e
    · rename_i h
      cases e
      obtain ⟨rfl, _⟩ := rp_str w1
      obtain ⟨rfl, _⟩ := rp_int w2
      exact .inr (.inl ⟨_, _, rfl, rfl, mulOk_of h, same_ g k (.str _)⟩)
    · cases e
  · split at e
    · rename_i h
      cases e
      simp only [Bool.and_eq_true, decide_eq_true_eq] at h
      obtain ⟨⟨h1, h2⟩, h3⟩ := h
      obtain ⟨a, vs, rfl, e1, l1⟩ := lst0 g w1 h1
      obtain ⟨rfl, _⟩ := rp_int w2
      exact .inr (.inr ⟨a, _, vs, rfl, rfl, e1, h2.1, h2.2, by rw [l1.len]; exact of_decide_eq_true h3, new_list g (l1.rep _) k⟩)
    · cases e
  · cases e
def modD : D → D → Option D
  | .int i, .int j => if 0 < j then some (.int (i % j)) else none
  | _, _ => none
theorem ok_mod {U : Wd} : Ok2 U (rI (fun _ j => 0 < j) fun i j => .int (i % j)) modD := fun F H x y d1 d2 d c1 c2 Q g w1 w2 e k => by
  unfold modD at e
  split at e
  · split at e
    · rename_i h
      cases e
      obtain ⟨rfl, _⟩ := rp_int w1
      obtain ⟨rfl, _⟩ := rp_int w2
      exact ⟨_, _, rfl, rfl, h, same_ g k (.int _)⟩
    · cases e
  · cases e
def divD : D → D → Option D
  | .int i, .int j => if 0 < j ∧ j < 1073741824 then some (.int (i / j)) else none
  | _, _ => none
theorem ok_div {U : Wd} : Ok2 U (rI CDiv fun i j => .int (i / j)) divD := fun F H x y d1 d2 d c1 c2 Q g w1 w2 e k => by
  unfold divD at e
  split at e
  · split at e
    · rename_i h
      cases e
      obtain ⟨rfl, _⟩ := rp_int w1
      obtain ⟨rfl, _⟩ := rp_int w2
      exact ⟨_, _, rfl, rfl, h, same_ g k (.int _)⟩
    · cases e
  · cases e
def powOk (i j : Int) : Bool := decide (0 ≤ j ∧ j ≤ 1000000 ∧ i.natAbs < 2 ^ 64)
def powD : D → D → Option D
  | .int i, .int j => if powOk i j = true then some (.int (i ^ j.toNat)) else none
  | _, _ => none
theorem ok_pow {U : Wd} : Ok2 U (rI CPow fun i j => .int (i ^ j.toNat)) powD := fun F H x y d1 d2 d c1 c2 Q g w1 w2 e k => by
  unfold powD at e
  split at e
  · split at e
    · rename_i h
      cases e
      obtain ⟨rfl, _⟩ := rp_int w1
      obtain ⟨rfl, _⟩ := rp_int w2
      exact ⟨_, _, rfl, rfl, (show 0 ≤ _ ∧ _ ≤ 1000000 ∧ _ < 2 ^ 64 from of_decide_eq_true h), same_ g k (.int _)⟩
    · cases e
  · cases e
def negD : D → Option D
  | .int i => some (.int (-i))
  | _ => none
theorem ok_neg {U : Wd} : Ok1 U (rU fun i => .int (-i)) negD := fun F H x d1 d c1 Q g w1 e k => by
  unfold negD at e
  split at e
  · cases e
    obtain ⟨rfl, _⟩ := rp_int w1
    exact ⟨_, rfl, same_ g k (.int _)⟩
  · cases e

/-! ### data as the library's -/
mutual
def D.toP : D → PyData
  | .non => .none
  | .bl b => .bool b
  | .int i => .int i
  | .str s => .str s
  | .scr ns => .list (ns.map PyData.int)
  | .tup _ xs => .tuple (toPL xs)
  | .lst _ xs => .list (toPL xs)
  | .dct _ _ _ => .dict []
  | .lam _ => .none
  | .fn _ _ _ => .none
def toPL : List D → List PyData
  | [] => []
  | x :: xs => x.toP :: toPL xs
end
theorem toPL_map : ∀ xs : List D, toPL xs = xs.map D.toP
  | [] => rfl
  | x :: xs => by rw [toPL, toPL_map xs]; rfl
mutual
def D.plain : D → Bool
  | .tup _ xs => plainL xs
  | .lst _ xs => plainL xs
  | .dct _ _ _ => false
  | .lam _ => false
  | .fn _ _ _ => false
  | .non => true
  | .bl _ => true
  | .int _ => true
  | .str _ => true
  | .scr _ => true
def plainL : List D → Bool
  | [] => true
  | x :: xs => x.plain && plainL xs
end
section
variable {U : Wd} {F H : Hp}
theorem dp_ints {K : PySem.W.Frag} : ∀ ns : List Int, DpAll K H (ns.map V.int) (ns.map PyData.int)
  | [] => .nil
  | n :: ns => .cons (.int n) (dp_ints ns)
mutual
theorem Rp.dp (g : Fle F H) : ∀ {v : V} {d : D} {as : List Addr}, Rp U F H v d as → d.plain = true → Dp U.K H v d.toP
  | _, _, _, .non, _ => .non
  | _, _, _, .bl b, _ => .bl b
  | _, _, _, .int i, _ => .int i
  | _, _, _, .str s, _ => .str s
  | _, _, _, .scr h, _ => .lst (g.seqL h) (dp_ints _)
  | _, _, _, .tupS h l, p => .tup (g.seqT h) (RpL.dp g l p)
  | _, _, _, .tupO h l, p => .tup (.inl (.inl h)) (RpL.dp g l p)
  | _, _, _, .lstS h l, p => .lst (.inl (.inl (g _ _ h))) (RpL.dp g l p)
  | _, _, _, .lstO h l, p => .lst (.inl (.inl h)) (RpL.dp g l p)
  | _, _, _, .dctS _ _, p => by cases p
  | _, _, _, .dctO _ _, p => by cases p
  | _, _, _, .lam _ _, p => by cases p
  | _, _, _, .fn _ _, p => by cases p
theorem RpL.dp (g : Fle F H) : ∀ {vs : List V} {ds : List D} {as : List Addr}, RpL U F H vs ds as → plainL ds = true → DpAll U.K H vs (toPL ds)
  | _, _, _, .nil, _ => .nil
  | _, _, _, .cons h t, p => by
    rw [plainL, Bool.and_eq_true] at p
    exact .cons (Rp.dp g h p.1) (RpL.dp g t p.2)
end
end
/-! ### == -/
def okP (d : D) : Bool := d.plain && SeqAt.shaped d.toP
def eqE : D → D → Option D
  | .int a, .int b => some (.bl (a == b))
  | .str a, .str b => some (.bl (a == b))
  | .bl a, .bl b => some (.bl (a == b))
  | .non, .non => some (.bl true)
  | .non, .int _ => some (.bl false)
  | .int _, .non => some (.bl false)
  | .non, .str _ => some (.bl false)
  | .str _, .non => some (.bl false)
  | .non, .bl _ => some (.bl false)
  | .bl _, .non => some (.bl false)
  | .int _, .str _ => some (.bl false)
  | .str _, .int _ => some (.bl false)
  | .bl _, .str _ => some (.bl false)
  | .str _, .bl _ => some (.bl false)
  | d, e => if (okP d && okP e) = true then some (.bl (PyData.eqv d.toP e.toP)) else none
def neE (d e : D) : Option D := match eqE d e with
  | some (.bl b) => some (.bl (!b))
  | _ => none
def rEqE (K : PySem.W.Frag) : R2 := fun x y H Q => rEq x y H Q ∨ rEqD K x y H Q
def rNeE (K : PySem.W.Frag) : R2 := fun x y H Q => rNe x y H Q ∨ rNeD K x y H Q
theorem op_eqE {X : Cx} (hu : X.A.units + 64 < cLine) : OpR X (compareOp .Eq) (rEqE X.K) := OpR.or op_eq (op_eqD hu)
theorem op_neE {X : Cx} (hu : X.A.units + 64 < cLine) : OpR X (compareOp .NotEq) (rNeE X.K) := OpR.or op_ne (op_neD hu)
/-- what == tells -/
theorem eqE_cases {U : Wd} {F H : Hp} {x y : V} {d1 d2 : D} {c1 c2 : List Addr} {r : D} (g : Fle F H) (w1 : Rp U F H x d1 c1) (w2 : Rp U F H y d2 c2) (e : eqE d1 d2 = some r) :
    ∃ b, r = .bl b ∧ ((scal x y = true ∧ decide (x = y) = b) ∨ ∃ p q, Dp U.K H x p ∧ Dp U.K H y q ∧ SeqAt.shaped p = true ∧ SeqAt.shaped q = true ∧ PyData.eqv p q = b) := by
  unfold eqE at e
  split at e
  case h_15 =>
    split at e
    · rename_i h
      cases e
      unfold okP at h
      simp only [Bool.and_eq_true] at h
      exact ⟨_, rfl, .inr ⟨_, _, w1.dp g h.1.1, w2.dp g h.2.1, h.1.2, h.2.2, rfl⟩⟩
    · cases e
  all_goals
    cases e
    cases w1
    cases w2
    refine ⟨_, rfl, .inl ⟨rfl, ?_⟩⟩
    first
      | exact dec_int
      | exact dec_str
      | exact dec_bl
      | rfl
      | simp
theorem ok_eq {U : Wd} : Ok2 U (rEqE U.K) eqE := fun F H x y d1 d2 d c1 c2 Q g w1 w2 e k => by
  obtain ⟨b, rfl, h | ⟨p, q, h1, h2, h3, h4, h5⟩⟩ := eqE_cases g.le w1 w2 e
  · exact .inl ⟨h.1, by rw [h.2]; exact same_ g k (.bl b)⟩
  · exact .inr ⟨p, q, h1, h2, h3, h4, by rw [h5]; exact same_ g k (.bl b)⟩
theorem ok_ne {U : Wd} : Ok2 U (rNeE U.K) neE := fun F H x y d1 d2 d c1 c2 Q g w1 w2 e k => by
  unfold neE at e
  split at e
  · rename_i b' e'
    cases e
    obtain ⟨b, hb, h | ⟨p, q, h1, h2, h3, h4, h5⟩⟩ := eqE_cases g.le w1 w2 e'
    · cases hb
      exact .inl ⟨h.1, by rw [h.2]; exact same_ g k (.bl _)⟩
    · cases hb
      exact .inr ⟨p, q, h1, h2, h3, h4, by rw [h5]; exact same_ g k (.bl _)⟩
  · cases e

/-! ### order -/
def intsOf : List D → Option (List Int)
  | [] => some []
  | .int i :: ds => match intsOf ds with
    | some is => some (i :: is)
    | none => none
  | _ => none
theorem intsOf_eq : ∀ {ds : List D} {is : List Int}, intsOf ds = some is → ds = is.map D.int
  | [], is, h => by
    cases h
    rfl
  | .int i :: ds, is, h => by
    unfold intsOf at h
    split at h
    · rename_i is' e
      cases h
      rw [List.map_cons, intsOf_eq e]
    · cases h
  | .non :: ds, is, h => by cases h
  | .bl _ :: ds, is, h => by cases h
  | .str _ :: ds, is, h => by cases h
  | .scr _ :: ds, is, h => by cases h
  | .tup _ _ :: ds, is, h => by cases h
  | .lst _ _ :: ds, is, h => by cases h
  | .dct _ _ _ :: ds, is, h => by cases h
  | .lam _ :: ds, is, h => by cases h
  | .fn _ _ _ :: ds, is, h => by cases h
theorem intsOf_map : ∀ is : List Int, intsOf (is.map D.int) = some is
  | [] => rfl
  | i :: is => by rw [List.map_cons, intsOf, intsOf_map is]
theorem RpL.intsV {U : Wd} {F H : Hp} : ∀ {vs : List V} {is : List Int} {as : List Addr}, RpL U F H vs (is.map D.int) as → vs = is.map V.int
  | vs, [], as, h => by
    cases h
    rfl
  | vs, i :: is, as, h => by
    rw [List.map_cons] at h
    cases h with
    | cons h t =>
      obtain ⟨rfl, _⟩ := rp_int h
      rw [List.map_cons, t.intsV]
def ltD : D → D → Option D
  | .int a, .int b => some (.bl (decide (a < b)))
  | .str a, .str b => some (.bl (decide (a.cps.toList < b.cps.toList)))
  | .tup _ xs, .tup _ ys => match intsOf xs, intsOf ys with
    | some ns, some ms => some (.bl (HT.lexLt ns ms))
    | _, _ => none
  | _, _ => none
def leD : D → D → Option D
  | .int a, .int b => some (.bl (decide (a ≤ b)))
  | .str a, .str b => some (.bl (!decide (b.cps.toList < a.cps.toList)))
  | _, _ => none
def gtD : D → D → Option D
  | .int a, .int b => some (.bl (decide (b < a)))
  | .str a, .str b => some (.bl (decide (b.cps.toList < a.cps.toList)))
  | _, _ => none
def geD : D → D → Option D
  | .int a, .int b => some (.bl (decide (b ≤ a)))
  | .str a, .str b => some (.bl (!decide (a.cps.toList < b.cps.toList)))
  | _, _ => none
def rLtI : R2 := rI0 fun i j => .bl (decide (i < j))
def rLtS : R2 := fun x y H Q => ∃ i j, x = .str i ∧ y = .str j ∧ Q (.bl (decide (i.cps.toList < j.cps.toList))) H
def rLt' (K : PySem.W.Frag) : R2 := fun x y H Q => rLtI x y H Q ∨ rLtS x y H Q ∨ rLtT K x y H Q
theorem op_ltD {X : Cx} (hu : X.A.units < cLine) : OpR X (compareOp .Lt) (rLt' X.K) := OpR.or op_lt (OpR.or op_lt_str (op_ltT hu))
theorem ok_lt {U : Wd} : Ok2 U (rLt' U.K) ltD := fun F H x y d1 d2 d c1 c2 Q g w1 w2 e k => by
  unfold ltD at e
  split at e
  · cases e
    obtain ⟨rfl, _⟩ := rp_int w1
    obtain ⟨rfl, _⟩ := rp_int w2
    exact .inl ⟨_, _, rfl, rfl, same_ g k (.bl _)⟩
  · cases e
    obtain ⟨rfl, _⟩ := rp_str w1
    obtain ⟨rfl, _⟩ := rp_str w2
    exact .inr (.inl ⟨_, _, rfl, rfl, same_ g k (.bl _)⟩)
  · split at e
    · rename_i ns ms e1 e2
      cases e
      obtain ⟨a, vs, rfl, q1, bs1, l1⟩ := tup_now g.le w1
      obtain ⟨b, us, rfl, q2, bs2, l2⟩ := tup_now g.le w2
      rw [intsOf_eq e1] at l1
      rw [intsOf_eq e2] at l2
      rw [l1.intsV] at q1
      rw [l2.intsV] at q2
      exact .inr (.inr ⟨a, b, ns, ms, rfl, rfl, q1, q2, same_ g k (.bl _)⟩)
    · cases e
  · cases e
def rLe' : R2 := fun x y H Q => (rI0 fun i j => .bl (decide (i ≤ j))) x y H Q ∨ ∃ i j, x = .str i ∧ y = .str j ∧ Q (.bl (!decide (j.cps.toList < i.cps.toList))) H
def rGt' : R2 := fun x y H Q => (rI0 fun i j => .bl (decide (j < i))) x y H Q ∨ ∃ i j, x = .str i ∧ y = .str j ∧ Q (.bl (decide (j.cps.toList < i.cps.toList))) H
def rGe' : R2 := fun x y H Q => (rI0 fun i j => .bl (decide (j ≤ i))) x y H Q ∨ ∃ i j, x = .str i ∧ y = .str j ∧ Q (.bl (!decide (i.cps.toList < j.cps.toList))) H
theorem op_leD {X : Cx} : OpR X (compareOp .LtE) rLe' := OpR.or op_le op_le_str
theorem op_gtD {X : Cx} : OpR X (compareOp .Gt) rGt' := OpR.or op_gt op_gt_str
theorem op_geD {X : Cx} : OpR X (compareOp .GtE) rGe' := OpR.or op_ge op_ge_str
theorem ok_le {U : Wd} : Ok2 U rLe' leD := fun F H x y d1 d2 d c1 c2 Q g w1 w2 e k => by
  unfold leD at e
  split at e
  · cases e
    obtain ⟨rfl, _⟩ := rp_int w1
    obtain ⟨rfl, _⟩ := rp_int w2
    exact .inl ⟨_, _, rfl, rfl, same_ g k (.bl _)⟩
  · cases e
    obtain ⟨rfl, _⟩ := rp_str w1
    obtain ⟨rfl, _⟩ := rp_str w2
    exact .inr ⟨_, _, rfl, rfl, same_ g k (.bl _)⟩
  · cases e
theorem ok_gt {U : Wd} : Ok2 U rGt' gtD := fun F H x y d1 d2 d c1 c2 Q g w1 w2 e k => by
  unfold gtD at e
  split at e
  · cases e
    obtain ⟨rfl, _⟩ := rp_int w1
    obtain ⟨rfl, _⟩ := rp_int w2
    exact .inl ⟨_, _, rfl, rfl, same_ g k (.bl _)⟩
  · cases e
    obtain ⟨rfl, _⟩ := rp_str w1
    obtain ⟨rfl, _⟩ := rp_str w2
    exact .inr ⟨_, _, rfl, rfl, same_ g k (.bl _)⟩
  · cases e
theorem ok_ge {U : Wd} : Ok2 U rGe' geD := fun F H x y d1 d2 d c1 c2 Q g w1 w2 e k => by
  unfold geD at e
  split at e
  · cases e
    obtain ⟨rfl, _⟩ := rp_int w1
    obtain ⟨rfl, _⟩ := rp_int w2
    exact .inl ⟨_, _, rfl, rfl, same_ g k (.bl _)⟩
  · cases e
    obtain ⟨rfl, _⟩ := rp_str w1
    obtain ⟨rfl, _⟩ := rp_str w2
    exact .inr ⟨_, _, rfl, rfl, same_ g k (.bl _)⟩
  · cases e

/-! ### is None -/
def isNon : D → D → Option D
  | .non, .non => some (.bl true)
  | _, .non => some (.bl false)
  | _, _ => none
def notNon : D → D → Option D
  | .non, .non => some (.bl false)
  | _, .non => some (.bl true)
  | _, _ => none
theorem rp_non_iff {U : Wd} {F H : Hp} {x : V} {d : D} {c : List Addr} (w : Rp U F H x d c) : x = .non ↔ d = .non := by
  cases w <;> simp
theorem ok_isN {U : Wd} : Ok2 U (fun x y H Q => y = .non ∧ Q (.bl (decide (x = .non))) H) isNon := fun F H x y d1 d2 d c1 c2 Q g w1 w2 e k => by
  unfold isNon at e
  split at e
  · cases e
    cases w1
    cases w2
    exact ⟨rfl, same_ g k (.bl _)⟩
  · rename_i hn
    cases e
    cases w2
    refine ⟨rfl, ?_⟩
    have : ¬ x = .non := fun q => hn ((rp_non_iff w1).mp q)
    rw [decide_eq_false this]
    exact same_ g k (.bl _)
  · cases e
theorem ok_notN {U : Wd} : Ok2 U (fun x y H Q => y = .non ∧ Q (.bl (!decide (x = .non))) H) notNon := fun F H x y d1 d2 d c1 c2 Q g w1 w2 e k => by
  unfold notNon at e
  split at e
  · cases e
    cases w1
    cases w2
    exact ⟨rfl, same_ g k (.bl _)⟩
  · rename_i hn
    cases e
    cases w2
    refine ⟨rfl, ?_⟩
    have : ¬ x = .non := fun q => hn ((rp_non_iff w1).mp q)
    rw [decide_eq_false this]
    exact same_ g k (.bl _)
  · cases e

/-! ### in -/
def inF (d : D) (ds : List D) : Bool := inV d.toV (ds.map D.toV)
def okIn (d : D) (ds : List D) : Bool := d.flat && ds.all D.flat
def inD : D → D → Option D
  | .str a, .str b => match a.cps.toList with
    | [c] => some (.bl (decide (c ∈ b.cps.toList)))
    | _ => some (.bl (!(Builtin.Str.occurrences b a 0 b.length 1).isEmpty))
  | d, .lst _ ds => if okIn d ds = true then some (.bl (inF d ds)) else if (okP d && okP (.lst true ds)) = true then some (.bl (ds.any fun z => PyData.eqv z.toP d.toP)) else none
  | d, .tup _ ds => if okIn d ds = true then some (.bl (inF d ds)) else none
  | _, _ => none
def notInD (d e : D) : Option D := match inD d e with
  | some (.bl b) => some (.bl (!b))
  | _ => none
def rInSign : R2 := fun x y H Q => ∃ (c : Nat) (z : Str), x = .str ⟨#[c]⟩ ∧ y = .str z ∧ Q (.bl (decide (c ∈ z.cps.toList))) H
def rInStr : R2 := fun x y H Q => ∃ i j, x = .str i ∧ y = .str j ∧ Q (.bl (!(Builtin.Str.occurrences j i 0 j.length 1).isEmpty)) H
def rInAll (K : PySem.W.Frag) : R2 := fun x y H Q => rInSign x y H Q ∨ rInStr x y H Q ∨ rIn K false x y H Q ∨ rInD K x y H Q
def rNiSign : R2 := fun x y H Q => ∃ (c : Nat) (z : Str), x = .str ⟨#[c]⟩ ∧ y = .str z ∧ Q (.bl (!decide (c ∈ z.cps.toList))) H
def rNiStr : R2 := fun x y H Q => ∃ i j, x = .str i ∧ y = .str j ∧ Q (.bl (!(!(Builtin.Str.occurrences j i 0 j.length 1).isEmpty))) H
def rNiAll (K : PySem.W.Frag) : R2 := fun x y H Q => rNiSign x y H Q ∨ rNiStr x y H Q ∨ rIn K true x y H Q ∨ rNotInD K x y H Q
theorem op_inAll {X : Cx} (hu : X.A.units + 65 < cLine) : OpR X (compareOp .In) (rInAll X.K) := OpR.or op_in_sign (OpR.or op_in_str (OpR.or op_in_seq (op_inD hu)))
theorem op_niAll {X : Cx} (hu : X.A.units + 65 < cLine) : OpR X (compareOp .NotIn) (rNiAll X.K) := OpR.or op_notIn_sign (OpR.or op_notin_str (OpR.or op_notIn_seq (op_notInD hu)))
theorem inD_cases {U : Wd} {F H : Hp} {x y : V} {d1 d2 : D} {c1 c2 : List Addr} {r : D} (g : Good F H []) (w1 : Rp U F H x d1 c1) (w2 : Rp U F H y d2 c2) (e : inD d1 d2 = some r) :
    ∃ b, r = .bl b ∧ ((∃ (c : Nat) (z : Str), x = .str ⟨#[c]⟩ ∧ y = .str z ∧ decide (c ∈ z.cps.toList) = b) ∨ (∃ i j, x = .str i ∧ y = .str j ∧ (!(Builtin.Str.occurrences j i 0 j.length 1).isEmpty) = b) ∨
      (∃ p xs, y = .ref p ∧ (SqL U.K H p xs ∨ SqT U.K H p xs) ∧ flatV x = true ∧ xs.all flatV = true ∧ inV x xs = b) ∨
      ∃ d ds, Dp U.K H x d ∧ Dp U.K H y (.list ds) ∧ SeqAt.shaped d = true ∧ SeqAt.shaped (.list ds) = true ∧ (ds.any fun z => PyData.eqv z d) = b) := by
  unfold inD at e
  split at e
  · rename_i a b
    obtain ⟨rfl, _⟩ := rp_str w1
    obtain ⟨rfl, _⟩ := rp_str w2
    split at e
    · rename_i c ec
      cases e
      refine ⟨_, rfl, .inl ⟨c, b, ?_, rfl, rfl⟩⟩
      have : a.cps = #[c] := by
        apply Array.toList_inj.mp
        rw [ec]
      cases a
      simp only at this
      rw [this]
    · cases e
      exact ⟨_, rfl, .inr (.inl ⟨a, b, rfl, rfl, rfl⟩)⟩
  · split at e
    · rename_i hok
      cases e
      unfold okIn at hok
      simp only [Bool.and_eq_true] at hok
      obtain ⟨a, vs, rfl, q1, bs, l⟩ := lst_now g.le w2
      obtain ⟨rfl, _⟩ := w1.flat hok.1
      rw [l.flat hok.2] at q1
      exact ⟨_, rfl, .inr (.inr (.inl ⟨a, _, rfl, .inl (.inl (.inl q1)), flatV_of hok.1, all_flatV hok.2, rfl⟩))⟩
    · split at e
      · rename_i ds _ hok
        cases e
        unfold okP at hok
        simp only [Bool.and_eq_true] at hok
        have h2 : Dp U.K H y (.list (toPL ds)) := w2.dp g.le hok.2.1
        refine ⟨_, rfl, .inr (.inr (.inr ⟨_, _, w1.dp g.le hok.1.1, h2, hok.1.2, hok.2.2, ?_⟩))⟩
        rw [toPL_map, List.any_map]
        rfl
      · cases e
  · split at e
    · rename_i hok
      cases e
      unfold okIn at hok
      simp only [Bool.and_eq_true] at hok
      obtain ⟨a, vs, rfl, q1, bs, l⟩ := tup_now g.le w2
      obtain ⟨rfl, _⟩ := w1.flat hok.1
      rw [l.flat hok.2] at q1
      exact ⟨_, rfl, .inr (.inr (.inl ⟨a, _, rfl, .inr q1, flatV_of hok.1, all_flatV hok.2, rfl⟩))⟩
    · cases e
  · cases e
theorem ok_in {U : Wd} : Ok2 U (rInAll U.K) inD := fun F H x y d1 d2 d c1 c2 Q g w1 w2 e k => by
  obtain ⟨b, rfl, ⟨c, z, h1, h2, h3⟩ | ⟨i, j, h1, h2, h3⟩ | ⟨p, xs, h1, h2, h3, h4, h5⟩ | ⟨p, q, h1, h2, h3, h4, h5⟩⟩ := inD_cases g w1 w2 e
  · exact .inl ⟨c, z, h1, h2, by rw [h3]; exact same_ g k (.bl b)⟩
  · exact .inr (.inl ⟨i, j, h1, h2, by rw [h3]; exact same_ g k (.bl b)⟩)
  · exact .inr (.inr (.inl ⟨p, xs, h1, h2, h3, h4, by rw [if_neg Bool.false_ne_true, h5]; exact same_ g k (.bl b)⟩))
  · exact .inr (.inr (.inr ⟨p, q, h1, h2, h3, h4, by rw [h5]; exact same_ g k (.bl b)⟩))
theorem ok_notIn {U : Wd} : Ok2 U (rNiAll U.K) notInD := fun F H x y d1 d2 d c1 c2 Q g w1 w2 e k => by
  unfold notInD at e
  split at e
  · rename_i b' e'
    cases e
    obtain ⟨b, hb, ⟨c, z, h1, h2, h3⟩ | ⟨i, j, h1, h2, h3⟩ | ⟨p, xs, h1, h2, h3, h4, h5⟩ | ⟨p, q, h1, h2, h3, h4, h5⟩⟩ := inD_cases g w1 w2 e'
    · cases hb
      exact .inl ⟨c, z, h1, h2, by rw [h3]; exact same_ g k (.bl _)⟩
    · cases hb
      exact .inr (.inl ⟨i, j, h1, h2, by rw [h3]; exact same_ g k (.bl _)⟩)
    · cases hb
      exact .inr (.inr (.inl ⟨p, xs, h1, h2, h3, h4, by rw [if_pos rfl, h5]; exact same_ g k (.bl _)⟩))
    · cases hb
      exact .inr (.inr (.inr ⟨p, q, h1, h2, h3, h4, by rw [h5]; exact same_ g k (.bl _)⟩))
  · cases e

/-! ### subscripts -/
def ixD : D → D → Option D
  | .lst _ ds, .int i => match atI ds i with
    | some d => if d.frozen = true then some d else none
    | none => none
  | .tup _ ds, .int i => match atI ds i with
    | some d => if d.frozen = true then some d else none
    | none => none
  | .str s, .int i => if lineOk s.length = true then match atI s.cps.toList i with
      | some c => some (signD c)
      | none => none
    else none
  | .scr ns, .int i => match atI ns i with
    | some n => some (.int n)
    | none => none
  | _, _ => none
theorem RpL.getAny {U : Wd} {F H : Hp} : ∀ {vs : List V} {ds : List D} {as : List Addr} {i : Nat} {d : D}, RpL U F H vs ds as → ds[i]? = some d → ∃ v bs, vs[i]? = some v ∧ Rp U F H v d bs
  | _, _, _, 0, d, .cons (d := d') h t, e => by
    simp only [List.getElem?_cons_zero, Option.some.injEq] at e
    subst e
    exact ⟨_, _, rfl, h⟩
  | _, _, _, i + 1, d, .cons h t, e => by
    obtain ⟨v, bs, h1, h2⟩ := RpL.getAny (i := i) t (by simpa using e)
    exact ⟨v, bs, by simpa using h1, h2⟩
  | _, _, _, i, d, .nil, e => by simp at e
theorem atI_get {α β : Type} {xs : List α} {ys : List β} (hl : xs.length = ys.length) {i : Int} {y : β} (h : atI ys i = some y) : ∃ j : Nat, ys[j]? = some y ∧ ∀ x, xs[j]? = some x → atI xs i = some x := by
  unfold atI at h ⊢
  rw [hl]
  cases e : ixN ys.length i with
  | none => rw [e] at h; cases h
  | some j =>
    rw [e] at h
    exact ⟨j, h, fun x hx => hx⟩
theorem ok_ix {U : Wd} : Ok2 U (rIx U.K) ixD := fun F H x y d1 d2 d c1 c2 Q g w1 w2 e k => by
  unfold ixD at e
  split at e
  · split at e
    · rename_i d' e'
      split at e
      · rename_i hf
        cases e
        obtain ⟨a, vs, rfl, q1, bs, l⟩ := lst_now g.le w1
        obtain ⟨rfl, _⟩ := rp_int w2
        obtain ⟨j, h1, h2⟩ := atI_get l.len e'
        obtain ⟨v, b1, h3, h4⟩ := l.getAny h1
        have := h4.nil_of hf
        subst this
        exact .inl ⟨a, vs, _, v, rfl, rfl, .inl (.inl q1), h2 v h3, same_ g k h4⟩
      · cases e
    · cases e
  · split at e
    · rename_i d' e'
      split at e
      · rename_i hf
        cases e
        obtain ⟨a, vs, rfl, q1, bs, l⟩ := tup_now g.le w1
        obtain ⟨rfl, _⟩ := rp_int w2
        obtain ⟨j, h1, h2⟩ := atI_get l.len e'
        obtain ⟨v, b1, h3, h4⟩ := l.getAny h1
        have := h4.nil_of hf
        subst this
        exact .inr (.inl ⟨a, vs, _, v, rfl, rfl, q1, h2 v h3, same_ g k h4⟩)
      · cases e
    · cases e
  · split at e
    · rename_i hl
      split at e
      · rename_i c e'
        cases e
        obtain ⟨rfl, _⟩ := rp_str w1
        obtain ⟨rfl, _⟩ := rp_int w2
        exact .inr (.inr ⟨_, _, c, rfl, rfl, of_decide_eq_true hl, e', same_ g k (.str _)⟩)
      · cases e
    · cases e
  · split at e
    · rename_i ns i _ n e'
      cases e
      obtain ⟨rfl, _⟩ := rp_int w2
      cases w1 with
      | scr h =>
        have hl : (ns.map V.int).length = ns.length := by simp
        obtain ⟨j, h1, h2⟩ := atI_get hl e'
        exact .inl ⟨_, _, _, .int n, rfl, rfl, g.le.seqL h, h2 _ (by rw [List.getElem?_map, h1]; rfl), same_ g k (.int n)⟩
    · cases e
  · cases e

section
variable [LE] [WC] {X : Cx} {a b : Expr} {ma mb : Ox} {pos : Pos} {k : Nat}
theorem mv_add (ha : PE X a (tO (ux X) ma)) (hb : PE X b (tO (ux X) mb)) : PE X (.BinOp a .Add b pos) (tM (ux X) (op2 addD ma mb)) := mv_op op_addD ok_add ha hb
theorem mv_sub (ha : PE X a (tO (ux X) ma)) (hb : PE X b (tO (ux X) mb)) : PE X (.BinOp a .Sub b pos) (tM (ux X) (op2 subD ma mb)) := mv_op op_sub ok_sub ha hb
theorem mv_mul (ha : PE X a (tO (ux X) ma)) (hb : PE X b (tO (ux X) mb)) : PE X (.BinOp a .Mult b pos) (tM (ux X) (op2 mulD ma mb)) := mv_op op_mulD ok_mul ha hb
theorem mv_mod (ha : PE X a (tO (ux X) ma)) (hb : PE X b (tO (ux X) mb)) : PE X (.BinOp a .Mod b pos) (tM (ux X) (op2 modD ma mb)) := mv_op op_mod ok_mod ha hb
theorem mv_div (ha : PE X a (tO (ux X) ma)) (hb : PE X b (tO (ux X) mb)) : PE X (.BinOp a .FloorDiv b pos) (tM (ux X) (op2 divD ma mb)) := mv_op op_fdiv ok_div ha hb
theorem mv_pow (ha : PE X a (tO (ux X) ma)) (hb : PE X b (tO (ux X) mb)) : PE X (.BinOp a .Pow b pos) (tM (ux X) (op2 powD ma mb)) := mv_op op_pow ok_pow ha hb
theorem mv_neg (ha : PE X a (tO (ux X) ma)) : PE X (.UnaryOp .USub a pos) (tM (ux X) (op1 negD ma)) := mv_un un_neg ok_neg ha
theorem mv_ixD (ha : PE X a (tO (ux X) ma)) (hb : PE X b (tO (ux X) mb)) (hs : PlainIx b := by exact fun _ _ => rfl) : PE X (.Subscript a b pos) (tM (ux X) (op2 ixD ma mb)) := mv_ix ix_seq ok_ix ha hb hs
/-! comparisons: as values (mv_), as tests (mt_) -/
theorem mv_eq (hr : Room k X.A) (ha : PE X a (tO (ux X) ma)) (hb : PE X b (tO (ux X) mb)) : PE X (.Compare a [.Eq] [b] pos) (tM (ux X) (op2 eqE ma mb)) := mv_cmp (op_eqE hr.units) ok_eq ha hb (nobehind _ (by decide) (by decide))
theorem mv_ne (hr : Room k X.A) (ha : PE X a (tO (ux X) ma)) (hb : PE X b (tO (ux X) mb)) : PE X (.Compare a [.NotEq] [b] pos) (tM (ux X) (op2 neE ma mb)) := mv_cmp (op_neE hr.units) ok_ne ha hb (nobehind _ (by decide) (by decide))
theorem mv_lt (hr : Room k X.A) (ha : PE X a (tO (ux X) ma)) (hb : PE X b (tO (ux X) mb)) : PE X (.Compare a [.Lt] [b] pos) (tM (ux X) (op2 ltD ma mb)) := mv_cmp (op_ltD hr.units0) ok_lt ha hb (nobehind _ (by decide) (by decide))
theorem mv_le (ha : PE X a (tO (ux X) ma)) (hb : PE X b (tO (ux X) mb)) : PE X (.Compare a [.LtE] [b] pos) (tM (ux X) (op2 leD ma mb)) := mv_cmp op_leD ok_le ha hb (nobehind _ (by decide) (by decide))
theorem mv_gt (ha : PE X a (tO (ux X) ma)) (hb : PE X b (tO (ux X) mb)) : PE X (.Compare a [.Gt] [b] pos) (tM (ux X) (op2 gtD ma mb)) := mv_cmp op_gtD ok_gt ha hb (nobehind _ (by decide) (by decide))
theorem mv_ge (ha : PE X a (tO (ux X) ma)) (hb : PE X b (tO (ux X) mb)) : PE X (.Compare a [.GtE] [b] pos) (tM (ux X) (op2 geD ma mb)) := mv_cmp op_geD ok_ge ha hb (nobehind _ (by decide) (by decide))
theorem mv_isN (ha : PE X a (tO (ux X) ma)) (hb : PE X b (tO (ux X) mb)) : PE X (.Compare a [.Is] [b] pos) (tM (ux X) (op2 isNon ma mb)) := mv_cmp op_isN ok_isN ha hb (nobehind _ (by decide) (by decide))
theorem mv_notN (ha : PE X a (tO (ux X) ma)) (hb : PE X b (tO (ux X) mb)) : PE X (.Compare a [.IsNot] [b] pos) (tM (ux X) (op2 notNon ma mb)) := mv_cmp op_notN ok_notN ha hb (nobehind _ (by decide) (by decide))
theorem units65 (hr : Room k X.A) : X.A.units + 65 < cLine := by have := hr.un; omega
theorem mv_in (hr : Room k X.A) (ha : PE X a (tO (ux X) ma)) (hb : PE X b (tO (ux X) mb)) (hm : behindInMarks .In b = false := by rfl) : PE X (.Compare a [.In] [b] pos) (tM (ux X) (op2 inD ma mb)) := mv_cmp (op_inAll (units65 hr)) ok_in ha hb hm
theorem mv_notIn (hr : Room k X.A) (ha : PE X a (tO (ux X) ma)) (hb : PE X b (tO (ux X) mb)) (hm : behindInMarks .NotIn b = false := by rfl) : PE X (.Compare a [.NotIn] [b] pos) (tM (ux X) (op2 notInD ma mb)) := mv_cmp (op_niAll (units65 hr)) ok_notIn ha hb hm
theorem mt_eq (hr : Room k X.A) (ha : PE X a (tO (ux X) ma)) (hb : PE X b (tO (ux X) mb)) : PT X (.Compare a [.Eq] [b] pos) (tT (ux X) (toB (op2 eqE ma mb))) := mt_cmp (op_eqE hr.units) ok_eq ha hb (nobehind _ (by decide) (by decide))
theorem mt_ne (hr : Room k X.A) (ha : PE X a (tO (ux X) ma)) (hb : PE X b (tO (ux X) mb)) : PT X (.Compare a [.NotEq] [b] pos) (tT (ux X) (toB (op2 neE ma mb))) := mt_cmp (op_neE hr.units) ok_ne ha hb (nobehind _ (by decide) (by decide))
theorem mt_lt (hr : Room k X.A) (ha : PE X a (tO (ux X) ma)) (hb : PE X b (tO (ux X) mb)) : PT X (.Compare a [.Lt] [b] pos) (tT (ux X) (toB (op2 ltD ma mb))) := mt_cmp (op_ltD hr.units0) ok_lt ha hb (nobehind _ (by decide) (by decide))
theorem mt_le (ha : PE X a (tO (ux X) ma)) (hb : PE X b (tO (ux X) mb)) : PT X (.Compare a [.LtE] [b] pos) (tT (ux X) (toB (op2 leD ma mb))) := mt_cmp op_leD ok_le ha hb (nobehind _ (by decide) (by decide))
theorem mt_gt (ha : PE X a (tO (ux X) ma)) (hb : PE X b (tO (ux X) mb)) : PT X (.Compare a [.Gt] [b] pos) (tT (ux X) (toB (op2 gtD ma mb))) := mt_cmp op_gtD ok_gt ha hb (nobehind _ (by decide) (by decide))
theorem mt_ge (ha : PE X a (tO (ux X) ma)) (hb : PE X b (tO (ux X) mb)) : PT X (.Compare a [.GtE] [b] pos) (tT (ux X) (toB (op2 geD ma mb))) := mt_cmp op_geD ok_ge ha hb (nobehind _ (by decide) (by decide))
theorem mt_isN (ha : PE X a (tO (ux X) ma)) (hb : PE X b (tO (ux X) mb)) : PT X (.Compare a [.Is] [b] pos) (tT (ux X) (toB (op2 isNon ma mb))) := mt_cmp op_isN ok_isN ha hb (nobehind _ (by decide) (by decide))
theorem mt_notN (ha : PE X a (tO (ux X) ma)) (hb : PE X b (tO (ux X) mb)) : PT X (.Compare a [.IsNot] [b] pos) (tT (ux X) (toB (op2 notNon ma mb))) := mt_cmp op_notN ok_notN ha hb (nobehind _ (by decide) (by decide))
theorem mt_in (hr : Room k X.A) (ha : PE X a (tO (ux X) ma)) (hb : PE X b (tO (ux X) mb)) (hm : behindInMarks .In b = false := by rfl) : PT X (.Compare a [.In] [b] pos) (tT (ux X) (toB (op2 inD ma mb))) := mt_cmp (op_inAll (units65 hr)) ok_in ha hb hm
theorem mt_notIn (hr : Room k X.A) (ha : PE X a (tO (ux X) ma)) (hb : PE X b (tO (ux X) mb)) (hm : behindInMarks .NotIn b = false := by rfl) : PT X (.Compare a [.NotIn] [b] pos) (tT (ux X) (toB (op2 notInD ma mb))) := mt_cmp (op_niAll (units65 hr)) ok_notIn ha hb hm
end
end MP

/-! Mirror layer, part 7: slices, built-in functions, methods, stores into lists. -/
namespace MP
open PySem PySem.Spec L2

/-! ### slices -/
def oPart : Option Ox → En → Option (Option Hd × En)
  | none, E => some (none, E)
  | some m, E => match m E with
    | some (h, E1) => some (some h, E1)
    | none => none
def drPart (E : En) : Option Hd → Option (Option Int)
  | none => some none
  | some h => match dr E h with
    | some (.int i) => some (some i)
    | _ => none
def opSl (f : D → Option Int → Option Int → Option D) (a : Ox) (lo hi : Option Ox) : Ex := fun E => match a E with
  | some (h, E1) => match oPart lo E1 with
    | some (l, E2) => match oPart hi E2 with
      | some (u, E3) => match dr E3 h, drPart E3 l, drPart E3 u with
        | some d, some i, some j => match f d i j with
          | some r => some (r, E3)
          | none => none
        | _, _, _ => none
      | none => none
    | none => none
  | none => none
def tP (U : Wd) : Option Ox → TO
  | none => tNoPart
  | some m => tPart (tO U m)
/-- the part's handle must be an int as it comes -/
def intNow (m : Ox) : Ox := fun E => match m E with
  | some (h, E1) => match dr E1 h with
    | some (.int i) => some (.val (.int i), E1)
    | _ => none
  | none => none
def cutD (xs : List D) (lo hi : Option Int) : List D := (xs.drop (HT.sIx xs.length 0 lo)).take (HT.sIx xs.length xs.length hi - HT.sIx xs.length 0 lo)
def slD : D → Option Int → Option Int → Option D
  | .str s, lo, hi => if lineOk s.length = true then some (.str (cutS s lo hi)) else none
  | .lst _ ds, lo, hi => if frozenL ds = true then some (.lst true (cutD ds lo hi)) else none
  | .tup false ds, lo, hi => some (.tup false (cutD ds lo hi))
  | _, _, _ => none
def rSl' (K : PySem.W.Frag) : V → Option Int → Option Int → Hp → VK → Prop := fun x lo hi H Q => rSlS x lo hi H Q ∨ rSlL K x lo hi H Q ∨ rSlA K x lo hi H Q
theorem sl_D {X : Cx} : SlR X (rSl' X.K) := SlR.or sl_str (SlR.or sl_list sl_tupA)
theorem cut_rp {U : Wd} {F H : Hp} {vs : List V} {ds : List D} (l : RpL U F H vs ds []) (lo hi : Option Int) : RpL U F H (cutV vs lo hi) (cutD ds lo hi) [] := by
  unfold cutV cutD
  rw [l.len]
  exact (l.drop0 _).take0 _
theorem cut_all {α : Type} {ds : List α} {lo hi : Option Int} (h : HT.sIx ds.length 0 lo = 0 ∧ HT.sIx ds.length ds.length hi = ds.length) : (ds.drop (HT.sIx ds.length 0 lo)).take (HT.sIx ds.length ds.length hi - HT.sIx ds.length 0 lo) = ds := by
  rw [h.1, h.2]
  simp
theorem ok_sl {U : Wd} {F H : Hp} {x : V} {d1 d : D} {c : List Addr} {lo hi : Option Int} {Q : VK} (g : Good F H []) (w : Rp U F H x d1 c) (e : slD d1 lo hi = some d)
    (k : ∀ v F' H' bs, Step F H [] F' H' bs → Rp U F' H' v d bs → Q v H') : rSl' U.K x lo hi H Q := by
  unfold slD at e
  split at e
  · split at e
    · rename_i hl
      cases e
      obtain ⟨rfl, _⟩ := rp_str w
      exact .inl ⟨_, rfl, of_decide_eq_true hl, same_ g k (.str _)⟩
    · cases e
  · split at e
    · rename_i hf
      cases e
      obtain ⟨a, vs, rfl, e1, l⟩ := lst0 g w hf
      exact .inr (.inl ⟨a, vs, rfl, .inl (.inl e1), new_list g (cut_rp l lo hi) k⟩)
    · cases e
  · rename_i ds
    cases e
    obtain ⟨a, vs, rfl, e1, l, rfl⟩ := tupS0 g w
    refine .inr (.inr ⟨a, vs, rfl, e1, fun z => ?_, fun z => new_tup g (cut_rp l lo hi) k⟩)
    have : cutD ds lo hi = ds := by
      unfold cutD
      rw [l.len] at z
      exact cut_all z
    rw [this] at k
    exact same_ g k w
  · cases e
section
variable [LE] [WC] {X : Cx} {e : Expr} {lo hi : Option Expr} {pos p2 : Pos} {m : Ox} {ml mh : Option Ox}
def PP (X : Cx) (e : Option Expr) (m : Option Ox) : Prop := match e, m with
  | none, none => True
  | some e, some m => PE X e (tO (ux X) m)
  | _, _ => False
theorem intNow_reads {U : Wd} {m : Ox} {σ : Sl} {H : Hp} {R : Int → Hp → Prop} (q : tO U (intNow m) σ H fun x H1 => ∀ i, x = .int i → R i H1) : tO U m σ H fun x H1 => ∃ i, x = .int i ∧ R i H1 := by
  obtain ⟨E, F, as, h, E', g, r, e, q⟩ := q
  unfold intNow at e
  split at e
  · rename_i h1 E1 e1
    split at e
    · rename_i i e2
      cases e
      refine ⟨E, F, as, h1, E', g, r, e1, fun v F' H' bs as' s r' w => ?_⟩
      obtain ⟨cs, w2⟩ := w.now r' e2
      obtain ⟨rfl, _⟩ := rp_int w2
      exact ⟨i, rfl, q (.int i) F' H' [] as' s.right r' (Rp.int i) i rfl⟩
    · cases e
  · cases e
/-- the parts of a slice, then the cut -/
theorem part_reads {U : Wd} {m : Option Ox} {σ : Sl} {H : Hp} {E : En} {F : Hp} {as : List Addr} {l : Option Hd} {E2 : En} (g : Good F H as) (r : REnv U F H σ E as) (e : oPart (m.map intNow) E = some (l, E2)) {R : Option Int → Hp → Prop}
    (k : ∀ i F' H' as', Step F H as F' H' as' → REnv U F' H' σ E2 as' → (∀ E3, drPart E3 l = some i) → R i H') : tP U m σ H R := by
  cases m with
  | none =>
    have e : some ((none : Option Hd), E) = some (l, E2) := e
    cases e
    exact k none F H as (Step.refl g) r fun _ => rfl
  | some m =>
    simp only [Option.map_some, oPart] at e
    split at e
    · rename_i h E1 e1
      cases e
      refine intNow_reads (R := fun i H1 => R (some i) H1) ⟨E, F, as, h, E2, g, r, e1, fun v F' H' bs as' s r' w j ej => ?_⟩
      unfold intNow at e1
      split at e1
      · split at e1
        · rename_i i _
          cases e1
          obtain ⟨rfl, rfl⟩ := rp_int (show Rp U F' H' v (.int i) bs from w)
          cases ej
          exact k (some j) F' H' as' s r' fun _ => rfl
        · cases e1
      · cases e1
    · cases e
theorem mv_sl (he : PE X e (tO (ux X) m)) (hl : PO X lo (tP (ux X) ml)) (hh : PO X hi (tP (ux X) mh)) : PE X (.Subscript e (.Slice lo hi none p2) pos) (tM (ux X) (opSl slD m (ml.map intNow) (mh.map intNow))) := pe_mono (pe_slice sl_D he hl hh) fun σ H Q q => by
  obtain ⟨E, F, as, d, E', g, r, e, q⟩ := q
  unfold opSl at e
  split at e
  · rename_i h E1 e1
    split at e
    · rename_i l E2 e2
      split at e
      · rename_i u E3 e3
        split at e
        · rename_i d0 i j q1 q2 q3
          split at e
          · rename_i rr e4
            cases e
            refine ⟨E, F, as, h, E1, g, r, e1, fun x F1 H1 b1 as1 s1 r1 w1 => ?_⟩
            refine part_reads s1.right.good r1 e2 fun i' F2 H2 as2 s2 r2 k2 => ?_
            refine part_reads s2.good r2 e3 fun j' F3 H3 as3 s3 r3 k3 => ?_
            rw [k2] at q2
            rw [k3] at q3
            cases q2
            cases q3
            have s12 := s1.seq s2
            have s13 := s12.seq s3
            have w3 : RpH (ux X) F3 H3 σ x h b1 := (w1.mono s2.ext (Step.wait s1 s2)).mono s3.ext (Step.wait s12 s3)
            obtain ⟨cs, w4⟩ := w3.now r3 q1
            refine ok_sl s13.good.zero w4 e4 fun v F' H' bs t w => ?_
            obtain ⟨s4, r4⟩ := fin s13.right r3 t
            exact q v F' H' bs as3 s4 r4 w
          · cases e
        · cases e
      · cases e
    · cases e
  · cases e
theorem mp_none : PO X none (tP (ux X) none) := po_none
theorem mp_some {e : Expr} {m : Ox} (h : PE X e (tO (ux X) m)) : PO X (some e) (tP (ux X) (some m)) := po_some h
end
/-- s[::-1] of lists -/
def revD : D → Option D
  | .lst _ ds => if frozenL ds = true then some (.lst true ds.reverse) else none
  | _ => none
theorem ok_rev {U : Wd} : Ok1 U (fun x H Q => ∃ a xs, x = .ref a ∧ SqL U.K H a xs ∧ ∀ p, H p = none → Q (.ref p) (upd H p (.lst xs.reverse))) revD := fun F H x d1 d c1 Q g w1 e k => by
  unfold revD at e
  split at e
  · split at e
    · rename_i hf
      cases e
      obtain ⟨a, vs, rfl, e1, l⟩ := lst0 g w1 hf
      exact ⟨a, vs, rfl, .inl (.inl e1), new_list g l.rev0 k⟩
    · cases e
  · cases e

/-! ### built-in functions -/
def opN (f : List D → Option D) (m : Hx) : Ex := fun E => match m E with
  | some (hs, E1) => match drL E1 hs with
    | some ds => match f ds with
      | some d => some (d, E1)
      | none => none
    | none => none
  | none => none
def OkN (U : Wd) (r : List V → Hp → VK → Prop) (f : List D → Option D) : Prop := ∀ (F H : Hp) (xs : List V) (ds : List D) (d : D) (Q : VK), Good F H [] → RpP U F H xs ds → f ds = some d →
  (∀ v F' H' bs, Step F H [] F' H' bs → Rp U F' H' v d bs → Q v H') → r xs H Q
theorem opN_reads {U : Wd} {r : List V → Hp → VK → Prop} {f : List D → Option D} {m : Hx} (ok : OkN U r f) {σ : Sl} {H : Hp} {Q : VK} (q : tM U (opN f m) σ H Q) : tCB r (tH U m) σ H Q := by
  obtain ⟨E, F, as, d, E', g, rE, e, q⟩ := q
  unfold opN at e
  split at e
  · rename_i hs E1 e1
    split at e
    · rename_i ds e2
      split at e
      · rename_i d' e3
        cases e
        refine ⟨E, F, as, hs, E', g, rE, e1, fun vs F1 H1 bs as1 s1 r1 w => ?_⟩
        refine ok F1 H1 vs ds d Q s1.good.zero (w.now r1 e2) e3 fun v F' H' bs' t w' => ?_
        obtain ⟨s3, r3⟩ := fin s1.right r1 t
        exact q v F' H' bs' as1 s3 r3 w'
      · cases e
    · cases e
  · cases e
section
variable [LE] [WC] {X : Cx} {e : Expr} {es : List Expr} {pos p : Pos} {r : List V → Hp → VK → Prop} {f : List D → Option D} {m : Hx} {x : Str} {id T : String}
theorem mv_blt (hc : CallR X (.builtin id) r) (ok : OkN (ux X) r f) (hg : Gl X x) (hm : X.mg x = none) (hv : bootBuiltins x = some (.builtin id)) (ha : PA X (e :: es) (tH (ux X) m)) (hn : x ≠ "__name__" := by decide) (hdb : (x == ("__debug__" : Str)) = false := by decide)
    (he : starEach (e :: es) X.env = (false, eval e X.env) :: starEach es X.env := by rfl) (hpl : (backTo pos (starEach es X.env)).any (·.1) = false := by rfl) : PE X (.Call (.Name x p) (e :: es) [] pos) (tM (ux X) (opN f m)) := pe_mono (pe_callB hc hg hm hv ha hn hdb he hpl) fun _ _ _ q => opN_reads ok q
theorem mv_bty (hc : CallR X (.type T) r) (ok : OkN (ux X) r f) (hg : Gl X x) (hm : X.mg x = none) (hv : bootBuiltins x = some (.type T)) (ha : PA X (e :: es) (tH (ux X) m)) (hn : x ≠ "__name__" := by decide) (hdb : (x == ("__debug__" : Str)) = false := by decide)
    (he : starEach (e :: es) X.env = (false, eval e X.env) :: starEach es X.env := by rfl) (hpl : (backTo pos (starEach es X.env)).any (·.1) = false := by rfl) : PE X (.Call (.Name x p) (e :: es) [] pos) (tM (ux X) (opN f m)) := pe_mono (pe_callTy hc hg hm hv ha hn hdb he hpl) fun _ _ _ q => opN_reads ok q
end
section
variable {U : Wd} {F H : Hp}
theorem p1 {vs : List V} {d : D} (h : RpP U F H vs [d]) : ∃ v c, vs = [v] ∧ Rp U F H v d c := by
  cases h with
  | cons h t =>
    cases t
    obtain ⟨c, h⟩ := h
    exact ⟨_, c, rfl, h⟩
theorem p2 {vs : List V} {d e : D} (h : RpP U F H vs [d, e]) : ∃ v u c c', vs = [v, u] ∧ Rp U F H v d c ∧ Rp U F H u e c' := by
  cases h with
  | cons h t =>
    obtain ⟨u, c', rfl, hu⟩ := p1 t
    obtain ⟨c, h⟩ := h
    exact ⟨_, u, c, c', rfl, h, hu⟩
theorem p3 {vs : List V} {d e f : D} (h : RpP U F H vs [d, e, f]) : ∃ v u w c c' c'', vs = [v, u, w] ∧ Rp U F H v d c ∧ Rp U F H u e c' ∧ Rp U F H w f c'' := by
  cases h with
  | cons h t =>
    obtain ⟨u, w, c', c'', rfl, hu, hw⟩ := p2 t
    obtain ⟨c, h⟩ := h
    exact ⟨_, u, w, c, c', c'', rfl, h, hu, hw⟩
end
def lenD : List D → Option D
  | [.str s] => if lineOk s.length = true then some (.int s.length) else none
  | [.lst _ ds] => some (.int ds.length)
  | [.tup _ ds] => some (.int ds.length)
  | [.scr ns] => some (.int ns.length)
  | _ => none
theorem ok_len {U : Wd} : OkN U (fun xs H Q => ∃ x n, xs = [x] ∧ LenV U.K x H n ∧ Q (.int n) H) lenD := fun F H xs ds d Q g w0 e k => by
  unfold lenD at e
  split at e
  · split at e
    · rename_i hl
      cases e
      obtain ⟨v, c, rfl, w⟩ := p1 w0
      obtain ⟨rfl, _⟩ := rp_str w
      exact ⟨_, _, rfl, ⟨of_decide_eq_true hl, rfl⟩, same_ g k (.int _)⟩
    · cases e
  · cases e
    obtain ⟨v, c, rfl, w⟩ := p1 w0
    obtain ⟨a, vs, rfl, e1, bs, l⟩ := lst_now g.le w
    exact ⟨_, _, rfl, .inl ⟨vs, .inl (.inl e1), l.len.symm⟩, same_ g k (.int _)⟩
  · cases e
    obtain ⟨v, c, rfl, w⟩ := p1 w0
    obtain ⟨a, vs, rfl, e1, bs, l⟩ := tup_now g.le w
    exact ⟨_, _, rfl, .inr ⟨vs, e1, l.len.symm⟩, same_ g k (.int _)⟩
  · rename_i ns
    cases e
    obtain ⟨v, c, rfl, w⟩ := p1 w0
    cases w with
    | scr h => exact ⟨_, ns.length, rfl, .inl ⟨_, g.le.seqL h, by simp⟩, same_ g k (.int _)⟩
  · cases e
def absD : List D → Option D
  | [.int i] => some (.int (if i < 0 then -i else i))
  | _ => none
theorem ok_abs {U : Wd} : OkN U (fun xs H Q => ∃ i, xs = [.int i] ∧ Q (.int (if i < 0 then -i else i)) H) absD := fun F H xs ds d Q g w0 e k => by
  unfold absD at e
  split at e
  · cases e
    obtain ⟨v, c, rfl, w⟩ := p1 w0
    obtain ⟨rfl, _⟩ := rp_int w
    exact ⟨_, rfl, same_ g k (.int _)⟩
  · cases e
def maxD : List D → Option D
  | [.int i, .int j] => some (.int (if j > i then j else i))
  | _ => none
theorem ok_max {U : Wd} : OkN U (fun xs H Q => ∃ i j, xs = [.int i, .int j] ∧ Q (.int (if j > i then j else i)) H) maxD := fun F H xs ds d Q g w0 e k => by
  unfold maxD at e
  split at e
  · cases e
    obtain ⟨v, u, c, c', rfl, w1, w2⟩ := p2 w0
    obtain ⟨rfl, _⟩ := rp_int w1
    obtain ⟨rfl, _⟩ := rp_int w2
    exact ⟨_, _, rfl, same_ g k (.int _)⟩
  · cases e
def minD : List D → Option D
  | [.int i, .int j] => some (.int (if j < i then j else i))
  | _ => none
theorem ok_min {U : Wd} : OkN U (fun xs H Q => ∃ i j, xs = [.int i, .int j] ∧ Q (.int (if j < i then j else i)) H) minD := fun F H xs ds d Q g w0 e k => by
  unfold minD at e
  split at e
  · cases e
    obtain ⟨v, u, c, c', rfl, w1, w2⟩ := p2 w0
    obtain ⟨rfl, _⟩ := rp_int w1
    obtain ⟨rfl, _⟩ := rp_int w2
    exact ⟨_, _, rfl, same_ g k (.int _)⟩
  · cases e
def intD : List D → Option D
  | [.int i] => some (.int i)
  | [.bl b] => some (.int (if b then 1 else 0))
  | _ => none
theorem ok_int {U : Wd} : OkN U (fun xs H Q => (∃ i, xs = [.int i] ∧ Q (.int i) H) ∨ ∃ k, xs = [.bl k] ∧ Q (.int (if k then 1 else 0)) H) intD := fun F H xs ds d Q g w0 e k => by
  unfold intD at e
  split at e
  · cases e
    obtain ⟨v, c, rfl, w⟩ := p1 w0
    obtain ⟨rfl, _⟩ := rp_int w
    exact .inl ⟨_, rfl, same_ g k (.int _)⟩
  · cases e
    obtain ⟨v, c, rfl, w⟩ := p1 w0
    obtain ⟨rfl, _⟩ := rp_bl w
    exact .inr ⟨_, rfl, same_ g k (.int _)⟩
  · cases e
def divmodD : List D → Option D
  | [.int i, .int j] => if 0 < j ∧ j < 1073741824 then some (.tup false [.int (i / j), .int (i % j)]) else none
  | _ => none
theorem ok_divmod {U : Wd} : OkN U (fun xs H Q => ∃ i j, xs = [.int i, .int j] ∧ CDiv i j ∧ ∀ p, H p = none → Q (.ref p) (upd H p (.tup [.int (i / j), .int (i % j)]))) divmodD := fun F H xs ds d Q g w0 e k => by
  unfold divmodD at e
  split at e
  · split at e
    · rename_i h
      cases e
      obtain ⟨v, u, c, c', rfl, w1, w2⟩ := p2 w0
      obtain ⟨rfl, _⟩ := rp_int w1
      obtain ⟨rfl, _⟩ := rp_int w2
      exact ⟨_, _, rfl, h, new_tup g (.cons0 (.int _) (.cons0 (.int _) .nil)) k⟩
    · cases e
  · cases e
def listD : List D → Option D
  | [.lst _ ds] => if frozenL ds = true then some (.lst true ds) else none
  | [.tup false ds] => some (.lst true ds)
  | [.scr ns] => some (.lst true (ns.map D.int))
  | _ => none
theorem ok_list {U : Wd} : OkN U (fun xs H Q => ∃ p ys, xs = [.ref p] ∧ (SqL U.K H p ys ∨ SqT U.K H p ys) ∧ ∀ l, H l = none → Q (.ref l) (upd H l (.lst ys))) listD := fun F H xs ds d Q g w0 e k => by
  unfold listD at e
  split at e
  · split at e
    · rename_i hf
      cases e
      obtain ⟨v, c, rfl, w⟩ := p1 w0
      obtain ⟨a, vs, rfl, e1, l⟩ := lst0 g w hf
      exact ⟨a, vs, rfl, .inl (.inl (.inl e1)), new_list g l k⟩
    · cases e
  · cases e
    obtain ⟨v, c, rfl, w⟩ := p1 w0
    obtain ⟨a, vs, rfl, e1, l, _⟩ := tupS0 g w
    exact ⟨a, vs, rfl, .inr e1, new_list g l k⟩
  · cases e
    obtain ⟨v, c, rfl, w⟩ := p1 w0
    cases w with
    | scr h => exact ⟨_, _, rfl, .inl (g.le.seqL h), new_list g (RpL.ints _) k⟩
  · cases e
def tupleD : List D → Option D
  | [.lst _ ds] => if frozenL ds = true then some (.tup false ds) else none
  | [.tup false ds] => some (.tup false ds)
  | _ => none
theorem ok_tuple {U : Wd} : OkN U (fun xs H Q => ∃ p ys, xs = [.ref p] ∧ ((SqL U.K H p ys ∧ ∀ l, H l = none → Q (.ref l) (upd H l (.tup ys))) ∨ (SqT U.K H p ys ∧ Q (.ref p) H))) tupleD := fun F H xs ds d Q g w0 e k => by
  unfold tupleD at e
  split at e
  · split at e
    · rename_i hf
      cases e
      obtain ⟨v, c, rfl, w⟩ := p1 w0
      obtain ⟨a, vs, rfl, e1, l⟩ := lst0 g w hf
      exact ⟨a, vs, rfl, .inl ⟨.inl (.inl e1), new_tup g l k⟩⟩
    · cases e
  · cases e
    obtain ⟨v, c, rfl, w⟩ := p1 w0
    obtain ⟨a, vs, rfl, e1, l, rfl⟩ := tupS0 g w
    exact ⟨a, vs, rfl, .inr ⟨e1, same_ g k w⟩⟩
  · cases e
def boolsOf : List D → Option (List Bool)
  | [] => some []
  | .bl b :: ds => match boolsOf ds with
    | some bs => some (b :: bs)
    | none => none
  | _ => none
theorem boolsOf_rp {U : Wd} {F H : Hp} : ∀ {vs : List V} {ds : List D} {as : List Addr} {bs : List Bool}, RpL U F H vs ds as → boolsOf ds = some bs → vs = bs.map V.bl
  | _, _, _, bs, .nil, e => by
    cases e
    rfl
  | v :: vs, d :: ds, _, bs, .cons h t, e => by
    unfold boolsOf at e
    split at e
    · rename_i heq
      cases heq
    · rename_i b ds' heq
      cases heq
      split at e
      · rename_i bs' e1
        cases e
        obtain ⟨rfl, _⟩ := rp_bl h
        rw [List.map_cons, boolsOf_rp t e1]
      · cases e
    · cases e
theorem boolsOf_map : ∀ bs : List Bool, boolsOf (bs.map D.bl) = some bs
  | [] => rfl
  | b :: bs => by rw [List.map_cons, boolsOf, boolsOf_map bs]
def allD : List D → Option D
  | [.lst _ ds] => match boolsOf ds with
    | some bs => some (.bl (bs.all id))
    | none => none
  | _ => none
def anyD : List D → Option D
  | [.lst _ ds] => match boolsOf ds with
    | some bs => some (.bl (bs.any id))
    | none => none
  | _ => none
theorem ok_all {U : Wd} : OkN U (rAll U.K) allD := fun F H xs ds d Q g w0 e k => by
  unfold allD at e
  split at e
  · split at e
    · rename_i bs e1
      cases e
      obtain ⟨v, c, rfl, w⟩ := p1 w0
      obtain ⟨a, vs, rfl, e2, bs', l⟩ := lst_now g.le w
      rw [boolsOf_rp l e1] at e2
      exact ⟨a, bs, rfl, .inl (.inl e2), same_ g k (.bl _)⟩
    · cases e
  · cases e
theorem ok_any {U : Wd} : OkN U (rAny U.K) anyD := fun F H xs ds d Q g w0 e k => by
  unfold anyD at e
  split at e
  · split at e
    · rename_i bs e1
      cases e
      obtain ⟨v, c, rfl, w⟩ := p1 w0
      obtain ⟨a, vs, rfl, e2, bs', l⟩ := lst_now g.le w
      rw [boolsOf_rp l e1] at e2
      exact ⟨a, bs, rfl, .inl (.inl e2), same_ g k (.bl _)⟩
    · cases e
  · cases e
def sumD : List D → Option D
  | [.lst _ ds] => match intsOf ds with
    | some ns => some (.int ns.sum)
    | none => none
  | _ => none
theorem ok_sum {U : Wd} : OkN U (rSum U.K) sumD := fun F H xs ds d Q g w0 e k => by
  unfold sumD at e
  split at e
  · split at e
    · rename_i ns e1
      cases e
      obtain ⟨v, c, rfl, w⟩ := p1 w0
      obtain ⟨a, vs, rfl, e2, bs', l⟩ := lst_now g.le w
      rw [intsOf_eq e1] at l
      rw [l.intsV] at e2
      exact ⟨a, ns, rfl, .inl (.inl e2), same_ g k (.int _)⟩
    · cases e
  · cases e

/-! ### isinstance with one built-in class -/
def tyName : D → String
  | .str _ => "str"
  | .int _ => "int"
  | .bl _ => "bool"
  | .non => "NoneType"
  | .tup _ _ => "tuple"
  | .lst _ _ => "list"
  | .dct _ _ _ => "dict"
  | .scr _ => "list"
  | .lam _ => "dict"
  | .fn _ _ _ => "dict"
def D.typed : D → Bool
  | .scr _ => false
  | .lam _ => false
  | .fn _ _ _ => false
  | _ => true
def isB (n T : String) : Bool := T == n || (n == "bool" && T == "int")
def isD (T : String) : D → Option D
  | .scr _ => none
  | .lam _ => none
  | .fn _ _ _ => none
  | .str _ => some (.bl (isB "str" T))
  | .int _ => some (.bl (isB "int" T))
  | .bl _ => some (.bl (isB "bool" T))
  | .non => some (.bl (isB "NoneType" T))
  | .tup _ _ => some (.bl (isB "tuple" T))
  | .lst _ _ => some (.bl (isB "list" T))
  | .dct _ _ _ => some (.bl (isB "dict" T))
theorem rp_ty {U : Wd} {F H : Hp} {v : V} {d : D} {c : List Addr} (g : Fle F H) (h : Rp U F H v d c) (hd : d.typed = true) : TyX U.K H v (.type (tyName d)) := by
  cases h with
  | non => exact .base .non
  | bl b => exact .base (.bl b)
  | int i => exact .base (.int i)
  | str s => exact .base (.str s)
  | scr h => cases hd
  | lam _ _ => cases hd
  | fn _ _ => cases hd
  | tupS h l =>
    rcases g.seqT h with (h | ⟨o, h⟩) | ⟨o, its, n, h1, h2, _⟩
    · exact .base (.tup h)
    · exact .fTuple h
    · exact .kTuple h1 h2
  | tupO h l => exact .base (.tup h)
  | lstS h l => exact .base (.lst (g _ _ h))
  | lstO h l => exact .base (.lst h)
  | dctS h l => exact .base (.dK (g _ _ h))
  | dctO h l => exact .base (.dK h)
def isOk (T : String) : Prop := ∀ n ∈ ["str", "int", "bool", "NoneType", "tuple", "list", "dict"], kitB n T = some (isB n T)
theorem isD_eq {T : String} {d : D} (hd : d.typed = true) : isD T d = some (.bl (isB (tyName d) T)) := by
  cases d with
  | scr ns => cases hd
  | lam _ => cases hd
  | fn _ _ _ => cases hd
  | _ => rfl
theorem tyName_mem (d : D) : tyName d ∈ ["str", "int", "bool", "NoneType", "tuple", "list", "dict"] := by
  cases d <;> simp [tyName]
theorem isOk_str : isOk "str" := by
  unfold isOk
  decide +kernel
theorem isOk_int : isOk "int" := by
  unfold isOk
  decide +kernel
theorem isOk_bool : isOk "bool" := by
  unfold isOk
  decide +kernel
theorem isOk_tuple : isOk "tuple" := by
  unfold isOk
  decide +kernel
theorem isOk_list : isOk "list" := by
  unfold isOk
  decide +kernel
section
variable [LE] [WC] {X : Cx} {e : Expr} {pos p pt : Pos} {m : Ox} {T : String} {tn : Str}
theorem mv_isi (ok : isOk T) (hg : Gl X "isinstance") (hm : X.mg "isinstance" = none) (hgT : Gl X tn) (hmT : X.mg tn = none) (hvT : bootBuiltins tn = some (.type T)) (he : PE X e (tO (ux X) m))
    (hnT : tn ≠ "__name__" := by decide) (hdT : (tn == ("__debug__" : Str)) = false := by decide)
    (hs1 : starEach [.Name tn pt] X.env = (false, eval (.Name tn pt) X.env) :: starEach [] X.env := by rfl) (hs : starEach [e, .Name tn pt] X.env = (false, eval e X.env) :: starEach [.Name tn pt] X.env := by rfl) (hpl : (backTo pos (starEach [.Name tn pt] X.env)).any (·.1) = false := by rfl) :
    PE X (.Call (.Name "isinstance" p) [e, .Name tn pt] [] pos) (tM (ux X) (op1 (isD T) m)) :=
  pe_mono (pe_callB (t := tCons (tO (ux X) m) (tCons (tC (.ty T)) tNil)) call_isi hg hm (by decide +kernel) (pa_cons he (pa_cons (pe_bltn hgT hmT hvT rfl hnT hdT) pa_nil hs1) hs) (by decide) (by decide) hs hpl) fun σ H Q q => by
    obtain ⟨E, F, as, d, E', g, rE, e, q⟩ := q
    obtain ⟨h1, d1, e1, e3, e5⟩ := op1_inv e
    refine ⟨E, F, as, h1, E', g, rE, e1, fun x F1 H1 c1 as1 s1 r1 q1 => ?_⟩
    obtain ⟨z1, w1⟩ := q1.now r1 e3
    have hd : d1.typed = true := by
      cases d1 <;> first | rfl | cases e5
    rw [isD_eq hd] at e5
    cases e5
    refine ⟨x, .ty T, .type (tyName d1), .type T, _, rfl, .ty T, rp_ty s1.good.le w1 hd, kit_ty (ok _ (tyName_mem d1)), ?_⟩
    exact q _ F1 H1 [] as1 s1.right r1 (.bl _)
end

/-! ### methods of texts -/
def opM (T : String) (f : D → List D → Option D) (o : Ox) (m : Hx) : Ex := fun E => match o E with
  | some (h, E1) => match dr E1 h with
    | some d0 => if tyName d0 = T then match m E1 with
        | some (hs, E2) => match dr E2 h, drL E2 hs with
          | some d1, some ds => match f d1 ds with
            | some d => some (d, E2)
            | none => none
          | _, _ => none
        | none => none
      else none
    | none => none
  | none => none
def OkM (U : Wd) (r : V → List V → Hp → VK → Prop) (f : D → List D → Option D) : Prop := ∀ (F H : Hp) (x : V) (d1 : D) (c : List Addr) (xs : List V) (ds : List D) (d : D) (Q : VK), Good F H [] → Rp U F H x d1 c → RpP U F H xs ds → f d1 ds = some d →
  (∀ v F' H' bs, Step F H [] F' H' bs → Rp U F' H' v d bs → Q v H') → r x xs H Q
theorem rp_tyV {U : Wd} {F H : Hp} {v : V} {d : D} {c : List Addr} {T : String} (g : Fle F H) (h : Rp U F H v d c) (e : tyName d = T) (hT : T = "str" ∨ T = "list") : tyV U.K T v H := by
  subst e
  cases h with
  | str s => exact rfl
  | lstS h l => exact .inl ⟨rfl, _, .inl (.inl (g _ _ h))⟩
  | lstO h l => exact .inl ⟨rfl, _, .inl (.inl h)⟩
  | scr h => exact .inl ⟨rfl, _, g.seqL h⟩
  | _ => rcases hT with hT | hT <;> simp [tyName] at hT
theorem opM_reads {U : Wd} {T : String} {r : V → List V → Hp → VK → Prop} {f : D → List D → Option D} {o : Ox} {m : Hx} (ok : OkM U r f) (hT : T = "str" ∨ T = "list") {σ : Sl} {H : Hp} {Q : VK} (q : tM U (opM T f o m) σ H Q) : tBM U.K T r (tO U o) (tH U m) σ H Q := by
  obtain ⟨E, F, as, d, E', g, rE, e, q⟩ := q
  unfold opM at e
  split at e
  · rename_i h E1 e1
    split at e
    · rename_i d0 e2
      split at e
      · rename_i ety
        split at e
        · rename_i hs E2 e3
          split at e
          · rename_i d1 ds e4 e5
            split at e
            · rename_i d' e6
              cases e
              refine ⟨E, F, as, h, E1, g, rE, e1, fun x F1 H1 b1 as1 s1 r1 w1 => ?_⟩
              obtain ⟨c0, w0⟩ := w1.now r1 e2
              refine ⟨rp_tyV s1.good.le w0 ety hT, E1, F1, as1, hs, E', s1.right.good, r1, e3, fun vs F2 H2 b2 as2 s2 r2 w2 => ?_⟩
              obtain ⟨c1, w3⟩ := (w1.mono s2.ext (Step.wait s1 s2)).now r2 e4
              have s12 := s1.seq s2
              refine ok F2 H2 x d1 c1 vs ds d Q s12.good.zero w3 (w2.now r2 e5) e6 fun v F' H' bs t w => ?_
              obtain ⟨s4, r4⟩ := fin s12.right.right r2 t
              exact q v F' H' bs as2 s4 r4 w
            · cases e
          · cases e
        · cases e
      · cases e
    · cases e
  · cases e
def opM0 (T : String) (f : D → List D → Option D) (o : Ox) : Ex := opM T f o hNil
theorem opM0_reads {U : Wd} {T : String} {r : V → List V → Hp → VK → Prop} {f : D → List D → Option D} {o : Ox} (ok : OkM U r f) (hT : T = "str" ∨ T = "list") {σ : Sl} {H : Hp} {Q : VK} (q : tM U (opM0 T f o) σ H Q) : tBM0 U.K T r (tO U o) σ H Q := by
  obtain ⟨E, F, as, h, E1, g, rE, e1, q⟩ := opM_reads ok hT q
  refine ⟨E, F, as, h, E1, g, rE, e1, fun x F1 H1 b1 as1 s1 r1 w1 => ?_⟩
  obtain ⟨ty, E2, F2, as2, hs, E3, g2, r2, e2, q2⟩ := q x F1 H1 b1 as1 s1 r1 w1
  refine ⟨ty, ?_⟩
  cases e2
  exact q2 [] F2 H1 [] as2 (Step.refl g2) r2 .nil
section
variable [LE] [WC] {X : Cx} {o e : Expr} {es : List Expr} {name : Str} {apos cpos : Pos} {T id : String} {r : V → List V → Hp → VK → Prop} {f : D → List D → Option D} {mo : Ox} {m : Hx}
theorem mv_meth (ok : OkM (ux X) r f) (hT : T = "str" ∨ T = "list") (pa : PlainAttrs T) (slot : Slot T name id) (hty : typeOf (.builtin id) = pure (.type "method_descriptor")) (hm : MtR X id r) (ho : PE X o (tO (ux X) mo)) (ha : PA X (e :: es) (tH (ux X) m))
    (hbase : attributeBase o name X.env (eval o X.env) = eval o X.env := by rfl)
    (hfew : ((backTo cpos (starEach (e :: es) X.env)).all (fun x => !x.1) && (backToKw cpos (keywordEach [] X.env)).all (fun x => x.1.isSome)
      && decide ((e :: es).length + ([] : List Keyword).length + (if ([] : List Keyword).isEmpty then 0 else 1) < 30)) = true := by rfl)
    (hline : (apos.endLine == cpos.line) = true := by rfl) (hs : starEach (e :: es) X.env = (false, eval e X.env) :: starEach es X.env := by rfl) (hplain : (backTo cpos (starEach es X.env)).any (·.1) = false := by rfl) :
    PE X (.Call (.Attribute o name apos) (e :: es) [] cpos) (tM (ux X) (opM T f mo m)) := pe_mono (pe_bm pa slot hty hm ho ha hbase hfew hline hs hplain) fun _ _ _ q => opM_reads ok hT q
theorem mv_meth0 (ok : OkM (ux X) r f) (hT : T = "str" ∨ T = "list") (pa : PlainAttrs T) (slot : Slot T name id) (hty : typeOf (.builtin id) = pure (.type "method_descriptor")) (hm : MtR X id r) (ho : PE X o (tO (ux X) mo))
    (hbase : attributeBase o name X.env (eval o X.env) = eval o X.env := by rfl) (hline : (apos.endLine == cpos.line) = true := by rfl) : PE X (.Call (.Attribute o name apos) [] [] cpos) (tM (ux X) (opM0 T f mo)) := pe_mono (pe_bm0 pa slot hty hm ho hbase hline) fun _ _ _ q => opM0_reads ok hT q
end
def strsOf : List D → Option (List Str)
  | [] => some []
  | .str s :: ds => match strsOf ds with
    | some ss => some (s :: ss)
    | none => none
  | _ => none
theorem strsOf_rp {U : Wd} {F H : Hp} : ∀ {vs : List V} {ds : List D} {as : List Addr} {bs : List Str}, RpL U F H vs ds as → strsOf ds = some bs → vs = bs.map V.str
  | _, _, _, bs, .nil, e => by
    cases e
    rfl
  | v :: vs, d :: ds, _, bs, .cons h t, e => by
    unfold strsOf at e
    split at e
    · rename_i heq
      cases heq
    · rename_i b ds' heq
      cases heq
      split at e
      · rename_i bs' e1
        cases e
        obtain ⟨rfl, _⟩ := rp_str h
        rw [List.map_cons, strsOf_rp t e1]
      · cases e
    · cases e
theorem strsOf_map : ∀ bs : List Str, strsOf (bs.map D.str) = some bs
  | [] => rfl
  | b :: bs => by rw [List.map_cons, strsOf, strsOf_map bs]
def countD : D → List D → Option D
  | .str a, [.str b] => some (.int (Txt.count a b))
  | _, _ => none
theorem ok_count {U : Wd} : OkM U (fun x xs H Q => ∃ a b, x = .str a ∧ xs = [.str b] ∧ Q (.int (Txt.count a b)) H) countD := fun F H x d1 c xs ds d Q g w1 w0 e k => by
  unfold countD at e
  split at e
  · cases e
    obtain ⟨v, c, rfl, w⟩ := p1 w0
    obtain ⟨rfl, _⟩ := rp_str w1
    obtain ⟨rfl, _⟩ := rp_str w
    exact ⟨_, _, rfl, rfl, same_ g k (.int _)⟩
  · cases e
def rfindD : D → List D → Option D
  | .str a, [.str b] => some (.int (Txt.rfind a b))
  | _, _ => none
theorem ok_rfind {U : Wd} : OkM U (fun x xs H Q => ∃ a b, x = .str a ∧ xs = [.str b] ∧ Q (.int (Txt.rfind a b)) H) rfindD := fun F H x d1 c xs ds d Q g w1 w0 e k => by
  unfold rfindD at e
  split at e
  · cases e
    obtain ⟨v, c, rfl, w⟩ := p1 w0
    obtain ⟨rfl, _⟩ := rp_str w1
    obtain ⟨rfl, _⟩ := rp_str w
    exact ⟨_, _, rfl, rfl, same_ g k (.int _)⟩
  · cases e
def joinOk (a : Str) (ys : List Str) : Bool := decide ((ys.map (·.length)).sum + ys.length * a.length ≤ 16777216)
def joinD : D → List D → Option D
  | .str a, [.lst _ ds] => match strsOf ds with
    | some ys => if joinOk a ys = true then some (.str (Txt.join a ys)) else none
    | none => none
  | .str a, [.tup _ ds] => match strsOf ds with
    | some ys => if joinOk a ys = true then some (.str (Txt.join a ys)) else none
    | none => none
  | _, _ => none
theorem ok_join {U : Wd} : OkM U (fun x xs H Q => ∃ a p, ∃ ys : List Str, x = .str a ∧ xs = [.ref p] ∧ (SqL U.K H p (ys.map V.str) ∨ SqT U.K H p (ys.map V.str)) ∧ (ys.map (·.length)).sum + ys.length * a.length ≤ 16777216 ∧ Q (.str (Txt.join a ys)) H) joinD := fun F H x d1 c xs ds d Q g w1 w0 e k => by
  unfold joinD at e
  split at e
  · split at e
    · rename_i ys e1
      split at e
      · rename_i hl
        cases e
        obtain ⟨v, c, rfl, w⟩ := p1 w0
        obtain ⟨rfl, _⟩ := rp_str w1
        obtain ⟨a, vs, rfl, e2, bs, l⟩ := lst_now g.le w
        rw [strsOf_rp l e1] at e2
        exact ⟨_, a, ys, rfl, rfl, .inl (.inl (.inl e2)), of_decide_eq_true hl, same_ g k (.str _)⟩
      · cases e
    · cases e
  · split at e
    · rename_i ys e1
      split at e
      · rename_i hl
        cases e
        obtain ⟨v, c, rfl, w⟩ := p1 w0
        obtain ⟨rfl, _⟩ := rp_str w1
        obtain ⟨a, vs, rfl, e2, bs, l⟩ := tup_now g.le w
        rw [strsOf_rp l e1] at e2
        exact ⟨_, a, ys, rfl, rfl, .inr e2, of_decide_eq_true hl, same_ g k (.str _)⟩
      · cases e
    · cases e
  · cases e
end MP

/-! Mirror layer, part 8: lists changed in place, repr, chains, calls by keywords alone, the end. -/
namespace MP
open PySem PySem.Spec L2

/-! ### an owned list in a slot -/
section
variable {U : Wd} {F H : Hp} {σ : Sl} {E : En} {as : List Addr} {i : Nat} {ds : List D}
theorem REnv.list (r : REnv U F H σ E as) (e : E[i]? = some (some (.lst true ds))) : ∃ a us xs rest, σ[i]? = some (some (.ref a)) ∧ H a = some (.lst us) ∧ RpL U F H us ds xs ∧ as.Perm (a :: (xs ++ rest)) ∧ REnv U F H σ (E.set i none) rest := by
  obtain ⟨v, a1, rest, h1, w, p, r2⟩ := r.take e
  cases w with
  | @lstO a us _ xs h l => exact ⟨a, us, xs, rest, h1, h, l, p, r2⟩
/-- and it is written -/
theorem write_list {a : Addr} {us' : List V} {ds' : List D} {xs ws rest : List Addr} (hi : i < E.length) (g : Good F H (ws ++ (a :: (xs ++ rest)))) (hs : σ[i]? = some (some (.ref a))) (l : RpL U F H us' ds' xs) (r : REnv U F H σ (E.set i none) rest) :
    Step F H (ws ++ (a :: (xs ++ rest))) F (upd H a (.lst us')) (ws ++ (a :: (xs ++ rest))) ∧ REnv U F (upd H a (.lst us')) σ (E.set i (some (.lst true ds'))) (a :: (xs ++ rest)) ∧ ∀ b ∈ ws, upd H a (.lst us') b = H b := by
  have nd := g.nd
  have nd2 := (List.nodup_append.mp nd).2.1
  have na : ∀ b ∈ xs ++ rest, b ≠ a := fun b z h => (List.nodup_cons.mp nd2).1 (h ▸ z)
  have nw : ∀ b ∈ ws, b ≠ a := fun b z h => (List.nodup_append.mp nd).2.2 b z a (.head _) h
  refine ⟨Step.writeIn g (List.mem_append_right _ (.head _)), ?_, fun b z => upd_ne (nw b z)⟩
  have r1 : REnv U F (upd H a (.lst us')) σ (E.set i none) rest := r.mono (Fle.refl _) fun b z => upd_ne (na b (List.mem_append_right _ z))
  have l1 : RpL U F (upd H a (.lst us')) us' ds' xs := l.mono (Fle.refl _) fun b z => upd_ne (na b (List.mem_append_left _ z))
  have r2 := r1.putS (set_none_get hi) hs (.lstO upd_same l1)
  rw [List.set_set] at r2
  exact r2
end
theorem get_lt {E : En} {i : Nat} {o : Option D} (e : E[i]? = some o) : i < E.length := (List.getElem?_eq_some_iff.mp e).1
def lstAt (E : En) (i : Nat) : Option (List D) := match E[i]? with
  | some (some (.lst true ds)) => some ds
  | _ => none
theorem lstAt_eq {E : En} {i : Nat} {ds : List D} (h : lstAt E i = some ds) : E[i]? = some (some (.lst true ds)) := by
  unfold lstAt at h
  split at h
  · rename_i e
    cases h
    exact e
  · cases h
def isLst (E : En) (i : Nat) : Bool := match E[i]? with
  | some (some (.lst _ _)) => true
  | _ => false
theorem isLst_ty {U : Wd} {F H : Hp} {σ : Sl} {E : En} {as : List Addr} {i : Nat} (g : Good F H as) (r : REnv U F H σ E as) (h : isLst E i = true) : ∃ v, σ[i]? = some (some v) ∧ tyV U.K "list" v H := by
  unfold isLst at h
  split at h
  · rename_i o ds e
    obtain ⟨v, a1, rest, h1, w, _, _⟩ := r.take e
    exact ⟨v, h1, rp_tyV g.le w rfl (.inr rfl)⟩
  · cases h
/-- x.append(e) -/
def xAppend (i : Nat) (m : Lx) : Ex := fun E => if isLst E i = true then match m E with
    | some ([d], E1) => match lstAt E1 i with
      | some ds => if lineOk (ds.length + 1) = true then some (.non, E1.set i (some (.lst true (ds ++ [d])))) else none
      | none => none
    | _ => none
  else none
theorem append_reads {U : Wd} {i : Nat} {m : Lx} {σ : Sl} {H : Hp} {Q : VK} (q : tM U (xAppend i m) σ H Q) : tBM U.K "list" rAppend (tVar i) (tL U m) σ H Q := by
  obtain ⟨E, F, as, d, E', g, rE, e, q⟩ := q
  unfold xAppend at e
  split at e
  · rename_i hl
    obtain ⟨v, hv, ty⟩ := isLst_ty g rE hl
    split at e
    · rename_i d1 E1 e1
      split at e
      · rename_i ds e2
        split at e
        · rename_i hz
          cases e
          refine ⟨v, hv, ty, E, F, as, _, E1, g, rE, e1, fun vs F1 H1 bs as1 s1 r1 w1 => ?_⟩
          obtain ⟨u, rfl, w⟩ := one_view w1
          obtain ⟨a, us, xs, rest, h1, h2, l, p, r2⟩ := r1.list (lstAt_eq e2)
          rw [hv] at h1
          cases h1
          have hi := get_lt (lstAt_eq e2)
          have p2 : (bs ++ as1).Perm ([] ++ (a :: ((xs ++ bs) ++ rest))) := by
            refine (p.append_left bs).trans ?_
            refine List.perm_middle.trans (List.Perm.cons a ?_)
            rw [← List.append_assoc]
            exact List.perm_append_comm.append_right rest
          have s2 := s1.perm p2
          obtain ⟨t, r3, _⟩ := write_list (us' := us ++ [u]) (ds' := ds ++ [d1]) hi s2.good hv (l.app (RpL.one w)) r2
          refine ⟨a, us, u, rfl, rfl, h2, ?_, q .non F1 _ [] _ (s2.trans t) r3 .non⟩
          have : ds.length + 1 ≤ sizeLine := of_decide_eq_true hz
          rw [l.len]
          exact this
        · cases e
      · cases e
    · cases e
  · cases e
/-- x.extend(ys) -/
def xExtend (i : Nat) (m : Hx) : Ex := fun E => if isLst E i = true then match m E with
    | some ([h], E1) => match dr E1 h, lstAt E1 i with
      | some (.lst _ es), some ds => if (frozenL es && lineOk (ds.length + es.length)) = true then some (.non, E1.set i (some (.lst true (ds ++ es)))) else none
      | _, _ => none
    | _ => none
  else none
theorem extend_reads {U : Wd} {i : Nat} {m : Hx} {σ : Sl} {H : Hp} {Q : VK} (q : tM U (xExtend i m) σ H Q) : tBM U.K "list" rExtend (tVar i) (tH U m) σ H Q := by
  obtain ⟨E, F, as, d, E', g, rE, e, q⟩ := q
  unfold xExtend at e
  split at e
  · rename_i hl
    obtain ⟨v, hv, ty⟩ := isLst_ty g rE hl
    split at e
    · rename_i h0 E1 e1
      split at e
      · rename_i o es ds e3 e2
        split at e
        · rename_i hz
          cases e
          simp only [Bool.and_eq_true] at hz
          refine ⟨v, hv, ty, E, F, as, _, E1, g, rE, e1, fun vs F1 H1 bs as1 s1 r1 w1 => ?_⟩
          cases w1 with
          | @cons u _ _ _ b1 b2 w wt =>
            cases wt
            obtain ⟨c, w⟩ := w.now r1 e3
            obtain ⟨b, zs, rfl, hb, lb⟩ := lst0 s1.good.zero w hz.1
            obtain ⟨a, us, xs, rest, h1, h2, l, p, r2⟩ := r1.list (lstAt_eq e2)
            rw [hv] at h1
            cases h1
            have hi := get_lt (lstAt_eq e2)
            have s2 := (s1.right.perm p)
            obtain ⟨t, r3, _⟩ := write_list (ws := []) (us' := us ++ zs) (ds' := ds ++ es) (xs := xs) hi s2.good hv (by simpa using l.app lb) r2
            refine ⟨a, b, us, zs, rfl, rfl, h2, hb, ?_, q .non F1 _ [] _ (s2.trans t) r3 .non⟩
            rw [l.len, lb.len]
            exact of_decide_eq_true hz.2
        · cases e
      · cases e
    · cases e
  · cases e
/-- x.pop() -/
def xPop (i : Nat) : Ex := fun E => match lstAt E i with
  | some ds => match ds.getLast? with
    | some d => some (d, E.set i (some (.lst true ds.dropLast)))
    | none => none
  | none => none
theorem RpL.unsnoc {U : Wd} {F H : Hp} : ∀ {ds : List D} {d : D} {vs : List V} {as : List Addr}, RpL U F H vs (ds ++ [d]) as → ∃ us v xs bs, vs = us ++ [v] ∧ as = xs ++ bs ∧ RpL U F H us ds xs ∧ Rp U F H v d bs
  | [], d, vs, as, h => by
    obtain ⟨v, rfl, w⟩ := one_view h
    exact ⟨[], v, [], as, rfl, rfl, .nil, w⟩
  | d0 :: ds, d, vs, as, h => by
    cases h with
    | @cons v0 _ vs0 _ a1 a2 w t =>
      obtain ⟨us, v, xs, bs, rfl, rfl, l, w2⟩ := RpL.unsnoc t
      exact ⟨v0 :: us, v, a1 ++ xs, bs, rfl, by rw [List.append_assoc], .cons w l, w2⟩
theorem pop_reads {U : Wd} {i : Nat} {σ : Sl} {H : Hp} {Q : VK} (q : tM U (xPop i) σ H Q) : tBM0 U.K "list" rPop (tVar i) σ H Q := by
  obtain ⟨E, F, as, d, E', g, rE, e, q⟩ := q
  unfold xPop at e
  split at e
  · rename_i ds e1
    split at e
    · rename_i d0 e2
      cases e
      obtain ⟨a, us, xs, rest, h1, h2, l, p, r2⟩ := rE.list (lstAt_eq e1)
      have hi := get_lt (lstAt_eq e1)
      have ed : ds = ds.dropLast ++ [d] := by
        have hne : ds ≠ [] := fun z => by
          subst z
          cases e2
        rw [List.getLast?_eq_some_getLast hne] at e2
        cases e2
        exact (List.dropLast_concat_getLast hne).symm
      have l' : RpL U F H us (ds.dropLast ++ [d]) xs := by
        rw [← ed]
        exact l
      obtain ⟨us0, v, xs0, bs, rfl, rfl, l0, w⟩ := l'.unsnoc
      refine ⟨.ref a, h1, .inl ⟨rfl, _, .inl (.inl h2)⟩, a, _, v, rfl, rfl, h2, by simp, ?_⟩
      have p2 : as.Perm (bs ++ (a :: (xs0 ++ rest))) := by
        refine p.trans ?_
        refine List.Perm.trans (List.Perm.cons a ?_) List.perm_middle.symm
        rw [← List.append_assoc]
        exact List.perm_append_comm.append_right rest
      have s2 := (Step.refl g).perm p2
      obtain ⟨t, r3, kw⟩ := write_list (us' := us0) (ds' := ds.dropLast) hi s2.good h1 l0 r2
      rw [List.dropLast_concat]
      exact q v F _ bs _ (s2.trans t) r3 (w.mono (Fle.refl _) kw)
    · cases e
  · cases e
section
variable [LE] [WC] {X : Cx} {e : Expr} {x : Str} {px apos cpos : Pos} {i : Nat}
theorem mv_append {m : Lx} (hv : PE X (.Name x px) (tVar i)) (ha : PA X [e] (tL (ux X) m))
    (hbase : attributeBase (.Name x px) "append" X.env (eval (.Name x px) X.env) = eval (.Name x px) X.env := by rfl)
    (hfew : ((backTo cpos (starEach [e] X.env)).all (fun x => !x.1) && (backToKw cpos (keywordEach [] X.env)).all (fun x => x.1.isSome)
      && decide ([e].length + ([] : List Keyword).length + (if ([] : List Keyword).isEmpty then 0 else 1) < 30)) = true := by rfl)
    (hline : (apos.endLine == cpos.line) = true := by rfl) (hs : starEach [e] X.env = (false, eval e X.env) :: starEach [] X.env := by rfl) (hplain : (backTo cpos (starEach [] X.env)).any (·.1) = false := by rfl) :
    PE X (.Call (.Attribute (.Name x px) "append" apos) [e] [] cpos) (tM (ux X) (xAppend i m)) := pe_mono (pe_bm PySem.F.plainAttrs_list PySem.F.slot_list_append PySem.F.type_list_append mt_append hv ha hbase hfew hline hs hplain) fun _ _ _ q => append_reads q
theorem mv_extend {m : Hx} (hv : PE X (.Name x px) (tVar i)) (ha : PA X [e] (tH (ux X) m))
    (hbase : attributeBase (.Name x px) "extend" X.env (eval (.Name x px) X.env) = eval (.Name x px) X.env := by rfl)
    (hfew : ((backTo cpos (starEach [e] X.env)).all (fun x => !x.1) && (backToKw cpos (keywordEach [] X.env)).all (fun x => x.1.isSome)
      && decide ([e].length + ([] : List Keyword).length + (if ([] : List Keyword).isEmpty then 0 else 1) < 30)) = true := by rfl)
    (hline : (apos.endLine == cpos.line) = true := by rfl) (hs : starEach [e] X.env = (false, eval e X.env) :: starEach [] X.env := by rfl) (hplain : (backTo cpos (starEach [] X.env)).any (·.1) = false := by rfl) :
    PE X (.Call (.Attribute (.Name x px) "extend" apos) [e] [] cpos) (tM (ux X) (xExtend i m)) := pe_mono (pe_bm PySem.F.plainAttrs_list PySem.F.slot_list_extend PySem.F.type_list_extend mt_extend hv ha hbase hfew hline hs hplain) fun _ _ _ q => extend_reads q
theorem mv_pop (hv : PE X (.Name x px) (tVar i)) (hbase : attributeBase (.Name x px) "pop" X.env (eval (.Name x px) X.env) = eval (.Name x px) X.env := by rfl) (hline : (apos.endLine == cpos.line) = true := by rfl) :
    PE X (.Call (.Attribute (.Name x px) "pop" apos) [] [] cpos) (tM (ux X) (xPop i)) := pe_mono (pe_bm0 PySem.F.plainAttrs_list PySem.F.slot_list_pop PySem.F.type_list_pop mt_pop hv hbase hline) fun _ _ _ q => pop_reads q
end

/-! ### x[i] = v -/
theorem RpL.setAny {U : Wd} {F H : Hp} : ∀ {vs : List V} {ds : List D} {as : List Addr} {j : Nat} {v : V} {d : D} {bs : List Addr}, RpL U F H vs ds as → j < ds.length → Rp U F H v d bs → ∃ a0 rest as', as.Perm (a0 ++ rest) ∧ RpL U F H (vs.set j v) (ds.set j d) as' ∧ as'.Perm (bs ++ rest)
  | _, _, _, j, v, d, bs, .nil, h, w => by simp at h
  | _, _, _, 0, v, d, bs, .cons (as := a1) (bs := a2) w0 t, h, w => ⟨a1, a2, bs ++ a2, List.Perm.refl _, .cons w t, List.Perm.refl _⟩
  | _, _, _, j + 1, v, d, bs, .cons (as := a1) (bs := a2) w0 t, h, w => by
    obtain ⟨a0, rest, as', p, l, p'⟩ := RpL.setAny (j := j) t (by simpa using h) w
    refine ⟨a0, a1 ++ rest, a1 ++ as', ?_, .cons w0 l, ?_⟩
    · refine (p.append_left a1).trans ?_
      rw [← List.append_assoc, ← List.append_assoc]
      exact List.perm_append_comm.append_right rest
    · refine (p'.append_left a1).trans ?_
      rw [← List.append_assoc, ← List.append_assoc]
      exact List.perm_append_comm.append_right rest
def gIx (i : Nat) (mi : Ox) : Gm := fun d E => match lstAt E i with
  | some _ => match mi E with
    | some (h, E1) => match dr E1 h, lstAt E1 i with
      | some (.int k), some ds => match ixN ds.length k with
        | some j => some (E1.set i (some (.lst true (ds.set j d))))
        | none => none
      | _, _ => none
    | none => none
  | none => none
theorem gIx_reads {U : Wd} {pin : Pn} {i : Nat} {mi : Ox} {v : V} {σ : Sl} {H : Hp} {Q : Sl → Hp → Prop} (q : tG U pin (gIx i mi) v σ H Q) : gSub (tVar i) (tO U mi) rSetL v σ H Q := by
  obtain ⟨E, F, bs, as, d, E', g, rE, w, e, q⟩ := q
  unfold gIx at e
  split at e
  · rename_i ds0 e0
    split at e
    · rename_i h E1 e1
      split at e
      · rename_i k ds e3 e2
        split at e
        · rename_i j ej
          cases e
          obtain ⟨a0, _, _, _, hv, _, _, _, _⟩ := rE.list (lstAt_eq e0)
          refine ⟨.ref a0, hv, E, F, as, h, E1, g.sub (fun b z => List.mem_append_right _ z) (List.nodup_append.mp g.nd).2.1, rE, e1, fun x F1 H1 b1 as1 s1 r1 w1 => ?_⟩
          obtain ⟨c, w1⟩ := w1.now r1 e3
          obtain ⟨rfl, _⟩ := rp_int w1
          obtain ⟨a, us, xs, rest, h1, h2, l, p, r2⟩ := r1.list (lstAt_eq e2)
          rw [hv] at h1
          cases h1
          have hi := get_lt (lstAt_eq e2)
          have hj : j < ds.length := (ixN_seq ej).2.1
          have s0 : Step F H (bs ++ as) F H (bs ++ as) := Step.refl g
          have s2 : Step F H (bs ++ as) F1 H1 (bs ++ as1) := s0.seq s1.right
          have w' : Rp U F1 H1 v d bs := w.mono s1.ext (Step.wait s0 s1.right)
          obtain ⟨c0, crest, xs', pc, l', pc'⟩ := l.setAny hj w'
          have p2 : (bs ++ as1).Perm (c0 ++ (a0 :: (xs' ++ rest))) := by
            refine (p.append_left bs).trans ?_
            refine List.perm_middle.trans ?_
            refine List.Perm.trans (List.Perm.cons a0 ?_) (List.perm_middle (a := a0) (l₁ := c0) (l₂ := xs' ++ rest)).symm
            refine List.Perm.trans (((pc.append_right rest)).append_left bs) ?_
            refine List.Perm.trans (l₂ := c0 ++ ((bs ++ crest) ++ rest)) ?_ ((pc'.symm.append_right rest).append_left c0)
            rw [List.append_assoc c0, ← List.append_assoc bs, List.append_assoc bs crest, ← List.append_assoc c0]
            exact List.perm_append_comm.append_right _
          have s3 := s2.perm p2
          have s4 := s3.right
          obtain ⟨t, r3, _⟩ := write_list (ws := []) (us' := us.set j v) (ds' := ds.set j d) hi s4.good hv l' r2
          refine ⟨a0, us, k, j, rfl, rfl, h2, by rw [l.len]; exact ej, ?_⟩
          exact q σ F1 _ _ (s4.trans t) r3 (SameAt.refl _ _)
        · cases e
      · cases e
    · cases e
  · cases e
section
variable [LE] [WC] {X : Cx} {ei : Expr} {x : Str} {px pos : Pos} {i : Nat} {pin : Pn} {mi : Ox}
theorem mg_ix (hv : PE X (.Name x px) (tVar i)) (hi : PE X ei (tO (ux X) mi))
    (ha : ∀ v, assign (.Subscript (.Name x px) ei pos) X.env v = (do
      let ov ← holding [v] (eval (.Name x px) X.env)
      let iv ← holding [v, ov] (eval ei X.env)
      standAt pos
      holding [v, ov, iv] (setItem ov iv v)
      release [v, ov, iv] []) := by intro _; rfl) : PG X (.Subscript (.Name x px) ei pos) (tG (ux X) pin (gIx i mi)) :=
  ⟨fun pins s σ H v u Q I r q => (pg_sub hv hi set_list ha).run pins s σ H v u Q I r (gIx_reads q)⟩
end

/-! ### repr -/
section
variable {K : PySem.W.Frag} {H : Hp}
mutual
theorem Dp.noDict : ∀ {v : V} {d : PyData}, Dp K H v d → d.hasDict = false
  | _, _, .non => by simp only [PyData.hasDict]
  | _, _, .bl _ => by simp only [PyData.hasDict]
  | _, _, .int _ => by simp only [PyData.hasDict]
  | _, _, .str _ => by simp only [PyData.hasDict]
  | _, _, .lst _ l => by
    simp only [PyData.hasDict]
    exact DpAll.noDict l
  | _, _, .tup _ l => by
    simp only [PyData.hasDict]
    exact DpAll.noDict l
theorem DpAll.noDict : ∀ {vs : List V} {ds : List PyData}, DpAll K H vs ds → PyData.hasDictAll ds = false
  | _, _, .nil => by simp only [PyData.hasDictAll]
  | _, _, .cons h t => by simp only [PyData.hasDictAll, Dp.noDict h, DpAll.noDict t, Bool.or_self]
end
end
def rRepr (K : PySem.W.Frag) : List V → Hp → VK → Prop := fun xs H Q => ∃ x d, xs = [x] ∧ Dp K H x d ∧ d.showable = true ∧ d.depth ≤ 60 ∧ d.shown.length ≤ sizeLine ∧ Q (.str d.shown) H
theorem call_repr {X : Cx} {k : Nat} (hr : Room k X.A) (gd : X.A.guards = some []) : CallR X (.builtin "repr") (rRepr X.K) := by
  intro pins s σ H xs us Q I r h
  obtain ⟨x, d, rfl, hd, sh, dep, sz, q⟩ := h
  obtain ⟨u, rfl, ru⟩ : ∃ u, us = [u] ∧ RelV x u := by
    cases r with
    | cons a b =>
      cases b
      exact ⟨_, rfl, a⟩
  obtain ⟨as, rd⟩ := Dp.reads I d x u hd ru
  have out : ∀ (h' : Heap) (t : Tok) (tk : Nat), (∀ b o, s.heap.get? b = some o → h'.get? b = some o) → EP X pins σ Q (.str d.shown t) { s with heap := h', toks := tk } := fun h' t tk kk => ⟨.str d.shown, H, I.kept kk, ⟨t, rfl⟩, q⟩
  have here : ∀ (t : Tok) (tk : Nat), EP X pins σ Q (.str d.shown t) { s with toks := tk } := fun t tk => out s.heap t tk fun _ _ z => z
  cases hd with
  | non =>
    cases ru
    simp only [PyData.shown] at here
    exact PySem.P.repr_of_none (here _ _)
  | bl b =>
    cases ru
    simp only [PyData.shown] at here
    exact PySem.P.repr_of_bool (here _ _)
  | int i =>
    obtain ⟨t, rfl⟩ := ru
    simp only [PyData.shown] at here
    simp only [PyData.showable, decide_eq_true_eq] at sh
    exact PySem.P.repr_of_int sh (here _ _)
  | str z =>
    obtain ⟨t, rfl⟩ := ru
    simp only [PyData.shown] at here sz
    exact PySem.P.repr_of_str (here _ _) sz
  | @lst a vs ds hl l =>
    cases ru
    have un := hr.un
    exact repr_of_reads' rd sh (PyData.noDict_hsm (Dp.noDict (Dp.lst hl l))) gd (by omega) (fun _ _ z => z) out sz
  | @tup a vs ds hl l =>
    cases ru
    have un := hr.un
    exact repr_of_reads' rd sh (PyData.noDict_hsm (Dp.noDict (Dp.tup hl l))) gd (by omega) (fun _ _ z => z) out sz
def okShow (d : D) : Bool := d.plain && d.toP.showable && decide (d.toP.depth ≤ 60) && decide (d.toP.shown.length ≤ sizeLine)
def reprD : List D → Option D
  | [d] => if okShow d = true then some (.str d.toP.shown) else none
  | _ => none
theorem ok_repr {U : Wd} : OkN U (rRepr U.K) reprD := fun F H xs ds d Q g w0 e k => by
  unfold reprD at e
  split at e
  · split at e
    · rename_i hs
      cases e
      obtain ⟨v, c, rfl, w⟩ := p1 w0
      unfold okShow at hs
      simp only [Bool.and_eq_true, decide_eq_true_eq] at hs
      obtain ⟨⟨⟨h1, h2⟩, h3⟩, h4⟩ := hs
      exact ⟨v, _, rfl, w.dp g.le h1, h2, h3, h4, same_ g k (.str _)⟩
    · cases e
  · cases e

/-! ### a < b < c -/
def chT (f f' : D → D → Option D) (a b c : Ox) : Ex := fun E => match a E with
  | some (h1, E1) => match b E1 with
    | some (h2, E2) => match dr E2 h1, dr E2 h2 with
      | some d1, some d2 => match f d1 d2 with
        | some (.bl true) => match c E2 with
          | some (h3, E3) => match dr E3 h2, dr E3 h3 with
            | some d2', some d3 => match f' d2' d3 with
              | some d => some (d, E3)
              | none => none
            | _, _ => none
          | none => none
        | some (.bl false) => some (.bl false, E2)
        | _ => none
      | _, _ => none
    | none => none
  | none => none
theorem chain_reads {U : Wd} {r r' : R2} {f f' : D → D → Option D} {a b c : Ox} (ok : Ok2 U r f) (ok' : Ok2 U r' f') {σ : Sl} {H : Hp} {Q : VK} (q : tM U (chT f f' a b c) σ H Q) : tChain r r' (tO U a) (tO U b) (tO U c) σ H Q := by
  obtain ⟨E, F, as, d, E', g, rE, e, q⟩ := q
  unfold chT at e
  split at e
  · rename_i h1 E1 e1
    split at e
    · rename_i h2 E2 e2
      split at e
      · rename_i d1 d2 e3 e4
        split at e
        · rename_i e5
          split at e
          · rename_i h3 E3 e6
            split at e
            · rename_i d2' d3 e7 e8
              split at e
              · rename_i dd e9
                cases e
                refine seq2 (R := fun x y H2 => r x y H2 fun z H3 => ∃ k, z = .bl k ∧ (if k = true then tO U c σ H3 fun w' H4 => r' y w' H4 Q else Q (.bl false) H3)) g rE e1 e2 fun x y F2 H2 c1 c2 as2 s r2 q1 q2 => ?_
                obtain ⟨z1, w1⟩ := q1.now r2 e3
                obtain ⟨z2, w2⟩ := q2.now r2 e4
                refine ok F2 H2 x y d1 d2 _ z1 z2 _ s.good.zero w1 w2 e5 fun v F3 H3 bs t w => ?_
                obtain ⟨rfl, rfl⟩ := rp_bl w
                refine ⟨true, rfl, ?_⟩
                rw [if_pos rfl]
                have t2 : Step F2 H2 (c2 ++ as2) F3 H3 ((c2 ++ as2) ++ []) := t.frame s.right.good
                rw [List.append_nil] at t2
                have s3 : Step F H as F3 H3 (c2 ++ as2) := s.right.trans t2
                have r3 : REnv U F3 H3 σ E2 as2 := r2.mono t.ext fun a z => t.kept (s.right.right.good.pl a z) (fun q => nomatch q)
                have q3 : RpH U F3 H3 σ y h2 c2 := q2.mono t.ext fun a z => t.kept (s.right.good.pl a (List.mem_append_left _ z)) (fun q => nomatch q)
                refine ⟨E2, F3, as2, h3, E', s3.right.good, r3, e6, fun u F4 H4 c3 as4 s4 r4 q4 => ?_⟩
                obtain ⟨z3, w3⟩ := (q3.mono s4.ext (Step.wait s3 s4)).now r4 e7
                obtain ⟨z4, w4⟩ := q4.now r4 e8
                refine ok' F4 H4 y u d2' d3 d z3 z4 Q s4.good.zero w3 w4 e9 fun v F' H' bs t w => ?_
                obtain ⟨s5, r5⟩ := fin (s3.right.trans s4.right) r4 t
                exact q v F' H' bs as4 s5 r5 w
              · cases e
            · cases e
          · cases e
        · rename_i e5
          cases e
          refine seq2 (R := fun x y H2 => r x y H2 fun z H3 => ∃ k, z = .bl k ∧ (if k = true then tO U c σ H3 fun w' H4 => r' y w' H4 Q else Q (.bl false) H3)) g rE e1 e2 fun x y F2 H2 c1 c2 as2 s r2 q1 q2 => ?_
          obtain ⟨z1, w1⟩ := q1.now r2 e3
          obtain ⟨z2, w2⟩ := q2.now r2 e4
          refine ok F2 H2 x y d1 d2 _ z1 z2 _ s.good.zero w1 w2 e5 fun v F3 H3 bs t w => ?_
          obtain ⟨rfl, rfl⟩ := rp_bl w
          refine ⟨false, rfl, ?_⟩
          rw [if_neg Bool.false_ne_true]
          obtain ⟨s5, r5⟩ := fin s.right.right r2 t
          exact q _ F3 H3 [] as2 s5 r5 (.bl false)
        · cases e
      · cases e
    · cases e
  · cases e
section
variable [LE] [WC] {X : Cx} {a b c : Expr} {ma mb mc : Ox} {r r' : R2} {f f' : D → D → Option D} {op op' : CmpOp} {pos : Pos}
theorem mv_chain (ho : OpR X (compareOp op) r) (ho' : OpR X (compareOp op') r') (ok : Ok2 (ux X) r f) (ok' : Ok2 (ux X) r' f') (ha : PE X a (tO (ux X) ma)) (hb : PE X b (tO (ux X) mb)) (hc : PE X c (tO (ux X) mc)) (hm : lastMarks [op, op'] [b, c] = false := by with_unfolding_all rfl) :
    PE X (.Compare a [op, op'] [b, c] pos) (tM (ux X) (chT f f' ma mb mc)) := pe_mono (pe_chain ho ho' ha hb hc hm) fun _ _ _ q => chain_reads ok ok' q
theorem mt_chain (ho : OpR X (compareOp op) r) (ho' : OpR X (compareOp op') r') (ok : Ok2 (ux X) r f) (ok' : Ok2 (ux X) r' f') (ha : PE X a (tO (ux X) ma)) (hb : PE X b (tO (ux X) mb)) (hc : PE X c (tO (ux X) mc)) (hm : lastMarks [op, op'] [b, c] = false := by with_unfolding_all rfl) :
    PT X (.Compare a [op, op'] [b, c] pos) (tT (ux X) (toB (chT f f' ma mb mc))) := pt_mono (pt_chain ho ho' ha hb hc hm) fun _ _ _ q => chain_reads ok ok' (toB_reads q)
end
end MP

/-! Mirror layer, part 9: sorting, what repr of a display needs, an item taken out, calls by name. -/
namespace MP
open PySem PySem.Spec L2

/-! ### sorting by insertion -/
section
variable {α β : Type} {lt : α → α → Bool}
def insB (lt : α → α → Bool) (x : α) : List α → List α
  | [] => [x]
  | y :: l => if lt y x = true then y :: insB lt x l else x :: y :: l
def isortB (lt : α → α → Bool) : List α → List α
  | [] => []
  | x :: l => insB lt x (isortB lt l)
theorem insB_perm (x : α) : ∀ l : List α, (insB lt x l).Perm (x :: l)
  | [] => List.Perm.refl _
  | y :: l => by
    unfold insB
    split
    · exact ((insB_perm x l).cons y).trans (List.Perm.swap x y l)
    · exact List.Perm.refl _
theorem isortB_perm : ∀ l : List α, (isortB lt l).Perm l
  | [] => List.Perm.refl _
  | x :: l => (insB_perm x _).trans ((isortB_perm l).cons x)
theorem insB_srtd (O : SrtO.Swo lt) (x : α) : ∀ {l : List α}, SrtO.Srtd lt l → SrtO.Srtd lt (insB lt x l)
  | [], _ => SrtO.srtd_one x
  | y :: l, h => by
    obtain ⟨h1, h2⟩ := List.pairwise_cons.mp h
    unfold insB
    split
    · rename_i hy
      refine List.pairwise_cons.mpr ⟨fun z hz => ?_, insB_srtd O x h2⟩
      rcases List.mem_cons.mp ((insB_perm x l).mem_iff.mp hz) with e | hz
      · rw [e]
        exact O.asym y x hy
      · exact h1 z hz
    · rename_i hy
      have hy' : lt y x = false := by simpa using hy
      refine List.pairwise_cons.mpr ⟨fun z hz => ?_, h⟩
      rcases List.mem_cons.mp hz with e | hz
      · rw [e]
        exact hy'
      · exact O.tr x y z hy' (h1 z hz)
theorem isortB_srtd (O : SrtO.Swo lt) : ∀ l : List α, SrtO.Srtd lt (isortB lt l)
  | [] => List.Pairwise.nil
  | x :: l => insB_srtd O x (isortB_srtd O l)
theorem insB_cls (O : SrtO.Swo lt) (x w : α) : ∀ l : List α, (insB lt x l).filter (SrtO.eqv lt w) = (x :: l).filter (SrtO.eqv lt w)
  | [] => rfl
  | y :: l => by
    unfold insB
    split
    · rename_i hy
      have ih := insB_cls O x w l
      rcases SrtO.bcase (SrtO.eqv lt w y) with e | e
      · rcases SrtO.bcase (SrtO.eqv lt w x) with e2 | e2
        · obtain ⟨p1, p2⟩ := SrtO.eqv_iff.mp e
          obtain ⟨q1, q2⟩ := SrtO.eqv_iff.mp e2
          rw [O.tr x w y q1 p2] at hy
          cases hy
        · rw [List.filter_cons, e, List.filter_cons, e2, List.filter_cons, e, ih, List.filter_cons, e2]
          rfl
      · rw [List.filter_cons, e, ih, List.filter_cons, List.filter_cons, List.filter_cons, e]
        rfl
    · rfl
theorem isortB_stb (O : SrtO.Swo lt) : ∀ l : List α, SrtO.Stb lt (isortB lt l) l
  | [] => SrtO.Stb.refl []
  | x :: l => ⟨isortB_perm _, fun w => by
    show (insB lt x (isortB lt l)).filter _ = _
    rw [insB_cls O, List.filter_cons, List.filter_cons, (isortB_stb O l).cls w]⟩
theorem insB_rel {la : α → α → Bool} {lb : β → β → Bool} {R : α → β → Prop} (h : ∀ a b a' b', R a b → R a' b' → la a a' = lb b b') {a : α} {b : β} (r : R a b) : ∀ {as : List α} {bs : List β}, Paired R as bs → Paired R (insB la a as) (insB lb b bs)
  | _, _, .nil => .cons r .nil
  | _, _, .cons (a := y) (b := z) q t => by
    unfold insB
    rw [h _ _ _ _ q r]
    split
    · exact .cons q (insB_rel h r t)
    · exact .cons r (.cons q t)
theorem isortB_rel {la : α → α → Bool} {lb : β → β → Bool} {R : α → β → Prop} (h : ∀ a b a' b', R a b → R a' b' → la a a' = lb b b') : ∀ {as : List α} {bs : List β}, Paired R as bs → Paired R (isortB la as) (isortB lb bs)
  | _, _, .nil => .nil
  | _, _, .cons q t => insB_rel h q (isortB_rel h t)
end

/-! ### rows of ints and texts, by place -/
abbrev Ky := List (Int ⊕ List Nat)
def kLt (a b : Ky) : Bool := PyProof.Rows.lexLt PyProof.Rows.itemOrd a b
theorem kLt_swo {α : Type} (k : α → Ky) : SrtO.Swo fun x y => kLt (k x) (k y) := by
  refine ⟨fun x y h => ?_, fun x y z h1 h2 => ?_⟩
  · rcases SrtO.bcase (kLt (k y) (k x)) with e | e
    · have := (PyProof.Rows.listOrd PyProof.Rows.itemOrd).trans (k x) (k y) (k x) h e
      rw [(PyProof.Rows.listOrd PyProof.Rows.itemOrd).irrefl] at this
      cases this
    · exact e
  · rcases SrtO.bcase (kLt (k z) (k x)) with e | e
    · rcases (PyProof.Rows.listOrd PyProof.Rows.itemOrd).negTrans (k z) (k y) (k x) e with q | q
      · exact absurd (q.symm.trans h2) (by decide)
      · exact absurd (q.symm.trans h1) (by decide)
    · exact e
def itemsV (sh : Nat → Bool) : Nat → List V → Option Ky
  | _, [] => some []
  | i, .int n :: r => if sh i = true then none else (itemsV sh (i + 1) r).map (Sum.inl n :: ·)
  | i, .str x :: r => if sh i = true then (itemsV sh (i + 1) r).map (Sum.inr x.cps.toList :: ·) else none
  | _, _ :: _ => none
theorem itemsV_tup {sh : Nat → Bool} : ∀ {vs : List V} {us : List Value} {i : Nat} {l : Ky}, Vals vs us → itemsV sh i vs = some l → PyProof.Rows.tupItems sh i us = some l
  | [], _, i, l, .nil, h => h
  | .int n :: r, _, i, l, .cons q t, h => by
    obtain ⟨tk, rfl⟩ := q
    unfold itemsV at h
    unfold PyProof.Rows.tupItems
    split at h
    · cases h
    · rename_i hs
      rw [if_neg hs]
      cases e : itemsV sh (i + 1) r with
      | none => rw [e] at h; cases h
      | some l' =>
        rw [e] at h
        rw [itemsV_tup t e]
        exact h
  | .str x :: r, _, i, l, .cons q t, h => by
    obtain ⟨tk, rfl⟩ := q
    unfold itemsV at h
    unfold PyProof.Rows.tupItems
    split at h
    · rename_i hs
      rw [if_pos hs]
      cases e : itemsV sh (i + 1) r with
      | none => rw [e] at h; cases h
      | some l' =>
        rw [e] at h
        rw [itemsV_tup t e]
        exact h
    · cases h
  | .non :: r, _, i, l, _, h => by simp [itemsV] at h
  | .bl _ :: r, _, i, l, _, h => by simp [itemsV] at h
  | .byt _ :: r, _, i, l, _, h => by simp [itemsV] at h
  | .flt _ :: r, _, i, l, _, h => by simp [itemsV] at h
  | .ref _ :: r, _, i, l, _, h => by simp [itemsV] at h
  | .ty _ :: r, _, i, l, _, h => by simp [itemsV] at h
def sortBy (xs : List V) (ls : List Ky) : List V := (isortB (fun p q => kLt p.2 q.2) (xs.zip ls)).map (·.1)
/-- a row with its key -/
def RowK (K : PySem.W.Frag) (H : Hp) (sh : Nat → Bool) (x : V) (l : Ky) : Prop := ∃ t is, x = .ref t ∧ SqT K H t is ∧ is ≠ [] ∧ itemsV sh 0 is = some l
def rSortT (K : PySem.W.Frag) : List V → Hp → VK → Prop := fun vs H Q => ∃ (a : Addr) (xs : List V) (ls : List Ky) (sh : Nat → Bool), vs = [.ref a] ∧ SqL K H a xs ∧ Paired (RowK K H sh) xs ls ∧
  ∀ p, H p = none → Q (.ref p) (upd H p (.lst (sortBy xs ls)))
/-- a tuple of the heap with its key -/
def TupK (h : Heap) (sh : Nat → Bool) (v : Value) (l : Ky) : Prop := ∃ t us, v = .ref t ∧ PyProof.Rows.IsTup h t us ∧ us.toList ≠ [] ∧ PyProof.Rows.tupItems sh 0 us.toList = some l
theorem TupK.key {h : Heap} {sh : Nat → Bool} {v : Value} {l : Ky} (k : TupK h sh v l) : PyProof.Rows.tupKey h sh v = some l := by
  obtain ⟨t, us, rfl, ⟨o, ho, hc, n, hd⟩, ne, e⟩ := k
  simp only [PyProof.Rows.tupKey, ho, hd]
  exact e
theorem TupK.keeps {h h' : Heap} {sh : Nat → Bool} {v : Value} {l : Ky} (k : TupK h sh v l) (kp : ∀ b o, h.get? b = some o → h'.get? b = some o) : TupK h' sh v l := by
  obtain ⟨t, us, e, it, r⟩ := k
  exact ⟨t, us, e, it.keeps kp, r⟩
theorem paired_mem {α β : Type} {R : α → β → Prop} : ∀ {as : List α} {bs : List β}, Paired R as bs → ∀ a ∈ as, ∃ b, R a b
  | _, _, .nil, a, h => nomatch h
  | _, _, .cons r t, a, h => by
    rcases List.mem_cons.mp h with e | h
    · subst e
      exact ⟨_, r⟩
    · exact paired_mem t a h
theorem tups_of {h : Heap} {sh : Nat → Bool} : ∀ {vs : List Value}, (∀ v ∈ vs, ∃ l, TupK h sh v l) → ∃ fs, PyProof.Rows.TupsOf h sh vs fs ∧ fs.length = vs.length
  | [], _ => ⟨[], .nil, rfl⟩
  | v :: vs, k => by
    obtain ⟨fs, t, hl⟩ := tups_of fun u hu => k u (List.mem_cons_of_mem _ hu)
    obtain ⟨l, a, us, e, ⟨o, ho, hc, n, hd⟩, ne, it⟩ := k v List.mem_cons_self
    match hu : us.toList, ne with
    | f :: r, _ =>
      have h0 : us[0]? = some f := by
        rw [← Array.getElem?_toList, hu]
        rfl
      refine ⟨f :: fs, .cons ⟨a, o, us, n, e, ho, hc, hd, h0, fun hs => ?_, fun hs => ?_⟩ t, by rw [List.length_cons, List.length_cons, hl]⟩
      · rw [hu] at it
        obtain ⟨n, t, _, z, _⟩ := PyProof.Rows.tupItems_int hs it
        exact ⟨n, t, z⟩
      · rw [hu] at it
        obtain ⟨n, t, _, z, _⟩ := PyProof.Rows.tupItems_str hs it
        exact ⟨n, t, z⟩
section
variable [LE] [WC] {X : Cx}
theorem rowK_tup {pins : List (Addr × Obj)} {σ : St} {H : Hp} {s : Shared} {sh : Nat → Bool} (I : Inv X pins σ H s) : ∀ {xs : List V} {ls : List Ky} {us : List Value}, Paired (RowK X.K H sh) xs ls → Vals xs us → Paired (fun u l => TupK s.heap sh u l) us ls
  | _, _, _, .nil, .nil => .nil
  | _, _, _, .cons r t, .cons q w => by
    obtain ⟨t0, is, rfl, hq, ne, e⟩ := r
    obtain rfl := q
    obtain ⟨its, rv, it, _⟩ := I.tuple hq
    refine .cons ⟨t0, its.toArray, rfl, it, ?_, by simpa using itemsV_tup rv e⟩ (rowK_tup I t w)
    intro z
    have z2 : its = [] := by simpa using z
    subst z2
    cases rv
    exact ne rfl
theorem pair_up {R : Value → Ky → Prop} : ∀ {xs : List V} {ls : List Ky} {us : List Value}, Paired R us ls → Vals xs us → Paired (fun (p : V × Ky) u => RelV p.1 u ∧ R u p.2) (xs.zip ls) us
  | _, _, _, .nil, .nil => .nil
  | _, _, _, .cons r t, .cons q w => .cons ⟨q, r⟩ (pair_up t w)
theorem pair_fst {R : Value → Ky → Prop} : ∀ {ps : List (V × Ky)} {us : List Value}, Paired (fun (p : V × Ky) u => RelV p.1 u ∧ R u p.2) ps us → Vals (ps.map (·.1)) us
  | _, _, .nil => .nil
  | _, _, .cons r t => .cons r.1 (pair_fst t)
theorem cr_sortT : CallR X (.builtin "sorted") (rSortT X.K) := by
  intro pins s σ H vs us Q I r h
  obtain ⟨a, xs, ls, sh, rfl, hs, hk, q⟩ := h
  obtain ⟨its, rv, hl, hz⟩ := I.list hs
  rw [Vals.ref1 r]
  have tk := rowK_tup I hk rv
  have tm : ∀ v ∈ its, ∃ l, TupK s.heap sh v l := fun v hv => paired_mem tk v hv
  let kv : Value → Ky := fun v => (PyProof.Rows.tupKey s.heap sh v).getD []
  have O : SrtO.Swo fun v u => kLt (kv v) (kv u) := kLt_swo kv
  refine SrtO.sorted_ord (ltv := fun v u => kLt (kv v) (kv u)) O hl.isList (by rw [← rv.length]; exact hz) (fun h2 h₁ a' _ kk h' keep => ?_) fun out h1 h2 => ?_
  · have kp : ∀ b o, s.heap.get? b = some o → h'.get? b = some o := fun b o e => keep b o (kk b o e).1 (kk b o e).2
    refine ⟨PyProof.Rows.tuples' true, fun Q E hq => ?_, fun p q hp hq => ?_⟩
    · obtain ⟨fs, t, hl⟩ := tups_of (h := h') fun v hv => (let ⟨l, k⟩ := tm v hv; ⟨l, k.keeps kp⟩)
      exact PyProof.Rows.tup_kind (s := { s with heap := h' }) (by omega) t hq
    · obtain ⟨l1, k1⟩ := tm _ hp
      obtain ⟨l2, k2⟩ := tm _ hq
      have e1 : kv p.1 = l1 := by
        show (PyProof.Rows.tupKey s.heap sh p.1).getD [] = l1
        rw [k1.key]
        rfl
      have e2 : kv q.1 = l2 := by
        show (PyProof.Rows.tupKey s.heap sh q.1).getD [] = l2
        rw [k2.key]
        rfl
      obtain ⟨t1, us1, z1, ⟨o1, ho1, _, n1, hd1⟩, _, it1⟩ := k1
      obtain ⟨t2, us2, z2, ⟨o2, ho2, _, n2, hd2⟩, _, it2⟩ := k2
      show wpAny (model X.prog X.w) _ (PyProof.Rows.keyLt' (PyProof.Rows.tuples' true) p.1 q.1) (fun r s' => s' = _ ∧ r = kLt (kv p.1) (kv q.1)) (fun _ _ => False) _
      rw [e1, e2, z1, z2]
      exact PySem.W.kat_lt (kp _ _ ho1) hd1 (kp _ _ ho2) hd2 (PyProof.Rows.tup_lex us1.toList us2.toList 0 l1 l2 it1 it2 (by rw [Array.length_toList, Array.length_toList]) ⟨rfl, rfl⟩)
  · have ho : out = isortB (fun v u => kLt (kv v) (kv u)) its := SrtO.stb_uniq O h1 (isortB_srtd O its) (h2.trans ⟨(isortB_stb O its).perm.symm, fun w => ((isortB_stb O its).cls w).symm⟩)
    obtain ⟨ep, he'⟩ := PyProof.Rows.sortedAll_at s.heap its out.toArray
    have rel : Vals (sortBy xs ls) out := by
      rw [ho]
      refine pair_fst (R := fun u l => TupK s.heap sh u l) (isortB_rel (fun p u p' u' r1 r2 => ?_) (pair_up tk rv))
      show kLt p.2 p'.2 = kLt ((PyProof.Rows.tupKey s.heap sh u).getD []) ((PyProof.Rows.tupKey s.heap sh u').getD [])
      rw [r1.2.key, r2.2.key]
      rfl
    have hlen : (sortBy xs ls).length ≤ sizeLine := by
      rw [rel.length, h2.perm.length_eq, ← rv.length]
      exact hz
    exact ⟨.ref _, upd H (s.heap.objs.size + 1) (.lst (sortBy xs ls)), I.laid (t' := s.toks) (fun _ _ => PyProof.Rows.sortedAll_old) (Nat.le_succ _) ⟨hlen, out, ep, rel, he'⟩, rfl, q _ (I.hok.fresh (Nat.le_succ _))⟩
end

/-! ### sorted of tuples of ints and texts -/
def itemKD : D → Int ⊕ List Nat
  | .int i => .inl i
  | .str s => .inr s.cps.toList
  | _ => .inl 0
def keyTD : D → Ky
  | .tup _ xs => xs.map itemKD
  | _ => []
def shOk (sh : Nat → Bool) : Nat → List D → Bool
  | _, [] => true
  | i, .int _ :: r => !sh i && shOk sh (i + 1) r
  | i, .str _ :: r => sh i && shOk sh (i + 1) r
  | _, _ :: _ => false
def isStrAt (xs : List D) (i : Nat) : Bool := match xs[i]? with
  | some (.str _) => true
  | _ => false
def tupShape : List D → Nat → Bool
  | .tup _ xs :: _ => isStrAt xs
  | _ => fun _ => false
def okTup (sh : Nat → Bool) : D → Bool
  | .tup false xs => !xs.isEmpty && shOk sh 0 xs
  | _ => false
def ltTD (d e : D) : Bool := kLt (keyTD d) (keyTD e)
def sortTD : List D → Option D
  | [.lst _ ds] => if ds.all (okTup (tupShape ds)) = true then some (.lst true (isortB ltTD ds)) else none
  | _ => none
section
variable {U : Wd} {F H : Hp}
theorem shOk_items {sh : Nat → Bool} : ∀ {vs : List V} {ds : List D} {i : Nat}, RpL U F H vs ds [] → shOk sh i ds = true → itemsV sh i vs = some (ds.map itemKD) ∧ frozenL ds = true
  | [], ds, i, l, h => by
    cases l
    exact ⟨rfl, rfl⟩
  | v :: vs, [], i, l, h => absurd l.len (by simp)
  | v :: vs, d :: ds, i, l, h => by
    obtain ⟨w, t⟩ := l.uncons0
    cases d with
    | int n =>
      obtain ⟨rfl, _⟩ := rp_int w
      simp only [shOk, Bool.and_eq_true, Bool.not_eq_true'] at h
      obtain ⟨e, f⟩ := shOk_items t h.2
      refine ⟨?_, by simp [frozenL, D.frozen, f]⟩
      show (if sh i = true then none else (itemsV sh (i + 1) vs).map (Sum.inl n :: ·)) = _
      rw [h.1, if_neg Bool.false_ne_true, e]
      rfl
    | str x =>
      obtain ⟨rfl, _⟩ := rp_str w
      simp only [shOk, Bool.and_eq_true] at h
      obtain ⟨e, f⟩ := shOk_items t h.2
      refine ⟨?_, by simp [frozenL, D.frozen, f]⟩
      show (if sh i = true then (itemsV sh (i + 1) vs).map (Sum.inr x.cps.toList :: ·) else none) = _
      rw [h.1, if_pos rfl, e]
      rfl
    | non => simp [shOk] at h
    | bl _ => simp [shOk] at h
    | scr _ => simp [shOk] at h
    | tup _ _ => simp [shOk] at h
    | lst _ _ => simp [shOk] at h
    | dct _ _ _ => simp [shOk] at h
    | lam _ => simp [shOk] at h
    | fn _ _ _ => simp [shOk] at h
theorem okTup_row {sh : Nat → Bool} {x : V} {d : D} (g : Fle F H) (w : Rp U F H x d []) (h : okTup sh d = true) : RowK U.K H sh x (keyTD d) := by
  cases d with
  | tup o xs =>
    cases o with
    | true => simp [okTup] at h
    | false =>
      simp only [okTup, Bool.and_eq_true, Bool.not_eq_true'] at h
      generalize e0 : ([] : List Addr) = z at w
      cases w with
      | @tupS a vs _ hq l =>
        obtain ⟨e, _⟩ := shOk_items l h.2
        refine ⟨a, vs, rfl, g.seqT hq, fun z => ?_, e⟩
        subst z
        cases l
        simp at h
  | non => simp [okTup] at h
  | bl _ => simp [okTup] at h
  | int _ => simp [okTup] at h
  | str _ => simp [okTup] at h
  | scr _ => simp [okTup] at h
  | lst _ _ => simp [okTup] at h
  | dct _ _ _ => simp [okTup] at h
  | lam _ => simp [okTup] at h
  | fn _ _ _ => simp [okTup] at h
theorem okTup_frozen {sh : Nat → Bool} : ∀ {ds : List D}, ds.all (okTup sh) = true → frozenL ds = true
  | [], _ => rfl
  | d :: ds, h => by
    simp only [List.all_cons, Bool.and_eq_true] at h
    rw [frozenL, okTup_frozen h.2, Bool.and_true]
    cases d with
    | tup o xs =>
      cases o with
      | true => simp [okTup] at h
      | false =>
        simp only [okTup, Bool.and_eq_true] at h
        simp only [D.frozen, Bool.not_false, Bool.true_and]
        have : ∀ {xs : List D} {i : Nat}, shOk sh i xs = true → frozenL xs = true := fun {xs} => by
          induction xs with
          | nil => intro _ _; rfl
          | cons d xs ih =>
            intro i hh
            cases d <;> simp only [shOk, Bool.and_eq_true] at hh <;> first | exact absurd hh Bool.false_ne_true | (simp only [frozenL, D.frozen, Bool.true_and]; exact ih hh.2)
        exact this h.1.2
    | non => simp [okTup] at h
    | bl _ => simp [okTup] at h
    | int _ => simp [okTup] at h
    | str _ => simp [okTup] at h
    | scr _ => simp [okTup] at h
    | lst _ _ => simp [okTup] at h
    | dct _ _ _ => simp [okTup] at h
    | lam _ => simp [okTup] at h
    | fn _ _ _ => simp [okTup] at h
theorem rows_of {sh : Nat → Bool} (g : Fle F H) : ∀ {vs : List V} {ds : List D}, RpL U F H vs ds [] → ds.all (okTup sh) = true → Paired (RowK U.K H sh) vs (ds.map keyTD)
  | [], ds, l, h => by
    cases l
    exact .nil
  | v :: vs, [], l, h => absurd l.len (by simp)
  | v :: vs, d :: ds, l, h => by
    obtain ⟨w, t⟩ := l.uncons0
    simp only [List.all_cons, Bool.and_eq_true] at h
    exact .cons (okTup_row g w h.1) (rows_of g t h.2)
theorem zip_keys : ∀ {vs : List V} {ds : List D}, RpL U F H vs ds [] → Paired (fun (p : V × Ky) d => Rp U F H p.1 d [] ∧ p.2 = keyTD d) (vs.zip (ds.map keyTD)) ds
  | [], ds, l => by
    cases l
    exact .nil
  | v :: vs, [], l => absurd l.len (by simp)
  | v :: vs, d :: ds, l => by
    obtain ⟨w, t⟩ := l.uncons0
    exact .cons ⟨w, rfl⟩ (zip_keys t)
theorem unzip_rp : ∀ {ps : List (V × Ky)} {ds : List D}, Paired (fun (p : V × Ky) d => Rp U F H p.1 d [] ∧ p.2 = keyTD d) ps ds → RpL U F H (ps.map (·.1)) ds []
  | _, _, .nil => .nil
  | _, _, .cons r t => .cons0 r.1 (unzip_rp t)
theorem ok_sortT : OkN U (rSortT U.K) sortTD := fun F H xs ds d Q g w0 e k => by
  unfold sortTD at e
  split at e
  · rename_i o es
    split at e
    · rename_i hs
      cases e
      obtain ⟨v, c, rfl, w⟩ := p1 w0
      obtain ⟨a, vs, rfl, hq, l⟩ := lst0 g w (okTup_frozen hs)
      refine ⟨a, vs, es.map keyTD, _, rfl, .of hq, rows_of g.le l hs, fun p hp => ?_⟩
      refine new_list g (unzip_rp (isortB_rel (fun p d p' d' r1 r2 => ?_) (zip_keys l))) k p hp
      show kLt p.2 p'.2 = kLt (keyTD d) (keyTD d')
      rw [r1.2, r2.2]
    · cases e
  · cases e
end

/-! ### repr([..]): the parts stay where they are -/
theorem dp_of {U : Wd} {F H : Hp} (g : Fle F H) : ∀ {vs : List V} {ds : List D}, RpP U F H vs ds → plainL ds = true → DpAll U.K H vs (toPL ds)
  | _, _, .nil, _ => .nil
  | _, _, .cons (a := v) (b := d) r t, h => by
    rw [plainL, Bool.and_eq_true] at h
    obtain ⟨c, w⟩ := r
    exact .cons (w.dp g h.1) (dp_of g t h.2)
def reprL (m : Hx) : Ex := fun E => match m E with
  | some (hs, E1) => match drL E1 hs with
    | some ds => if lineOk ds.length = true then (if okShow (.lst true ds) = true then some (.str (D.lst true ds).toP.shown, E1) else none) else none
    | none => none
  | none => none
section
variable [LE] [WC] {X : Cx} {es : List Expr} {m : Hx} {k j : Nat} {p pos lp : Pos}
theorem paired_len {α β : Type} {R : α → β → Prop} : ∀ {as : List α} {bs : List β}, Paired R as bs → as.length = bs.length
  | _, _, .nil => rfl
  | _, _, .cons _ t => by rw [List.length_cons, List.length_cons, paired_len t]
theorem mv_reprL (hr : Room k X.A) (gd : X.A.guards = some []) (hg : Gl X "repr") (hm : X.mg "repr" = none) (ha : PA X es (tH (ux X) m))
    (he : starEach [.List es lp] X.env = [(false, eval (.List es lp) X.env)] := by rfl) (hpl : (backTo pos (starEach [] X.env)).any (·.1) = false := by rfl) :
    PE X (.Call (.Name "repr" p) [.List es lp] [] pos) (tM (ux X) (reprL m)) :=
  pe_mono (pe_callB (call_repr hr gd) hg hm (by decide +kernel) (pa_cons (pe_lst ha) pa_nil he) (by decide) (by decide) he hpl) fun σ H Q q => by
    obtain ⟨E, F, as, d, E', g, r, e, q⟩ := q
    unfold reprL at e
    split at e
    · rename_i hs E1 e1
      split at e
      · rename_i ds e2
        split at e
        · rename_i e3
          split at e
          · rename_i e4
            cases e
            refine ⟨E, F, as, hs, E', g, r, e1, fun vs F1 H1 b1 as1 s1 r1 w1 => ?_⟩
            have pp := w1.now r1 e2
            refine ⟨by rw [paired_len pp]; exact of_decide_eq_true e3, fun a ha => ?_⟩
            unfold okShow at e4
            simp only [Bool.and_eq_true, decide_eq_true_eq] at e4
            obtain ⟨⟨⟨h1, h2⟩, h3⟩, h4⟩ := e4
            have t := Step.alloc (o := .lst vs) s1.good.zero ha
            obtain ⟨s2, r2⟩ := fin s1.right r1 t
            have pp2 : RpP (ux X) F1 (upd H1 a (.lst vs)) vs ds := by
              have : ∀ {vs : List V} {ds : List D}, RpP (ux X) F1 H1 vs ds → RpP (ux X) F1 (upd H1 a (.lst vs)) vs ds → True := fun _ _ => trivial
              have mono : ∀ {ws : List V} {ds : List D}, RpP (ux X) F1 H1 ws ds → RpP (ux X) F1 (upd H1 a (.lst vs)) ws ds := by
                intro ws ds h
                induction h with
                | nil => exact .nil
                | cons r t ih =>
                  obtain ⟨c, w⟩ := r
                  refine .cons ⟨c, w.mono (Fle.refl _) fun b z => upd_ne fun q => ?_⟩ ih
                  exact w.there b z (q ▸ ha)
              exact mono pp
            have pl : plainL ds = true := by simpa [D.plain] using h1
            exact ⟨.ref a, _, rfl, Dp.lst (.of upd_same) (dp_of s2.good.le pp2 pl), h2, h3, h4, q _ F1 _ [] as1 s2.right r2 (.str _)⟩
          · cases e
        · cases e
      · cases e
    · cases e
end
end MP

/-! Mirror layer, part 10: calls by name, an item taken out, the way in. -/
namespace MP
open PySem PySem.Spec L2

/-! ### arguments in another sequence -/
def pick {α : Type} (pm : List Nat) (l : List α) : List α := pm.filterMap fun i => l[i]?
theorem range_pick {α : Type} (l : List α) : (List.range l.length).filterMap (fun i => l[i]?) = l := by
  induction l with
  | nil => rfl
  | cons x l ih =>
    rw [List.length_cons, List.range_succ_eq_map, List.filterMap_cons]
    simp only [List.getElem?_cons_zero, List.filterMap_map]
    congr 1
theorem pick_perm {α : Type} {pm : List Nat} {l : List α} (h : pm.Perm (List.range l.length)) : (pick pm l).Perm l := by
  have := h.filterMap fun i => l[i]?
  rw [range_pick] at this
  exact this
theorem pick_map {α β : Type} (f : α → β) (pm : List Nat) (l : List α) : pick pm (l.map f) = (pick pm l).map f := by
  unfold pick
  rw [List.map_filterMap]
  congr 1
  funext i
  rw [List.getElem?_map]
section
variable {U : Wd} {F H : Hp} {σ : Sl}
theorem RpHL.len : ∀ {vs : List V} {hs : List Hd} {as : List Addr}, RpHL U F H σ vs hs as → vs.length = hs.length
  | _, _, _, .nil => rfl
  | _, _, _, .cons _ t => by rw [List.length_cons, List.length_cons, t.len]
theorem RpHL.rows : ∀ {vs : List V} {hs : List Hd} {as : List Addr}, RpHL U F H σ vs hs as → ∃ L : List (V × Hd × List Addr), (∀ t ∈ L, RpH U F H σ t.1 t.2.1 t.2.2) ∧ vs = L.map (·.1) ∧ hs = L.map (·.2.1) ∧ as = (L.map (·.2.2)).flatten
  | _, _, _, .nil => ⟨[], ⟨fun _ z => (nomatch z), rfl, rfl, rfl⟩⟩
  | _, _, _, .cons (v := v) (h := h) (as := as) q t => by
    obtain ⟨L, h1, h2, h3, h4⟩ := t.rows
    refine ⟨(v, h, as) :: L, fun t z => ?_, by rw [h2]; rfl, by rw [h3]; rfl, by rw [h4]; rfl⟩
    rcases List.mem_cons.mp z with e | z
    · rw [e]
      exact q
    · exact h1 t z
theorem RpHL.ofRows : ∀ {L : List (V × Hd × List Addr)}, (∀ t ∈ L, RpH U F H σ t.1 t.2.1 t.2.2) → RpHL U F H σ (L.map (·.1)) (L.map (·.2.1)) (L.map (·.2.2)).flatten
  | [], _ => .nil
  | t :: L, h => .cons (h t List.mem_cons_self) (RpHL.ofRows fun u z => h u (List.mem_cons_of_mem _ z))
theorem RpHL.pick {vs : List V} {hs : List Hd} {as : List Addr} {pm : List Nat} (q : RpHL U F H σ vs hs as) (h : pm.Perm (List.range hs.length)) : ∃ bs, RpHL U F H σ (pick pm vs) (pick pm hs) bs ∧ as.Perm bs := by
  obtain ⟨L, h1, rfl, rfl, rfl⟩ := q.rows
  have p := pick_perm (l := L) (by simpa using h)
  rw [pick_map, pick_map]
  exact ⟨_, RpHL.ofRows fun t z => h1 t (p.mem_iff.mp z), ((p.map (·.2.2)).flatten).symm⟩
theorem RpHL.app {ws : List V} {ks : List Hd} {bs : List Addr} (k : RpHL U F H σ ws ks bs) : ∀ {vs : List V} {hs : List Hd} {as : List Addr}, RpHL U F H σ vs hs as → RpHL U F H σ (vs ++ ws) (hs ++ ks) (as ++ bs)
  | _, _, _, .nil => k
  | _, _, _, .cons q t => by
    rw [List.append_assoc]
    exact .cons q (k.app t)
end
/-- n places, m names, put in the sequence pm -/
def hPick (n m : Nat) (pm : List Nat) (a b : Hx) : Hx := fun E => match a E with
  | some (hs, E1) => match b E1 with
    | some (ks, E2) => if (hs.length == n && ks.length == m && pm.isPerm (List.range (hs ++ ks).length)) = true then some (pick pm (hs ++ ks), E2) else none
    | none => none
  | none => none
theorem hPick_reads {U : Wd} {n m : Nat} {pm : List Nat} {a b : Hx} {σ : Sl} {H : Hp} {Q : List V → Hp → Prop} (q : tH U (hPick n m pm a b) σ H Q) :
    tH U a σ H fun vs H1 => tH U b σ H1 fun zs H2 => vs.length = n ∧ zs.length = m ∧ Q (pick pm (vs ++ zs)) H2 := by
  obtain ⟨E, F, as, d, E', g, rE, e, q⟩ := q
  unfold hPick at e
  split at e
  · rename_i hs E1 e1
    split at e
    · rename_i ks E2 e2
      split at e
      · rename_i hc
        cases e
        simp only [Bool.and_eq_true, beq_iff_eq] at hc
        obtain ⟨⟨c1, c2⟩, c3⟩ := hc
        refine ⟨E, F, as, hs, E1, g, rE, e1, fun vs F1 H1 b1 as1 s1 r1 w1 => ?_⟩
        refine ⟨E1, F1, as1, ks, E', s1.right.good, r1, e2, fun zs F2 H2 b2 as2 s2 r2 w2 => ?_⟩
        have s3 : Step F H as F2 H2 (b1 ++ (b2 ++ as2)) := s1.seq s2
        have w3 : RpHL U F2 H2 σ (vs ++ zs) (hs ++ ks) (b1 ++ b2) := w2.app (w1.mono s2.ext (Step.wait s1 s2))
        obtain ⟨bs, w4, p⟩ := w3.pick (List.isPerm_iff.mp c3)
        refine ⟨w1.len.trans c1, w2.len.trans c2, q _ F2 H2 bs as2 (s3.perm ?_) r2 w4⟩
        rw [← List.append_assoc]
        exact p.append_right as2
      · cases e
    · cases e
  · cases e
/-- how names and places bind -/
def KB (K : PySem.W.Frag) (fd : FuncData) (ps ks : List Str) (n : Nat) (pm : List Nat) : Prop := ∀ (s : Shared) (us ws : List Value), K.In s.heap → us.length = n → ws.length = ks.length → BindsTo s fd ⟨us, ks.zip ws⟩ (ps.zip (pick pm (us ++ ws)))
section
variable [LE] [WC] {X : Cx} {e : Expr} {es : List Expr} {kws : List Keyword} {pos p : Pos} {k n : Nat} {f : Addr} {fd : FuncData} {ps ks : List Str} {mf : Fm} {m mk : Hx} {x : Str} {pm : List Nat}
theorem Vals.pick {vs : List V} {us : List Value} (r : Vals vs us) (pm : List Nat) : Vals (MP.pick pm vs) (MP.pick pm us) := by
  induction pm with
  | nil => exact .nil
  | cons i pm ih =>
    unfold MP.pick at ih ⊢
    rw [List.filterMap_cons, List.filterMap_cons]
    cases e : vs[i]? with
    | none =>
      have : us[i]? = none := by
        rw [List.getElem?_eq_none_iff] at e ⊢
        rw [← r.length]
        exact e
      rw [this]
      exact ih
    | some v =>
      obtain ⟨u, e2, r2⟩ := Vals.get r e
      rw [e2]
      exact .cons r2 ih
/-- f(k = v, ..) -/
theorem mv_callK0 (G : FnG X.prog X.w X.K X.mg X.base k f fd ps mf) (hr : Room k X.A) (gd : X.A.guards = some []) (hg : Gl X x) (hm : X.mg x = some (.ref f)) (hk : PySem.W.keepIn X.K (.ref f) = true) (hb : KB X.K fd ps ks 0 pm)
    (hkw : PK X kws (tH (ux X) mk)) (hall : (backToKw pos (keywordEach kws X.env)).all (·.1.isSome) = true := by rfl) (hks : (backToKw pos (keywordEach kws X.env)).filterMap (·.1) = ks := by rfl) (hdb : (x == ("__debug__" : Str)) = false := by decide)
    (hpl : ((backTo pos (starEach [] X.env)).any (·.1) || (backToKw pos (keywordEach kws X.env)).any (·.1.isNone)) = false := by rfl) :
    PE X (.Call (.Name x p) [] kws pos) (tM (ux X) (xCall mf (hPick 0 ks.length pm hNil mk))) :=
  ⟨fun pins s σ H Q I q => wpAny_Call_Name_kw (ld_glob I hg hm (PySem.W.callWith_KW0 (h₀ := X.base) I.ok.mod.kin hk hall (by
    have z := hNil_reads (hPick_reads (call_reads (E0 := E0) q))
    refine thn (hkw.run pos pins s σ H _ I z) fun ws s2 ⟨zs, H2, I2, rz, _, z2, z3⟩ => ⟨I2.kIn, ?_⟩
    rw [hks]
    have hb1 := hb s2 [] ws I2.kIn rfl (by rw [← rz.length]; exact z2)
    exact run_G G hr gd I2 hb1 (Vals.pick rz pm) z3) hpl) hdb)⟩
/-- f(e, .., k = v, ..) -/
theorem mv_callK (G : FnG X.prog X.w X.K X.mg X.base k f fd ps mf) (hr : Room k X.A) (gd : X.A.guards = some []) (hg : Gl X x) (hm : X.mg x = some (.ref f)) (hk : PySem.W.keepIn X.K (.ref f) = true) (hb : KB X.K fd ps ks n pm)
    (ha : PA X (e :: es) (tH (ux X) m)) (hkw : PK X kws (tH (ux X) mk)) (hall : (backToKw pos (keywordEach kws X.env)).all (·.1.isSome) = true := by rfl) (hks : (backToKw pos (keywordEach kws X.env)).filterMap (·.1) = ks := by rfl)
    (hdb : (x == ("__debug__" : Str)) = false := by decide) (he : starEach (e :: es) X.env = (false, eval e X.env) :: starEach es X.env := by rfl)
    (hpl : ((backTo pos (starEach (e :: es) X.env)).any (·.1) || (backToKw pos (keywordEach kws X.env)).any (·.1.isNone)) = false := by rfl) :
    PE X (.Call (.Name x p) (e :: es) kws pos) (tM (ux X) (xCall mf (hPick n ks.length pm m mk))) :=
  ⟨fun pins s σ H Q I q => wpAny_Call_Name_kw (ld_glob I hg hm (PySem.W.callWith_KW (h₀ := X.base) I.ok.mod.kin hk hall (by
    have z := hPick_reads (call_reads (E0 := E0) q)
    refine thn (ha.run pos pins s σ H _ I z) fun us s1 ⟨vs, H1, I1, r, z⟩ => ?_
    refine thn (hkw.run pos pins s1 σ H1 _ I1 z) fun ws s2 ⟨zs, H2, I2, rz, z1, z2, z3⟩ => ⟨I2.kIn, ?_⟩
    rw [hks]
    have hb1 := hb s2 us ws I2.kIn (by rw [← r.length]; exact z1) (by rw [← rz.length]; exact z2)
    exact run_G G hr gd I2 hb1 (Vals.pick (Vals.append r rz) pm) z3) hpl he) hdb)⟩
/-- f() -/
theorem mv_call0 (G : FnG X.prog X.w X.K X.mg X.base k f fd ps mf) (hr : Room k X.A) (gd : X.A.guards = some []) (hg : Gl X x) (hm : X.mg x = some (.ref f)) (hk : PySem.W.keepIn X.K (.ref f) = true) (hb : Binds X.K fd ps [])
    (hdb : (x == ("__debug__" : Str)) = false := by decide) : PE X (.Call (.Name x p) [] [] pos) (tM (ux X) (xCall mf hNil)) :=
  ⟨fun pins s σ H Q I q => wpAny_Call_Name_kw (ld_glob I hg hm (PySem.W.callWith_K0 I.kIn hk (by
    have z := hNil_reads (call_reads (E0 := E0) q)
    have hl : (([] : List Value) ++ []).length = ps.length := spM_len (E := E0) (vs := []) G.len z
    have hb1 := hb s [] I.kIn hl
    exact run_G G hr gd I (us := []) (vs := []) hb1 .nil z)) hdb)⟩
end

/-! ### an item taken out of what nobody else holds -/
def partsD : D → Option (List D)
  | .lst _ ds => some ds
  | .tup _ ds => some ds
  | _ => none
def ixOwn (m : Ex) (mi : Ox) : Ex := fun E => match m E with
  | some (d, E1) => match mi E1 with
    | some (h, E2) => match partsD d, dr E2 h with
      | some ds, some (.int i) => match atI ds i with
        | some r => some (r, E2)
        | none => none
      | _, _ => none
    | none => none
  | none => none
section
variable {U : Wd} {F H : Hp}
theorem RpL.getPerm : ∀ {vs : List V} {ds : List D} {as : List Addr} {i : Nat} {d : D}, RpL U F H vs ds as → ds[i]? = some d → ∃ v bs rest, vs[i]? = some v ∧ Rp U F H v d bs ∧ as.Perm (bs ++ rest)
  | _, _, _, 0, d, .cons (d := d') (as := a1) (bs := a2) h t, e => by
    simp only [List.getElem?_cons_zero, Option.some.injEq] at e
    subst e
    exact ⟨_, a1, a2, rfl, h, List.Perm.refl _⟩
  | _, _, _, i + 1, d, .cons (as := a1) (bs := a2) h t, e => by
    obtain ⟨v, bs, rest, h1, h2, h3⟩ := RpL.getPerm (i := i) t (by simpa using e)
    refine ⟨v, bs, a1 ++ rest, by simpa using h1, h2, (h3.append_left a1).trans ?_⟩
    rw [← List.append_assoc, ← List.append_assoc]
    exact List.perm_append_comm.append_right rest
  | _, _, _, i, d, .nil, e => by simp at e
theorem parts_now {v : V} {d : D} {as : List Addr} {ds : List D} (g : Fle F H) (w : Rp U F H v d as) (e : partsD d = some ds) : ∃ a vs bs xs, v = .ref a ∧ (SqL U.K H a vs ∨ SqT U.K H a vs) ∧ RpL U F H vs ds bs ∧ as.Perm (xs ++ bs) := by
  cases w with
  | lstS h l =>
    cases e
    exact ⟨_, _, [], [], rfl, .inl (.inl (.inl (g _ _ h))), l, List.Perm.refl _⟩
  | @lstO a vs _ bs h l =>
    cases e
    exact ⟨a, _, bs, [a], rfl, .inl (.inl (.inl h)), l, List.Perm.refl _⟩
  | tupS h l =>
    cases e
    exact ⟨_, _, [], [], rfl, .inr (g.seqT h), l, List.Perm.refl _⟩
  | @tupO a vs _ bs h l =>
    cases e
    exact ⟨a, _, bs, [a], rfl, .inr (.inl (.inl h)), l, List.Perm.refl _⟩
  | non => cases e
  | bl _ => cases e
  | int _ => cases e
  | str _ => cases e
  | scr _ => cases e
  | dctS _ _ => cases e
  | dctO _ _ => cases e
  | lam _ _ => cases e
  | fn _ _ => cases e
theorem ixOwn_reads {m : Ex} {mi : Ox} {σ : Sl} {Q : VK} (q : tM U (ixOwn m mi) σ H Q) : tOp (rIx U.K) (tM U m) (tO U mi) σ H Q := by
  obtain ⟨E, F, as, d, E', g, rE, e, q⟩ := q
  unfold ixOwn at e
  split at e
  · rename_i d1 E1 e1
    split at e
    · rename_i h E2 e2
      split at e
      · rename_i ds i e3 e4
        split at e
        · rename_i r e5
          cases e
          refine ⟨E, F, as, d1, E1, g, rE, e1, fun v F1 H1 b1 as1 s1 r1 w1 => ?_⟩
          refine ⟨E1, F1, as1, h, E', s1.right.good, r1, e2, fun y F2 H2 c2 as2 s2 r2 q2 => ?_⟩
          have s3 : Step F H as F2 H2 (b1 ++ (c2 ++ as2)) := s1.seq s2
          obtain ⟨z, wy⟩ := q2.now r2 e4
          obtain ⟨rfl, _⟩ := rp_int wy
          obtain ⟨a, vs, bs, xs, rfl, sq, l, pa⟩ := parts_now s3.good.le (w1.mono s2.ext (Step.wait s1 s2)) e3
          obtain ⟨j, j1, j2⟩ := atI_get l.len e5
          obtain ⟨vj, bj, rest, k1, k2, k3⟩ := l.getPerm j1
          have p2 : (b1 ++ (c2 ++ as2)).Perm ((xs ++ rest ++ c2) ++ (bj ++ as2)) := List.perm_iff_count.mpr fun a => by
            have h1 := pa.count_eq a
            have h2 := k3.count_eq a
            simp only [List.count_append] at h1 h2 ⊢
            omega
          have fin2 := q vj F2 H2 bj as2 (s3.perm p2).right r2 k2
          rcases sq with sq | sq
          · exact .inl ⟨a, vs, _, vj, rfl, rfl, sq, j2 vj k1, fin2⟩
          · exact .inr (.inl ⟨a, vs, _, vj, rfl, rfl, sq, j2 vj k1, fin2⟩)
        · cases e
      · cases e
    · cases e
  · cases e
end
section
variable [LE] [WC] {X : Cx} {a b : Expr} {pos : Pos} {m : Ex} {mi : Ox}
theorem mv_ixOwn (ha : PE X a (tM (ux X) m)) (hb : PE X b (tO (ux X) mi)) (hs : PlainIx b := by exact fun _ _ => rfl) : PE X (.Subscript a b pos) (tM (ux X) (ixOwn m mi)) := pe_mono (pe_ix ix_seq ha hb hs) fun _ _ _ q => ixOwn_reads q
end
end MP

/-! Mirror layer, part 11: from the law's mirror to the head's walk. -/
namespace MP
open PySem PySem.Spec L2

/-- what a law's mirror answers -/
def Says (mf : Fm) (n : Nat) : Prop := ∀ ns : List Int, ns.length ≤ n → ∃ fs, mf [.scr ns] = some (.bl true, fs)
/-- what is tracked, but for tables of code objects -/
def ntH (H : Hp) : Hp := fun b => match H b with
  | some (.tbl _) => none
  | o => o
theorem ntH_some {H : Hp} {b : Addr} {o : HO} (h : ntH H b = some o) : H b = some o ∧ ∀ ps, o ≠ .tbl ps := by
  unfold ntH at h
  split at h
  · cases h
  · rename_i hn
    exact ⟨h, fun ps e => hn ps (by rw [h, e])⟩
theorem ntH_of {H : Hp} {b : Addr} {o : HO} (h : H b = some o) (n : ∀ ps, o ≠ .tbl ps) : ntH H b = some o := by
  unfold ntH
  split
  · rename_i ps e
    rw [h] at e
    exact absurd (Option.some.inj e) (n ps)
  · exact h
theorem ntH_good (H : Hp) : Good (ntH H) H [] := ⟨fun _ _ e => (ntH_some e).1, List.nodup_nil, fun _ z => (nomatch z), fun _ z => (nomatch z), fun a ps e => (ntH_some e).2 ps rfl⟩
theorem ntH_seq {K : PySem.W.Frag} {H : Hp} {a : Addr} {xs : List V} (h : SqL K H a xs) : SqL K (ntH H) a xs := by
  rcases h with (h | ⟨o, h⟩) | h
  · exact .inl (.inl (ntH_of h fun ps e => by cases e))
  · exact .inl (.inr ⟨o, ntH_of h fun ps e => by cases e⟩)
  · exact .inr h
theorem says_sp {U : Wd} {mf : Fm} {n : Nat} (h : Says mf n) {H : Hp} {a : Addr} {ns : List Int} (hn : ns.length ≤ n) (hs : SqL U.K H a (ns.map V.int)) {E : XK} : spM U mf [.ref a] H (fun v _ => v = .bl true) E := by
  obtain ⟨fs, e⟩ := h ns hn
  exact ⟨ntH H, [.scr ns], [], .bl true, fs, ntH_good H, .cons0 (.scr (ntH_seq hs)) .nil, e, fun v F' H' bs cs _ w _ => (rp_bl w).1⟩
theorem rel_ints : ∀ {us : List Value} {ns : List Int}, PyProof.Rows.IntsAre us ns → Vals (ns.map V.int) us
  | _, _, .nil => .nil
  | _, _, .cons i t r => .cons ⟨t, rfl⟩ (rel_ints r)

section
variable {P : Program} {w : World} {K : PySem.W.Frag} {mg mb : Str → Option Value} {k n : Nat} {fa a : Addr} {fd : FuncData} {x : Str} {mf : Fm} {z : Shared} {us : List Value} {ns : List Int}
abbrev Done (z : Shared) : Result → Shared → Prop := fun r y => r = .ok (.ret (.bool true)) ∧ OldK z.heap y.heap ∧ y.os = z.os ∧ PyProof.Rows.AllBare y.gens
/-- behind the top, by an abstract heap that has at most the script -/
theorem into (G : Heap → K.In z.heap → Prop) (KX : K.In z.heap) (gl : z.heap.Ns mainGlobals mg) (bl : z.heap.Ns builtinsNs mb) (bb : ∀ y : Str, y ≠ "__name__" → mb y = bootBuiltins y) (li : z.heap.NoLimit) (ge : z.gens = #[])
    (ob : z.heap.get? a = some { cls := .type "list", data := .seq us.toArray }) (hr : Room k callerA) (hn : ns.length ≤ n)
    (F : ∀ base : Heap, K.In base → base.Ns mainGlobals mg → FnG P w K mg base k fa fd [x] mf) (bi : ∀ (s : Shared) (u : Value), BindsTo s fd ⟨[u], []⟩ [(x, u)]) (law : Says mf n)
    (H : Hp) (only : ∀ b, H b = none ∨ (b = a ∧ K.lookup a = none ∧ ∃ o xs, H b = some (.frz o (.lst xs)))) (sq : SqL K H a (ns.map V.int)) (hk : HOk P w H z.heap) :
    codeAny (model P w) callerA (.call (.ref fa) ⟨[.ref a], []⟩) (Done z) z := by
  have isA : ∀ {b}, H b ≠ none → b = a := fun {b} q => (only b).elim (fun e => absurd e q) fun e => e.1
  have free : ∀ {b} {o : Obj} {es : Array DictEntry} {ep : Nat}, z.heap.get? b = some o → o.data = .dict es ep → H b = none := by
    intro b o es ep e d
    rcases only b with q | ⟨rfl, _⟩
    · exact q
    · rw [ob] at e
      cases e
      have d' : Data.seq us.toArray _ = Data.dict es ep := d
      cases d'
  have ns' : ∀ {b : Addr} {m : Str → Option Value}, z.heap.Ns b m → (hidT z.heap H).Ns b m := fun {b m} ⟨o, es, ep, e, d, r⟩ => ⟨o, es, ep, hidT_get e (free e d), d, r⟩
  have kin : K.In (hidT z.heap H) := by
    intro b o e
    refine hidT_get (KX b o e) ?_
    rcases only b with q | ⟨rfl, q, _⟩
    · exact q
    · rw [q] at e
      cases e
  have mo : Mod K mg (hidT z.heap H) := ⟨kin, ns' gl, ⟨mb, ns' bl, bb⟩, let ⟨mc, l1, l2⟩ := li; ⟨mc, ns' l1, l2⟩⟩
  have en : Env0 P w K mg (hidT z.heap H) callerA [] z H :=
    ⟨rfl, mo, fun b o e => of_hidT e, Nat.le_of_eq (hidT_size _ _), trivial, fun b hb => absurd (show b ∈ ([] : List Addr) from hb) (by simp), hk, .of_eq ge⟩
  have run := (F _ kin (ns' gl)).run ⟨"", []⟩ callerA [] z H ⟨[.ref a], []⟩ [.ref a] [.ref a] _ hr rfl en (bi z (.ref a)) (.cons rfl .nil) (says_sp (E := E0) law hn sq)
  refine codeAny_mono run fun r y got => ?_
  match r, got with
  | .error e, got => exact (show False from got).elim
  | .ok (.ret u), ⟨v, H', os, bare, un, hk', rv, q⟩ =>
    have q' : v = V.bl true := q
    subst q'
    obtain rfl : u = Value.bool true := rv
    refine ⟨rfl, OldK.of_keep fun b o e => ?_, os, bare⟩
    rcases only b with none' | ⟨_, _, ob', xs, fz⟩
    · exact un.keep b o e none' (fun c => absurd (show b ∈ ([] : List Addr) from c) (by simp)) (by simp)
    · obtain ⟨e1, _⟩ := hk b _ fz
      obtain ⟨e2, _⟩ := hk' b _ (un.frzs b ob' _ fz)
      rw [e] at e1
      cases e1
      exact e2
  | .ok .next, got => exact False.elim got
  | .ok .brk, got => exact False.elim got
  | .ok .cont, got => exact False.elim got
/-- the law's call -/
theorem entry (KX : K.In z.heap) (gl : z.heap.Ns mainGlobals mg) (bl : z.heap.Ns builtinsNs mb) (bb : ∀ y : Str, y ≠ "__name__" → mb y = bootBuiltins y) (li : z.heap.NoLimit) (ge : z.gens = #[])
    (ob : z.heap.get? a = some { cls := .type "list", data := .seq us.toArray }) (hi : PyProof.Rows.IntsAre us ns) (hr : Room k callerA) (hn : ns.length ≤ n) (n0 : n ≤ sizeLine)
    (F : ∀ base : Heap, K.In base → base.Ns mainGlobals mg → FnG P w K mg base k fa fd [x] mf) (bi : ∀ (s : Shared) (u : Value), BindsTo s fd ⟨[u], []⟩ [(x, u)]) (law : Says mf n) :
    codeAny (model P w) callerA (.call (.ref fa) ⟨[.ref a], []⟩) (Done z) z := by
  have vals := rel_ints hi
  have len : us.length = ns.length := hi.length
  have size : ns.length ≤ sizeLine := Nat.le_trans hn n0
  cases look : K.lookup a with
  | some o =>
    have e := KX a o look
    rw [ob] at e
    cases e
    exact into (fun _ _ => True) KX gl bl bb li ge ob hr hn F bi law (fun _ => none) (fun _ => .inl rfl)
      (.inr ⟨_, us.toArray, _, look, rfl, rfl, rfl, by rw [List.size_toArray, len]; exact size, by simpa using vals⟩) fun b u c => absurd (show (none : Option HO) = some u from c) (by simp)
  | none =>
    let obj : Obj := { cls := .type "list", data := .seq us.toArray }
    let H : Hp := fun b => if b = a then some (.frz obj (.lst (ns.map V.int))) else none
    refine into (fun _ _ => True) KX gl bl bb li ge ob hr hn F bi law H (fun b => ?_) (.inl (.inr ⟨obj, if_pos rfl⟩)) fun b u c => ?_
    · by_cases hb : b = a
      · exact .inr ⟨hb, look, obj, _, if_pos hb⟩
      · exact .inl (if_neg hb)
    · by_cases hb : b = a
      · have c' := (if_pos hb).symm.trans c
        cases c'
        subst hb
        exact ⟨ob, by rw [List.length_map]; exact size, us, _, vals, ob⟩
      · have c' := (if_neg hb).symm.trans c
        cases c'
end
/-- the goal that the head leaves, from the law's mirror -/
theorem walk_in {l : PySem.W.OpenLaw} {n k : Nat} {q : Program} {loose : List Str} {XP : (Str → Option Value) → Heap → Prop} {YP : World → Heap → Prop} {d : DefRec} {K : Params → PySem.W.Frag} {mf : Fm} {x : Str}
    (most : l.most = some n) (n0 : n ≤ sizeLine) (nodef : d.params.defaults = []) (hr : Room k callerA) (inK : ∀ (w : World) (h : Heap), YP w h → (K w.params).In h)
    (F : ∀ (w : World) (mg : Str → Option Value) (fa : Addr) (h : Heap), (K w.params).In h → h.Ns mainGlobals mg → mg d.name = some (.ref fa) →
      ∃ fd : FuncData, (∀ (s : Shared) (u : Value), BindsTo s fd ⟨[u], []⟩ [(x, u)]) ∧ ∀ base : Heap, (K w.params).In base → base.Ns mainGlobals mg → FnG l.prog w (K w.params) mg base k fa fd [x] mf)
    (law : Says mf n) : PySem.W.WalkO q loose XP YP l.row.toRowW d [] (fun f vs => PySem.call f vs) := by
  refine Att.attach_call most nodef fun w s0 z mg mb fa o pm cd doc a us ns G Y ho hd hcd hmg hobj hints hlen hg => ?_
  obtain ⟨fd, bi, Fb⟩ := F w mg fa _ (inK w _ Y) G.T.g hmg
  exact entry (inK w _ Y) G.T.g G.T.b G.T.builtins G.T.nolimit hg hobj hints hr hlen n0 Fb bi law
end MP

/-! Mirror layer, part 12: forms that look at what they get. -/
namespace MP
open PySem PySem.Spec L2

/-! ### a name: what is frozen stays, what is owned is handed on, or frozen -/
def xTk (i : Nat) : Ex := fun E => match E[i]? with
  | some (some d) => if d.frozen = true then some (d, E) else some (d, E.set i none)
  | _ => none
def xSh (i : Nat) : Ex := fun E => match E[i]? with
  | some (some d) => if d.frozen = true then some (d, E) else some (d.frz, E.set i (some d.frz))
  | _ => none
def xNo : Ex := fun _ => none
def altX (a b : Ex) : Ex := fun E => match a E with
  | some r => some r
  | none => b E
section
variable [LE] [WC] {X : Cx} {e : Expr} {pos : Pos} {x : Str} {i : Nat}
theorem peek_reads {U : Wd} {σ : Sl} {H : Hp} {Q : VK} {E : En} {F : Hp} {as : List Addr} {d : D} (g : Good F H as) (r : REnv U F H σ E as) (e : E[i]? = some (some d)) (hf : d.frozen = true)
    (q : ∀ v F' H' bs as', Step F H as F' H' (bs ++ as') → REnv U F' H' σ E as' → Rp U F' H' v d bs → Q v H') : tVar i σ H Q := by
  obtain ⟨v, a1, rest, h1, h2, p, r2⟩ := r.take e
  have := h2.nil_of hf
  subst this
  exact ⟨v, h1, q v F H [] as (Step.refl g) r h2⟩
theorem mv_tk (h : PE X (.Name x pos) (tVar i)) : PE X (.Name x pos) (tM (ux X) (xTk i)) := pe_mono h fun σ H Q q => by
  obtain ⟨E, F, as, d0, E', g, r, e, q⟩ := q
  unfold xTk at e
  split at e
  · rename_i d ed
    split at e
    · rename_i hf
      cases e
      exact peek_reads g r ed hf q
    · cases e
      obtain ⟨v, a1, rest, h1, h2, p, r2⟩ := r.take ed
      exact ⟨v, h1, q v F H a1 rest ((Step.refl g).perm p) r2 h2⟩
  · cases e
theorem mv_sh (h : PE X (.Name x pos) (tVar i)) : PE X (.Name x pos) (tM (ux X) (xSh i)) := pe_mono h fun σ H Q q => by
  obtain ⟨E, F, as, d0, E', g, r, e, q⟩ := q
  unfold xSh at e
  split at e
  · rename_i d ed
    split at e
    · rename_i hf
      cases e
      exact peek_reads g r ed hf q
    · cases e
      obtain ⟨v, a1, rest, h1, h2, p, r2⟩ := r.take ed
      have g2 := g.perm p
      have st := Step.freeze g2
      refine ⟨v, h1, q v _ H [] rest (st.permS p.symm) ?_ (Rp.freeze st.ext h2 fun a z => by simp [z])⟩
      have hi : i < E.length := (List.getElem?_eq_some_iff.mp ed).1
      have r3 := (r2.mono (F' := fun b => if b ∈ a1 then H b else F b) st.ext fun _ _ => rfl).putS (d := d.frz) (v := v) (a1 := []) (set_none_get hi) h1 (Rp.freeze st.ext h2 fun a z => by simp [z])
      rw [List.set_set] at r3
      exact r3
  · cases e
theorem mv_no : PE X e (tM (ux X) xNo) := ⟨fun pins s σ H Q I q => by
  obtain ⟨E, F, as, d, E', g, r, e, q⟩ := q
  cases e⟩
theorem mv_alt {a b : Ex} (ha : PE X e (tM (ux X) a)) (hb : PE X e (tM (ux X) b)) : PE X e (tM (ux X) (altX a b)) := ⟨fun pins s σ H Q I q => by
  obtain ⟨E, F, as, d, E', g, r, e, q⟩ := q
  unfold altX at e
  split at e
  · rename_i z ez
    cases e
    exact ha.run pins s σ H Q I ⟨E, F, as, d, E', g, r, ez, q⟩
  · exact hb.run pins s σ H Q I ⟨E, F, as, d, E', g, r, e, q⟩⟩
/-- an item: of what a name holds (it stays), or of what comes (it may be owned) -/
theorem mv_ixAny {a b : Expr} {m : Ex} {mi : Ox} (ha : PE X a (tM (ux X) m)) (hb : PE X b (tO (ux X) mi)) (hs : PlainIx b := by exact fun _ _ => rfl) : PE X (.Subscript a b pos) (tM (ux X) (altX (ixOwn m mi) (op2 ixD (oV m) mi))) := mv_alt (mv_ixOwn ha hb hs) (mv_ixD (ov ha) hb hs)
end

/-! ### what is walked -/
def mkAny : Mk
  | [.lst o ds] => mkLst [.lst o ds]
  | [.tup o ds] => mkTupI [.tup o ds]
  | [.scr ns] => mkScr [.scr ns]
  | [.str s] => mkStr [.str s]
  | _ => none
section
variable [LE] [WC] {X : Cx} {e tg : Expr} {m : Ox}
theorem mi_any (h : PE X e (tO (ux X) m)) : PI X tg e (tI (ux X) (hCons m hNil) mkAny) := ⟨fun pins s σ H R I q => by
  obtain ⟨E, F, as, hs, E1, ds, E2, items, g, r, e1, e2, e3, q⟩ := q
  unfold mkAny at e3
  split at e3
  · exact (mi_lst (tg := tg) h).run pins s σ H R I ⟨E, F, as, hs, E1, _, E2, items, g, r, e1, e2, e3, q⟩
  · exact (mi_tup (tg := tg) h).run pins s σ H R I ⟨E, F, as, hs, E1, _, E2, items, g, r, e1, e2, e3, q⟩
  · exact (mi_scr (tg := tg) h).run pins s σ H R I ⟨E, F, as, hs, E1, _, E2, items, g, r, e1, e2, e3, q⟩
  · exact (mi_str (tg := tg) h).run pins s σ H R I ⟨E, F, as, hs, E1, _, E2, items, g, r, e1, e2, e3, q⟩
  · cases e3⟩
end

/-! ### forgetting -/
def sK (is : List Nat) (m : Sm) : Sm := fun E => m (kill is E)
section
variable [LE] [WC] {X : Cx} {st : Stmt} {rest : List Stmt} {pin : Pn} {is : List Nat} {m : Sm} {U : Wd}
theorem sK_reads {D0 : Ends} {σ : Sl} {H : Hp} (q : tS U pin (sK is m) D0 σ H) : tS U pin m D0 σ H := by
  obtain ⟨E, F, as, c, E', g, r, e, q⟩ := q
  obtain ⟨a0, rest, p, r2⟩ := r.kill is
  have s : Step F H as F H rest := ((Step.refl g).perm p).right
  exact ⟨_, F, rest, c, E', s.good, r2, e, q.step s (SameAt.refl _ _)⟩
theorem ms_k (h : PSs X rest (tS (ux X) pin m)) : PSs X rest (tS (ux X) pin (sK is m)) := pss_mono h fun _ _ _ q => sK_reads q
theorem ms_k1 (h : PS X st (tS (ux X) pin m)) : PS X st (tS (ux X) pin (sK is m)) := ps_mono h fun _ _ _ q => sK_reads q
end

/-! ### a, b, c = x, y, z -/
def sPar3 (i j l : Nat) (m : Lx) : Sm := fun E => match m E with
  | some ([a, b, c], E1) => if i < E1.length ∧ j < E1.length ∧ l < E1.length then some (.nx, ((E1.set i (some a)).set j (some b)).set l (some c)) else none
  | _ => none
section
variable [LE] [WC] {X : Cx} {pin : Pn}
theorem ms_par3 {i j l : Nat} {x y z : Str} {a b c : Expr} {m : Lx} {px py pz pt pos : Pos} {kt k2 pt2} (h : PS X (.Assign [.Tuple [.Name x px, .Name y py, .Name z pz] kt pt] (.Tuple [a, b, c] k2 pt2) pos) (tPar3 i j l (tL (ux X) m))) (hi : pin i = false) (hj : pin j = false) (hl : pin l = false) :
    PS X (.Assign [.Tuple [.Name x px, .Name y py, .Name z pz] kt pt] (.Tuple [a, b, c] k2 pt2) pos) (tS (ux X) pin (sPar3 i j l m)) := ps_mono h fun D σ H q => by
  obtain ⟨E, F, as, ct, E', g, r, e, q⟩ := q
  unfold sPar3 at e
  split at e
  · rename_i d1 d2 d3 E1 e1
    split at e
    · rename_i ls
      obtain ⟨l1, l2, l3⟩ := ls
      cases e
      refine ⟨E, F, as, _, E1, g, r, e1, fun vs F1 H1 bs as1 s1 r1 w1 => ?_⟩
      cases w1 with
      | @cons v _ vr _ b1 b1' w1 w2 =>
        cases w2 with
        | @cons v' _ vr _ b2 b2' w2 w3 =>
          cases w3 with
          | @cons v'' _ vr _ b3 b4 w3 w4 =>
            cases w4
            refine ⟨v, v', v'', rfl, ?_⟩
            obtain ⟨a0, rest, p, r2⟩ := r1.store l1 w1
            obtain ⟨a0', rest', p', r3⟩ := r2.store (by simpa using l2) w2
            obtain ⟨a0'', rest'', p'', r4⟩ := r3.store (by simpa using l3) w3
            have p2 : ((b1 ++ (b2 ++ (b3 ++ []))) ++ as1).Perm ((a0 ++ a0' ++ a0'') ++ (b3 ++ rest'')) := List.perm_iff_count.mpr fun a => by
              have h1 := p.count_eq a
              have h2 := p'.count_eq a
              have h3 := p''.count_eq a
              simp only [List.count_append, List.count_nil] at h1 h2 h3 ⊢
              omega
            exact q _ F1 H1 (b3 ++ rest'') ((s1.perm p2).right) r4 (((SameAt.set hi).trans (SameAt.set hj)).trans (SameAt.set hl))
    · cases e
  · cases e
end
end MP

/-! Mirror layer, part 13: what printed proofs lean on. -/
namespace MP
open PySem PySem.Spec L2

/-- an equation that is not to be used by unfolding -/
theorem nr {α : Sort _} {a b : α} (h : a = b) : a = b := h
/-- a text by its codes -/
def S (l : List Nat) : Str := ⟨l.toArray⟩
def fu : Nat := 1099511627776
theorem fu_ge {n : Nat} (h : n ≤ 1099511627776) : n ≤ fu := h
def pinL (l : List Nat) : Pn := fun i => l.contains i
theorem pinU_le {l : List Nat} {pin : Pn} : ∀ i, pin i = true → pinU l pin i = true := fun i h => by
  unfold pinU
  rw [h, Bool.or_true]
theorem pins_ok {mask : List Bool} {pin : Pn} (h : ((List.range mask.length).all fun i => !(mask.getD i false) || pin i) = true) : ∀ i, mask[i]? = some true → pin i = true := fun i e => by
  have hi : i < mask.length := (List.getElem?_eq_some_iff.mp e).1
  have := List.all_eq_true.mp h i (List.mem_range.mpr hi)
  rw [List.getD_eq_getElem?_getD, e] at this
  simpa using this
/-- a def of the text, its mirror kept at every base -/
structure Cal (P : Program) (w : World) (K : PySem.W.Frag) (mg : Str → Option Value) (base : Heap) (k : Nat) (x : Str) (st : Stmt) (ps : List Str) (mf : Fm) : Prop where
  ex : ∃ (f : Addr) (fd : FuncData), FnG P w K mg base k f fd ps mf ∧ mg x = some (.ref f) ∧ Fun K x x st f fd
def FnIn (K : PySem.W.Frag) (mg : Str → Option Value) (x : Str) (st : Stmt) : Prop := ∃ (f : Addr) (fd : FuncData), mg x = some (.ref f) ∧ Fun K x x st f fd
/-- a name of the module that is bound to plain data once and for all -/
def GD (K : PySem.W.Frag) (mg : Str → Option Value) (x : Str) (d : D) : Prop := ∃ (u : Value) (v : V), mg x = some u ∧ RelV v u ∧ ∀ (U : Wd) F H, U.K = K → Rp U F H v d []
theorem GD.str {K : PySem.W.Frag} {mg : Str → Option Value} {x s : Str} {t : Tok} (h : mg x = some (.str s t)) : GD K mg x (.str s) := ⟨_, .str s, h, ⟨t, rfl⟩, fun _ _ _ _ => .str s⟩
theorem GD.strS {K : PySem.W.Frag} {mg : Str → Option Value} {x s s' : Str} {t : Tok} (h : mg x = some (.str s t)) (e : s = s') : GD K mg x (.str s') := by
  subst e
  exact GD.str h
theorem GD.int {K : PySem.W.Frag} {mg : Str → Option Value} {x : Str} {i : Int} {t : Tok} (h : mg x = some (.int i t)) : GD K mg x (.int i) := ⟨_, .int i, h, ⟨t, rfl⟩, fun _ _ _ _ => .int i⟩
section
variable [LE] [WC] {X : Cx} {e : Expr} {es : List Expr} {kws : List Keyword} {pos p : Pos} {j k n : Nat} {st : Stmt} {ps ks : List Str} {mf : Fm} {m mk : Hx} {x : Str} {pm : List Nat} {d : D}
theorem mv_gd (g : GD X.K X.mg x d) (hg : Gl X x) (hd : (x == ("__debug__" : Str)) = false := by decide) : PE X (.Name x pos) (tM (ux X) (xC d)) := by
  obtain ⟨u, v, hm, r, w⟩ := g
  exact mv_glob (fun F H => w (ux X) F H rfl) hg hm r hd
theorem mv_strS {s s' : Str} {i} (h : s = s') : PE X (.Constant (.str s) i pos) (tM (ux X) (xC (.str s'))) := by
  subst h
  exact mv_str
theorem FnG.mono {P : Program} {w : World} {K : PySem.W.Frag} {mg : Str → Option Value} {base : Heap} {f : Addr} {fd : FuncData} (F : FnG P w K mg base k f fd ps mf) (h : k ≤ j) : FnG P w K mg base j f fd ps mf :=
  ⟨F.len, fun le A os s H args us vs Q hr => F.run le A os s H args us vs Q (hr.mono h)⟩
theorem mv_c (c : Cal X.prog X.w X.K X.mg X.base k x st ps mf) (bd : ∀ {f : Addr} {fd : FuncData}, Fun X.K x x st f fd → Binds X.K fd ps []) (hr : Room j X.A) (hk : k ≤ j) (gd : X.A.guards = some []) (hg : Gl X x) (ha : PA X (e :: es) (tH (ux X) m))
    (hdb : (x == ("__debug__" : Str)) = false := by decide) (he : starEach (e :: es) X.env = (false, eval e X.env) :: starEach es X.env := by rfl) (hpl : (backTo pos (starEach es X.env)).any (·.1) = false := by rfl) :
    PE X (.Call (.Name x p) (e :: es) [] pos) (tM (ux X) (xCall mf m)) := by
  obtain ⟨f, fd, G, hm, Fn⟩ := c.ex
  exact mv_call (G.mono hk) hr gd hg hm Fn.kp (bd Fn) ha hdb he hpl
theorem mv_c0 (c : Cal X.prog X.w X.K X.mg X.base k x st ps mf) (bd : ∀ {f : Addr} {fd : FuncData}, Fun X.K x x st f fd → Binds X.K fd ps []) (hr : Room j X.A) (hk : k ≤ j) (gd : X.A.guards = some []) (hg : Gl X x)
    (hdb : (x == ("__debug__" : Str)) = false := by decide) : PE X (.Call (.Name x p) [] [] pos) (tM (ux X) (xCall mf hNil)) := by
  obtain ⟨f, fd, G, hm, Fn⟩ := c.ex
  exact mv_call0 (G.mono hk) hr gd hg hm Fn.kp (bd Fn) hdb
theorem mv_ck0 (c : Cal X.prog X.w X.K X.mg X.base k x st ps mf) (kb : ∀ {f : Addr} {fd : FuncData}, Fun X.K x x st f fd → KB X.K fd ps ks 0 pm) (hr : Room j X.A) (hk : k ≤ j) (gd : X.A.guards = some []) (hg : Gl X x)
    (hkw : PK X kws (tH (ux X) mk)) (hall : (backToKw pos (keywordEach kws X.env)).all (·.1.isSome) = true := by rfl) (hks : (backToKw pos (keywordEach kws X.env)).filterMap (·.1) = ks := by rfl) (hdb : (x == ("__debug__" : Str)) = false := by decide)
    (hpl : ((backTo pos (starEach [] X.env)).any (·.1) || (backToKw pos (keywordEach kws X.env)).any (·.1.isNone)) = false := by rfl) :
    PE X (.Call (.Name x p) [] kws pos) (tM (ux X) (xCall mf (hPick 0 ks.length pm hNil mk))) := by
  obtain ⟨f, fd, G, hm, Fn⟩ := c.ex
  exact mv_callK0 (G.mono hk) hr gd hg hm Fn.kp (kb Fn) hkw hall hks hdb hpl
theorem mv_ck (c : Cal X.prog X.w X.K X.mg X.base k x st ps mf) (kb : ∀ {f : Addr} {fd : FuncData}, Fun X.K x x st f fd → KB X.K fd ps ks n pm) (hr : Room j X.A) (hk : k ≤ j) (gd : X.A.guards = some []) (hg : Gl X x)
    (ha : PA X (e :: es) (tH (ux X) m)) (hkw : PK X kws (tH (ux X) mk)) (hall : (backToKw pos (keywordEach kws X.env)).all (·.1.isSome) = true := by rfl) (hks : (backToKw pos (keywordEach kws X.env)).filterMap (·.1) = ks := by rfl)
    (hdb : (x == ("__debug__" : Str)) = false := by decide) (he : starEach (e :: es) X.env = (false, eval e X.env) :: starEach es X.env := by rfl)
    (hpl : ((backTo pos (starEach (e :: es) X.env)).any (·.1) || (backToKw pos (keywordEach kws X.env)).any (·.1.isNone)) = false := by rfl) :
    PE X (.Call (.Name x p) (e :: es) kws pos) (tM (ux X) (xCall mf (hPick n ks.length pm m mk))) := by
  obtain ⟨f, fd, G, hm, Fn⟩ := c.ex
  exact mv_callK (G.mono hk) hr gd hg hm Fn.kp (kb Fn) ha hkw hall hks hdb he hpl
end
theorem kb_of {K : PySem.W.Frag} {x : Str} {st : Stmt} {f : Addr} {fd : FuncData} {ps ks : List Str} {n : Nat} {pm : List Nat} (F : Fun K x x st f fd)
    (h : ∀ (kV doc pm' : Value) (an : Option Addr) (cdv ct : Value) (us ws : List Value), us.length = n → ws.length = ks.length → bindArgs (PySem.W.fnOf x x (defArgs st) (defBody st) (defScope st) .none kV doc pm' an cdv ct) ⟨us, ks.zip ws⟩ = pure (ps.zip (pick pm (us ++ ws)))) : KB K fd ps ks n pm := by
  obtain ⟨oc, od, kV, doc, pm', an, cdv, ct, osl, rfl, lk, hcd⟩ := F.ex
  exact fun s us ws _ h1 h2 => .of_eq (h kV doc pm' an cdv ct us ws h1 h2)
end MP

/-! Mirror layer, part 17: enumerate over tuples and over zip; zip of tuples. -/
namespace MP
open PySem PySem.Spec L2

/-! ### a zip object, whatever it has handed out -/
section
variable {prog : Program} {w : World} {A : Around} {E : Value → Shared → Prop} {s : Shared}
abbrev ZpAt (h : Heap) (z TI TO : Addr) (v : Value) (b : Bool) : Prop := h.get? z = some { cls := .type "zip", dict := none, data := .fields #[v, .bool b, .bool false, .ref TI, .ref TO], slots := #[] }
/-- nothing handed out, or a pair at some place -/
def Own0 (v : Value) : Prop := v = .none ∨ ∃ T : Addr, v = rawInt T
theorem alive_any {a : Addr} {Q : Option Obj → Shared → Prop} (h : ∀ r, Q r s) : wpAny (model prog w) A (loadIfAlive a) Q E s := fun _ _ _ => h _
theorem zp_free {z TI TO : Addr} {v : Value} {b : Bool} {Q : Bool → Shared → Prop} (kz : ZpAt s.heap z TI TO v b) (hv : Own0 v) (h1 : Q true s)
    (h2 : ∀ (T : Addr) g, v = rawInt T → ZpAt g z TI TO v true → Heap.SameBut z s.heap g → Q false { s with heap := g }) : wpAny (model prog w) A (Builtin.SmallTypes.ownedTupleIsFree (.ref z)) Q E s := by
  unfold Builtin.SmallTypes.ownedTupleIsFree
  rcases hv with rfl | ⟨T, rfl⟩
  · exact wpAny_bind (wpAny_field kz rfl (x := .none) rfl (wpAny_pure h1))
  · refine wpAny_bind (wpAny_field kz rfl (x := rawInt T) rfl ?_)
    show wpAny _ _ (loadIfAlive ((T : Int).toNat) >>= _) _ _ s
    refine wpAny_bind (alive_any fun r => ?_)
    cases r with
    | none =>
      simp only [Option.isNone_none, if_true]
      exact wpAny_pure h1
    | some o =>
      simp only [Bool.false_eq_true, Option.isNone_some, if_false]
      refine wpAny_bind (wpAny_field kz rfl (x := .bool b) rfl ?_)
      cases b with
      | true =>
        rw [if_neg (show ¬ ((Value.bool true != Value.bool true) = true) by decide)]
        exact wpAny_pure (h2 T s.heap rfl kz (Heap.SameBut.refl _ _))
      | false =>
        rw [if_pos (show (Value.bool false != Value.bool true) = true by decide)]
        exact wpAny_bind (wpAny_setField_rec kz (by simp) fun g kg sg => wpAny_pure (h2 T g rfl kg sg))
variable {z TI TO i1 i2 : Addr} {f1 f2 : List Addr} {n1 n2 i : Nat} {P1 P2 : Nat → Value → Prop} {S1 S2 : Nat → Heap → Prop} {c1 c2 v : Value} {b : Bool}
theorem zp_item {Q : Value → Shared → Prop} (S : ZipSep2 z TI TO i1 i2 f1 f2) (D1 : Draws prog w A i1 f1 n1 P1 S1) (D2 : Draws prog w A i2 f2 n2 P2 S2)
    (kz : ZpAt s.heap z TI TO v b) (hv : Own0 v) (kI : IsTupOf2 s.heap TI (.ref i1) (.ref i2)) (kO : IsTupOf2 s.heap TO c1 c2) (t1 : S1 i s.heap) (t2 : S2 i s.heap) (m1 : i < n1) (m2 : i < n2)
    (hQ : ∀ x y g tk T b', P1 i x → P2 i y → ZpAt g z TI TO (rawInt (T : Addr)) b' → (∃ d1 d2, IsTupOf2 g TO d1 d2) → S1 (i + 1) g → S2 (i + 1) g → IsTupOf2 g s.heap.objs.size x y → g.objs.size = s.heap.objs.size + 1 →
      (∀ c o, c ≠ z → c ≠ TO → c ≠ i1 → c ≠ i2 → s.heap.get? c = some o → g.get? c = some o) → Q (.ref s.heap.objs.size) { s with heap := g, toks := tk }) :
    wpAny (model prog w) A (Builtin.«zip.__next__» ⟨[.ref z], []⟩) (fun fin s' => ∃ v, fin = .done (.ret v) ∧ Q v s') E s := by
  obtain ⟨hp, gs, dr, tk0, os⟩ := s
  show wpAny _ _ (field (.ref z) 2 >>= _) _ _ _
  refine wpAny_bind (wpAny_field kz rfl (x := .bool false) rfl ?_)
  show wpAny _ _ (field (.ref z) 3 >>= _) _ _ _
  refine wpAny_bind (wpAny_field kz rfl (x := .ref TI) rfl ?_)
  refine wpAny_bind (wpAny_seqItems kI rfl ?_)
  show wpAny _ _ (Builtin.SmallTypes.ownedTupleIsFree (.ref z) >>= _) _ _ _
  refine wpAny_bind (zp_free kz hv ?_ fun T g0 eT kz0 q0 => ?_)
  · simp only [if_true]
    refine wpAny_bind (wpAny_rule ?_)
    refine wpAny_bind (wpAny_field kz rfl (x := .ref TO) rfl ?_)
    refine wpAny_bind (wpAny_setField_rec kz (by simp) fun g0 kz0 q0 => ?_)
    replace kz0 : ZpAt g0 z TI TO .ellipsis b := kz0
    replace q0 : Heap.SameBut z hp g0 := q0
    refine wpAny_bind ?_
    simp only [List.zipIdx_nil, List.zipIdx_cons, List.forIn_nil, List.forIn_cons]
    refine wpAny_bind (wpAny_bind (wpAny_onRaise ?_))
    show wpAny _ _ (Builtin.SmallTypes.nextOf (.ref i1) >>= _) _ _ ⟨g0, gs, dr, tk0, os⟩
    refine wpAny_bind (D1.item i _ _ _ m1 (D1.over t1 q0 S.zf1) fun x p1 tk1 hx u1 r1 => wpAny_pure ?_)
    replace r1 : Heap.SameBut i1 g0 p1 := r1
    have kO1 : IsTupOf2 p1 TO c1 c2 := r1.extBut _ _ S.Ti1 (q0.extBut _ _ S.TOz kO)
    refine wpAny_bind (wpAny_seqItems (s := ⟨p1, gs, dr, tk1, os⟩) kO1 rfl ?_)
    refine wpAny_bind (updateSeq_IsTupOf2 (s := ⟨p1, gs, dr, tk1, os⟩) kO1 fun g1 kO2 q1 => ?_)
    replace kO2 : IsTupOf2 g1 TO x c2 := kO2
    replace q1 : Heap.SameBut TO p1 g1 := q1
    refine wpAny_bind (wpAny_letGo (wpAny_pure ?_))
    refine wpAny_bind (wpAny_bind (wpAny_onRaise ?_))
    show wpAny _ _ (Builtin.SmallTypes.nextOf (.ref i2) >>= _) _ _ ⟨g1, gs, dr, tk1, os⟩
    refine wpAny_bind (D2.item i _ _ _ m2 (D2.over (D2.over (D2.over t2 q0 S.zf2) r1 S.sep1_2) q1 S.Tf2) fun y p2 tk2 hy u2 r2 => wpAny_pure ?_)
    replace r2 : Heap.SameBut i2 g1 p2 := r2
    have kO3 : IsTupOf2 p2 TO x c2 := r2.extBut _ _ S.Ti2 kO2
    refine wpAny_bind (wpAny_seqItems (s := ⟨p2, gs, dr, tk2, os⟩) kO3 rfl ?_)
    refine wpAny_bind (updateSeq_IsTupOf2 (s := ⟨p2, gs, dr, tk2, os⟩) kO3 fun g2 kO4 q2 => ?_)
    replace kO4 : IsTupOf2 g2 TO x y := kO4
    replace q2 : Heap.SameBut TO p2 g2 := q2
    refine wpAny_bind (wpAny_letGo (wpAny_pure (wpAny_pure ?_)))
    refine wpAny_bind (wpAny_seqItems (s := ⟨g2, gs, dr, tk2, os⟩) kO4 rfl ?_)
    refine wpAny_bind (wpAny_newTuple ?_)
    have lz : g2.objs.size = hp.objs.size := by rw [q2.1, r2.1, q1.1, r1.1, q0.1]
    have kz2 : ZpAt g2 z TI TO .ellipsis b := q2.extBut _ _ S.TOz.symm (r2.extBut _ _ S.zi2 (q1.extBut _ _ S.TOz.symm (r1.extBut _ _ S.zi1 kz0)))
    have keep : ∀ c o, c ≠ z → c ≠ TO → c ≠ i1 → c ≠ i2 → hp.get? c = some o → g2.get? c = some o := fun c o e1 e2 e3 e4 q =>
      q2.extBut _ _ e2 (r2.extBut _ _ e4 (q1.extBut _ _ e2 (r1.extBut _ _ e3 (q0.extBut _ _ e1 q))))
    have v1 : S1 (i + 1) g2 := D1.over (D1.over (D1.over u1 q1 S.Tf1) r2 S.sep2_1) q2 S.Tf1
    have v2 : S2 (i + 1) g2 := D2.over u2 q2 S.Tf2
    have zlt : z < g2.objs.size := Heap.lt_size kz2
    show wpAny _ _ (Builtin.SmallTypes.ownedTupleHandOut (.ref z) (.ref g2.objs.size) >>= _) _ _ ⟨g2.push { cls := .type "tuple", data := .seq #[x, y] }, gs, dr, tk2, os⟩
    refine wpAny_bind ?_
    unfold Builtin.SmallTypes.ownedTupleHandOut
    have kz3 : ZpAt (g2.push { cls := .type "tuple", data := .seq #[x, y] }) z TI TO .ellipsis b := Heap.get?_push_of_some _ kz2
    refine wpAny_bind (wpAny_setField_rec kz3 (by simp) fun g3 kz4 q3 => ?_)
    replace kz4 : ZpAt g3 z TI TO (rawInt g2.objs.size) b := kz4
    refine wpAny_setField_rec kz4 (by simp) fun g4 kz5 q4 => ?_
    replace kz5 : ZpAt g4 z TI TO (rawInt g2.objs.size) false := kz5
    replace q3 : Heap.SameBut z (g2.push { cls := .type "tuple", data := .seq #[x, y] }) g3 := q3
    replace q4 : Heap.SameBut z g3 g4 := q4
    have up : ∀ c o, c ≠ z → g2.get? c = some o → g4.get? c = some o := fun c o e1 q => q4.extBut _ _ e1 (q3.extBut _ _ e1 (Heap.get?_push_of_some _ q))
    have kT : IsTupOf2 g4 g2.objs.size x y := q4.extBut _ _ (Nat.ne_of_gt zlt) (q3.extBut _ _ (Nat.ne_of_gt zlt) (Heap.get?_push_size _ rfl))
    have l4 : g4.objs.size = g2.objs.size + 1 := by rw [q4.1, q3.1, Heap.size_push]
    rw [lz] at kT l4
    refine wpAny_pure ⟨_, rfl, ?_⟩
    show Q (.ref g2.objs.size) ⟨g4, gs, dr, tk2, os⟩
    rw [lz]
    exact hQ x y g4 tk2 _ _ hx hy kz5 ⟨_, _, up _ _ S.TOz kO4⟩ (D1.frame _ _ _ v1 fun a ha o q => up a o (fun k => S.zf1 (k ▸ ha)) q) (D2.frame _ _ _ v2 fun a ha o q => up a o (fun k => S.zf2 (k ▸ ha)) q) kT l4
      fun c o e1 e2 e3 e4 q => up c o e1 (keep c o e1 e2 e3 e4 q)
  · simp only [if_false, Bool.false_eq_true]
    replace q0 : Heap.SameBut z hp g0 := q0
    refine wpAny_bind ?_
    rw [← Array.forIn_toList]
    simp only [List.forIn_nil, List.forIn_cons]
    refine wpAny_bind (wpAny_bind (wpAny_holding ?_))
    show wpAny _ _ (Builtin.SmallTypes.nextOf (.ref i1) >>= _) _ _ ⟨g0, gs, dr, tk0, os⟩
    refine wpAny_bind (D1.item i _ _ _ m1 (D1.over t1 q0 S.zf1) fun x p1 tk1 hx u1 r1 => wpAny_pure ?_)
    replace r1 : Heap.SameBut i1 g0 p1 := r1
    refine wpAny_pure ?_
    refine wpAny_bind (wpAny_bind (wpAny_holding ?_))
    show wpAny _ _ (Builtin.SmallTypes.nextOf (.ref i2) >>= _) _ _ ⟨p1, gs, dr, tk1, os⟩
    refine wpAny_bind (D2.item i _ _ _ m2 (D2.over (D2.over t2 q0 S.zf2) r1 S.sep1_2) fun y p2 tk2 hy u2 r2 => wpAny_pure ?_)
    replace r2 : Heap.SameBut i2 p1 p2 := r2
    refine wpAny_pure (wpAny_pure ?_)
    show wpAny _ _ (newTuple [x, y] >>= _) _ _ _
    refine wpAny_bind (wpAny_newTuple ?_)
    have lz : p2.objs.size = hp.objs.size := by rw [r2.1, r1.1, q0.1]
    have kz2 : ZpAt p2 z TI TO v true := r2.extBut _ _ S.zi2 (r1.extBut _ _ S.zi1 kz0)
    have keep : ∀ c o, c ≠ z → c ≠ TO → c ≠ i1 → c ≠ i2 → hp.get? c = some o → p2.get? c = some o := fun c o e1 e2 e3 e4 q => r2.extBut _ _ e4 (r1.extBut _ _ e3 (q0.extBut _ _ e1 q))
    have kO1 : IsTupOf2 p2 TO c1 c2 := r2.extBut _ _ S.Ti2 (r1.extBut _ _ S.Ti1 (q0.extBut _ _ S.TOz kO))
    have v1 : S1 (i + 1) p2 := D1.over u1 r2 S.sep2_1
    refine wpAny_pure ⟨_, rfl, ?_⟩
    show Q (.ref p2.objs.size) ⟨p2.push { cls := .type "tuple", data := .seq #[x, y] }, gs, dr, tk2, os⟩
    have kT : IsTupOf2 (p2.push { cls := .type "tuple", data := .seq #[x, y] }) p2.objs.size x y := Heap.get?_push_size _ rfl
    have l4 : (p2.push { cls := .type "tuple", data := .seq #[x, y] }).objs.size = p2.objs.size + 1 := Heap.size_push ..
    rw [lz] at kT l4 ⊢
    subst eT
    exact hQ x y _ tk2 T true hx hy (Heap.get?_push_of_some _ kz2) ⟨_, _, Heap.get?_push_of_some _ kO1⟩ (D1.frame _ _ _ v1 fun a ha o q => Heap.get?_push_of_some _ q) (D2.frame _ _ _ u2 fun a ha o q => Heap.get?_push_of_some _ q) kT l4
      fun c o e1 e2 e3 e4 q => Heap.get?_push_of_some _ (keep c o e1 e2 e3 e4 q)
theorem zp_end {Q : Fin → Shared → Prop} (S : ZipSep2 z TI TO i1 i2 f1 f2) (D1 : Draws prog w A i1 f1 n1 P1 S1) (D2 : Draws prog w A i2 f2 n2 P2 S2)
    (kz : ZpAt s.heap z TI TO v b) (hv : Own0 v) (kI : IsTupOf2 s.heap TI (.ref i1) (.ref i2)) (kO : IsTupOf2 s.heap TO c1 c2) (t1 : S1 i s.heap) (t2 : S2 i s.heap) (m1 : i ≤ n1) (m2 : i ≤ n2) (hend : i = n1 ∨ i = n2)
    (hE : ∀ g tk e, (∀ c o, c ≠ z → c ≠ TO → c ≠ i1 → c ≠ i2 → s.heap.get? c = some o → g.get? c = some o) → (∃ o, g.get? e = some o ∧ o.cls = .type "StopIteration") → E (.ref e) { s with heap := g, toks := tk }) :
    wpAny (model prog w) A (Builtin.«zip.__next__» ⟨[.ref z], []⟩) Q E s := by
  obtain ⟨hp, gs, dr, tk0, os⟩ := s
  show wpAny _ _ (field (.ref z) 2 >>= _) _ _ _
  refine wpAny_bind (wpAny_field kz rfl (x := .bool false) rfl ?_)
  show wpAny _ _ (field (.ref z) 3 >>= _) _ _ _
  refine wpAny_bind (wpAny_field kz rfl (x := .ref TI) rfl ?_)
  refine wpAny_bind (wpAny_seqItems kI rfl ?_)
  show wpAny _ _ (Builtin.SmallTypes.ownedTupleIsFree (.ref z) >>= _) _ _ _
  refine wpAny_bind (zp_free kz hv ?_ fun T g0 eT kz0 q0 => ?_)
  · simp only [if_true]
    refine wpAny_bind (wpAny_rule ?_)
    refine wpAny_bind (wpAny_field kz rfl (x := .ref TO) rfl ?_)
    refine wpAny_bind (wpAny_setField_rec kz (by simp) fun g0 kz0 q0 => ?_)
    replace kz0 : ZpAt g0 z TI TO .ellipsis b := kz0
    replace q0 : Heap.SameBut z hp g0 := q0
    refine wpAny_bind ?_
    simp only [List.zipIdx_nil, List.zipIdx_cons, List.forIn_nil, List.forIn_cons]
    refine wpAny_bind (wpAny_bind (wpAny_onRaise ?_))
    show wpAny _ _ (Builtin.SmallTypes.nextOf (.ref i1) >>= _) _ _ ⟨g0, gs, dr, tk0, os⟩
    by_cases m : i < n1
    · refine wpAny_bind (D1.item i _ _ _ m (D1.over t1 q0 S.zf1) fun x p1 tk1 hx u1 r1 => wpAny_pure ?_)
      replace r1 : Heap.SameBut i1 g0 p1 := r1
      have kO1 : IsTupOf2 p1 TO c1 c2 := r1.extBut _ _ S.Ti1 (q0.extBut _ _ S.TOz kO)
      refine wpAny_bind (wpAny_seqItems (s := ⟨p1, gs, dr, tk1, os⟩) kO1 rfl ?_)
      refine wpAny_bind (updateSeq_IsTupOf2 (s := ⟨p1, gs, dr, tk1, os⟩) kO1 fun g1 kO2 q1 => ?_)
      replace q1 : Heap.SameBut TO p1 g1 := q1
      refine wpAny_bind (wpAny_letGo (wpAny_pure ?_))
      have e2 : i = n2 := by omega
      refine wpAny_bind (wpAny_bind (wpAny_onRaise ?_))
      show wpAny _ _ (Builtin.SmallTypes.nextOf (.ref i2) >>= _) _ _ ⟨g1, gs, dr, tk1, os⟩
      refine wpAny_bind (D2.done ⟨g1, gs, dr, tk1, os⟩ _ _ (by rw [← e2]; exact D2.over (D2.over (D2.over t2 q0 S.zf2) r1 S.sep1_2) q1 S.Tf2) fun g2 e r2 he => ?_)
      replace r2 : Heap.ExtBut i2 g1 g2 := r2
      obtain ⟨oe, oe1, oe2⟩ := he
      replace oe1 : g2.get? e = some oe := oe1
      have kz2 : ZpAt g2 z TI TO .ellipsis b := r2 _ _ S.zi2 (q1.extBut _ _ S.TOz.symm (r1.extBut _ _ S.zi1 kz0))
      have ne : e ≠ z := fun k => by subst k; rw [kz2] at oe1; cases oe1; simp at oe2
      refine wpAny_setField_rec (s := ⟨g2, gs, dr, tk1, os⟩) kz2 (by simp) fun g3 _ q3 => ?_
      replace q3 : Heap.SameBut z g2 g3 := q3
      exact hE g3 tk1 e (fun c o e1 e2 e3 e4 q => q3.extBut _ _ e1 (r2 _ _ e4 (q1.extBut _ _ e2 (r1.extBut _ _ e3 (q0.extBut _ _ e1 q))))) ⟨oe, q3.extBut _ _ ne oe1, oe2⟩
    · have e1 : i = n1 := by omega
      refine wpAny_bind (D1.done ⟨g0, gs, dr, tk0, os⟩ _ _ (by rw [← e1]; exact D1.over t1 q0 S.zf1) fun g2 e r2 he => ?_)
      replace r2 : Heap.ExtBut i1 g0 g2 := r2
      obtain ⟨oe, oe1, oe2⟩ := he
      replace oe1 : g2.get? e = some oe := oe1
      have kz2 : ZpAt g2 z TI TO .ellipsis b := r2 _ _ S.zi1 kz0
      have ne : e ≠ z := fun k => by subst k; rw [kz2] at oe1; cases oe1; simp at oe2
      refine wpAny_setField_rec (s := ⟨g2, gs, dr, tk0, os⟩) kz2 (by simp) fun g3 _ q3 => ?_
      replace q3 : Heap.SameBut z g2 g3 := q3
      exact hE g3 tk0 e (fun c o e1 e2 e3 e4 q => q3.extBut _ _ e1 (r2 _ _ e3 (q0.extBut _ _ e1 q))) ⟨oe, q3.extBut _ _ ne oe1, oe2⟩
  · simp only [if_false, Bool.false_eq_true]
    replace q0 : Heap.SameBut z hp g0 := q0
    refine wpAny_bind ?_
    rw [← Array.forIn_toList]
    simp only [List.forIn_nil, List.forIn_cons]
    refine wpAny_bind (wpAny_bind (wpAny_holding ?_))
    show wpAny _ _ (Builtin.SmallTypes.nextOf (.ref i1) >>= _) _ _ ⟨g0, gs, dr, tk0, os⟩
    by_cases m : i < n1
    · refine wpAny_bind (D1.item i _ _ _ m (D1.over t1 q0 S.zf1) fun x p1 tk1 hx u1 r1 => wpAny_pure ?_)
      replace r1 : Heap.SameBut i1 g0 p1 := r1
      refine wpAny_pure ?_
      refine wpAny_bind (wpAny_bind (wpAny_holding ?_))
      show wpAny _ _ (Builtin.SmallTypes.nextOf (.ref i2) >>= _) _ _ ⟨p1, gs, dr, tk1, os⟩
      have e2 : i = n2 := by omega
      refine wpAny_bind (D2.done ⟨p1, gs, dr, tk1, os⟩ _ _ (by rw [← e2]; exact D2.over (D2.over t2 q0 S.zf2) r1 S.sep1_2) fun g2 e r2 he => ?_)
      replace r2 : Heap.ExtBut i2 p1 g2 := r2
      exact hE g2 tk1 e (fun c o e1 e2 e3 e4 q => r2 _ _ e4 (r1.extBut _ _ e3 (q0.extBut _ _ e1 q))) he
    · have e1 : i = n1 := by omega
      refine wpAny_bind (D1.done ⟨g0, gs, dr, tk0, os⟩ _ _ (by rw [← e1]; exact D1.over t1 q0 S.zf1) fun g2 e r2 he => ?_)
      replace r2 : Heap.ExtBut i1 g0 g2 := r2
      exact hE g2 tk0 e (fun c o e1 e2 e3 e4 q => r2 _ _ e3 (q0.extBut _ _ e1 q)) he
/-! ### enumerate over what gives its next item somehow -/
theorem en_item {e it : Addr} {j : Int} {old : Value} {Q : Option Value → Shared → Prop} {R : Value → Heap → Nat → Prop} (ke : IsEnum s.heap e it j old)
    (nx : ∀ Q' E' : Value → Shared → Prop, (∀ x g tk, R x g tk → Q' x { s with heap := g, toks := tk }) → wpAny (model prog w) A.in1 (Builtin.SmallTypes.nextOf (.ref it)) Q' E' s) (kr : ∀ x g tk, R x g tk → IsEnum g e it j old)
    (hQ : ∀ x h1 t1 g tk, R x h1 t1 → IsEnumOut g e it (j + 1) x h1.objs.size → g.get? h1.objs.size = some { cls := .type "tuple", data := .seq #[.int j tk, x] } → g.objs.size = h1.objs.size + 1 →
      (∀ c o, c ≠ e → h1.get? c = some o → g.get? c = some o) → Q (some (.ref h1.objs.size)) { s with heap := g, toks := tk + 1 }) :
    wpAny (model prog w) A (pyNext (.ref e)) Q E s := by
  have hT : s.TypeIs (.ref e) "enumerate" := ⟨_, ke, rfl⟩
  unfold pyNext
  refine wpAny_bind (wpAny_attempt (wpAny_callSpecial?_slot (name := Str.ofString "__next__") hT F.slot_enumerate_next (wpAny_call_entry F.slot_enumerate_next hT F.entry_enumerate_next ?_ (F.args_enumerate_next_1 _))))
  obtain ⟨hp, gs, dr, tk0, os⟩ := s
  show wpAny _ _ (field (.ref e) 2 >>= _) _ _ _
  refine wpAny_bind (wpAny_field ke rfl (x := .ref it) rfl ?_)
  refine wpAny_bind (nx _ _ fun x h1 t1 hr => ?_)
  have k1 := kr _ _ _ hr
  show wpAny _ _ (field (.ref e) 3 >>= _) _ _ ⟨h1, gs, dr, t1, os⟩
  refine wpAny_bind (wpAny_field k1 rfl (x := rawInt j) rfl ?_)
  show wpAny _ _ (field (.ref e) 4 >>= _) _ _ ⟨h1, gs, dr, t1, os⟩
  refine wpAny_bind (wpAny_field k1 rfl (x := .none) rfl ?_)
  show wpAny _ _ (mkInt j >>= _) _ _ ⟨h1, gs, dr, t1, os⟩
  refine wpAny_bind (wpAny_mkInt ?_)
  show wpAny _ _ (setField (.ref e) 3 (rawInt (j + 1)) >>= _) _ _ ⟨h1, gs, dr, t1 + 1, os⟩
  refine wpAny_bind (wpAny_setField_rec k1 (by simp) fun h2 k2 q2 => ?_)
  replace q2 : Heap.SameBut e h1 h2 := q2
  replace k2 : IsEnum h2 e it (j + 1) old := k2
  show wpAny _ _ (setField (.ref e) 4 .none >>= _) _ _ ⟨h2, gs, dr, t1 + 1, os⟩
  refine wpAny_bind (wpAny_setField_rec k2 (by simp) fun h3 k3 q3 => ?_)
  replace q3 : Heap.SameBut e h2 h3 := q3
  replace k3 : IsEnum h3 e it (j + 1) old := k3
  show wpAny _ _ (newTuple [.int j t1, x] >>= _) _ _ ⟨h3, gs, dr, t1 + 1, os⟩
  refine wpAny_bind (wpAny_newTuple ?_)
  have k4 : IsEnum (h3.push { cls := .type "tuple", data := .seq #[.int j t1, x] }) e it (j + 1) old := Heap.get?_push_of_some _ k3
  have lz : h3.objs.size = h1.objs.size := by rw [q3.1, q2.1]
  have el : e < h1.objs.size := Heap.lt_size k1
  have kt : (h3.push { cls := .type "tuple", data := .seq #[.int j t1, x] }).get? h1.objs.size = some { cls := .type "tuple", data := .seq #[.int j t1, x] } := by rw [← lz]; exact Heap.get?_push_size _ rfl
  have l4 : (h3.push { cls := .type "tuple", data := .seq #[.int j t1, x] }).objs.size = h1.objs.size + 1 := by rw [Heap.size_push, lz]
  have keep : ∀ c o, c ≠ e → h1.get? c = some o → (h3.push { cls := .type "tuple", data := .seq #[.int j t1, x] }).get? c = some o := fun c o e1 q => Heap.get?_push_of_some _ (q3.extBut _ _ e1 (q2.extBut _ _ e1 q))
  generalize eh : h3.push { cls := .type "tuple", data := .seq #[.int j t1, x] } = h4 at k4 kt l4 keep
  show wpAny _ _ (Builtin.SmallTypes.ownedTupleIsFree (.ref e) >>= _) _ _ ⟨h4, gs, dr, t1 + 1, os⟩
  rw [lz]
  refine wpAny_bind ?_
  unfold Builtin.SmallTypes.ownedTupleIsFree
  refine wpAny_bind (wpAny_field k4 rfl (x := .none) rfl (wpAny_pure ?_))
  simp only [if_true]
  refine wpAny_bind (wpAny_rule ?_)
  refine wpAny_bind (wpAny_field k4 rfl (x := old) rfl ?_)
  refine wpAny_bind (wpAny_setField_rec k4 (by simp) fun h5 k5 q5 => ?_)
  replace q5 : Heap.SameBut e h4 h5 := q5
  replace k5 : IsEnum h5 e it (j + 1) x := k5
  show wpAny _ _ (Builtin.SmallTypes.ownedTupleHandOut (.ref e) (.ref h1.objs.size) >>= _) _ _ ⟨h5, gs, dr, t1 + 1, os⟩
  refine wpAny_bind ?_
  unfold Builtin.SmallTypes.ownedTupleHandOut
  refine wpAny_bind (wpAny_setField_rec k5 (by simp) fun h6 k6 q6 => ?_)
  replace q6 : Heap.SameBut e h5 h6 := q6
  replace k6 : IsEnumOut h6 e it (j + 1) x h1.objs.size := k6
  refine wpAny_setField_rec k6 (by simp) fun h7 k7 q7 => ?_
  replace q7 : Heap.SameBut e h6 h7 := q7
  replace k7 : IsEnumOut h7 e it (j + 1) x h1.objs.size := k7
  have ne : h1.objs.size ≠ e := Nat.ne_of_gt el
  refine wpAny_bind (wpAny_letGo (wpAny_pure ⟨_, rfl, wpAny_pure (hQ x h1 t1 h7 t1 hr k7 (q7.extBut _ _ ne (q6.extBut _ _ ne (q5.extBut _ _ ne kt))) ?_ fun c o e1 q => q7.extBut _ _ e1 (q6.extBut _ _ e1 (q5.extBut _ _ e1 (keep c o e1 q))))⟩))
  rw [q7.1, q6.1, q5.1, l4]
theorem en_end {e it : Addr} {j : Int} {old : Value} {Q : Option Value → Shared → Prop} {R : Heap → Nat → Prop} (ke : IsEnum s.heap e it j old)
    (nx : ∀ (Q' : Value → Shared → Prop) (E' : Value → Shared → Prop), (∀ x g tk, R g tk → (∃ o, g.get? x = some o ∧ o.cls = .type "StopIteration") → E' (.ref x) { s with heap := g, toks := tk }) → wpAny (model prog w) A.in1 (Builtin.SmallTypes.nextOf (.ref it)) Q' E' s)
    (hQ : ∀ g tk, R g tk → Q none { s with heap := g, toks := tk }) : wpAny (model prog w) A (pyNext (.ref e)) Q E s := by
  have hT : s.TypeIs (.ref e) "enumerate" := ⟨_, ke, rfl⟩
  unfold pyNext
  refine wpAny_bind (wpAny_attempt (wpAny_callSpecial?_slot (name := Str.ofString "__next__") hT F.slot_enumerate_next (wpAny_call_entry F.slot_enumerate_next hT F.entry_enumerate_next ?_ (F.args_enumerate_next_1 _))))
  show wpAny _ _ (field (.ref e) 2 >>= _) _ _ _
  refine wpAny_bind (wpAny_field ke rfl (x := .ref it) rfl ?_)
  refine wpAny_bind (nx _ _ fun x g tk hr ho => ?_)
  obtain ⟨o, ho, hc⟩ := ho
  refine wpAny_bind (wpAny_isInstance (T := "StopIteration") (b := true) ⟨o, ho, hc⟩ isSubtype_stop ?_)
  exact wpAny_pure (hQ _ _ hr)
end

/-! ### lists and tuples alike -/
def ItAt (k : Bool) (h : Heap) (it a : Addr) (i : Nat) : Prop := match k with
  | true => h.IsListIter it a i
  | false => h.IsTupleIter it a i
def IsSq (k : Bool) (h : Heap) (a : Addr) (its : Array Value) : Prop := match k with
  | true => h.IsList a its
  | false => h.IsTuple a its
def SqA (k : Bool) (K : PySem.W.Frag) (H : Hp) (a : Addr) (xs : List V) : Prop := match k with
  | true => SqL K H a xs
  | false => SqT K H a xs
theorem draws_k {prog : Program} {w : World} {A : Around} (k : Bool) (hh : A.handled = none) (it a : Addr) (ne : a ≠ it) (its : Array Value) : Draws prog w A it [it, a] its.size (fun i v => its[i]? = some v) (fun i h => ItAt k h it a i ∧ IsSq k h a its) := match k with
  | true => Draws.list hh it a ne its
  | false => Draws.tuple hh it a ne its
theorem past_k {prog : Program} {w : World} {A : Around} {E : Value → Shared → Prop} {s : Shared} {it a : Addr} {i : Nat} {items : Array Value} {Q : Value → Shared → Prop} (k : Bool) (hh : A.handled = none) (q : ItAt k s.heap it a i) (p : IsSq k s.heap a items) (hx : items[i]? = none)
    (hE : ∀ g e, Heap.ExtBut it s.heap g → (∃ o, g.get? e = some o ∧ o.cls = .type "StopIteration") → E (.ref e) { s with heap := g }) : wpAny (model prog w) A (Builtin.SmallTypes.nextOf (.ref it)) Q E s := match k, q, p with
  | true, q, p => wpAny_nextOf_list_end hh q p hx hE
  | false, q, p => wpAny_nextOf_tuple_end hh q p hx hE
theorem ItAt.at {k : Bool} {h h' : Heap} {it a : Addr} {i : Nat} (q : ItAt k h it a i) (f : ∀ o, h.get? it = some o → h'.get? it = some o) : ItAt k h' it a i := match k, q with
  | true, q => Heap.IsListIter.at q f
  | false, q => Heap.IsTupleIter.at q f
theorem ItAt.ob {k : Bool} {h : Heap} {it a : Addr} {i : Nat} (q : ItAt k h it a i) : ∃ o vs, h.get? it = some o ∧ o.data = .fields vs := match k, q with
  | true, ⟨o, e, _, d⟩ => ⟨o, _, e, d⟩
  | false, ⟨o, e, _, d⟩ => ⟨o, _, e, d⟩
theorem ItAt.new {k : Bool} {h : Heap} {it a : Addr} (e : h.get? it = some { cls := .type (if k then "list_iterator" else "tuple_iterator"), data := .fields #[.ref a, .int 0 0] }) : ItAt k h it a 0 := match k, e with
  | true, e => ⟨_, e, rfl, rfl⟩
  | false, e => ⟨_, e, rfl, rfl⟩
theorem inv_sq {X : Cx} {pins : List (Addr × Obj)} {σ : L2.St} {H : Hp} {s : Shared} {a : Addr} {xs : List V} {k : Bool} (I : Inv X pins σ H s) (h : SqA k X.K H a xs) : ∃ its : List Value, Vals xs its ∧ IsSq k s.heap a its.toArray ∧ a < s.heap.objs.size := match k, h with
  | true, h => let ⟨its, rv, p, _⟩ := I.list h; ⟨its, rv, p.isList, p.lt⟩
  | false, h => let ⟨its, rv, p, _⟩ := I.tuple h; ⟨its, rv, p, by obtain ⟨o, e, _⟩ := id p; exact Heap.lt_size e⟩
theorem inv_sqi {X : Cx} {pins : List (Addr × Obj)} {σ : L2.St} {H : Hp} {s : Shared} {a : Addr} {xs ys : List V} {k : Bool} (I : Inv X pins σ H s) (h : SqA k X.K H a xs) (h' : SqA k X.K H a ys) : xs = ys := match k, h, h' with
  | true, h, h' => I.list_inj h h'
  | false, h, h' => I.tuple_inj h h'

/-! ### enumerate: the pairs (i, x) -/
def ItEk (k : Bool) (K : PySem.W.Frag) (a : Addr) : It :=
  ⟨fun i H => ∃ (xs : List V) (x : V), SqA k K H a xs ∧ xs[i]? = some x, fun i H v H' => ∃ T x, v = .ref T ∧ H T = none ∧ H' = upd H T (.tup [.int (i : Nat), x]) ∧ ∀ xs, SqA k K H a xs → xs[i]? = some x,
    fun i H => ∃ xs : List V, SqA k K H a xs ∧ xs.length ≤ i⟩
theorem turn_ek {P : Program} {w : World} {K : PySem.W.Frag} {elts : List Expr} {kk : Nat} {tpos : Pos} (k : Bool) (N a : Addr) (ha : a < N) :
    Turn P w K (.Tuple elts kk tpos) (ItEk k K a) [N + 1, N] (N + 1) (fun i h => (∃ old, IsEnum h (N + 1) N ((i : Nat) : Int) old) ∧ ItAt k h N a i) where
  mem := by simp
  obj := fun i h st b hb => by
    obtain ⟨⟨old, he⟩, q⟩ := st
    obtain ⟨o, vs, ho, hd⟩ := q.ob
    have e' : b = N + 1 ∨ b = N := by simpa using hb
    rcases e' with z | z
    · rw [z]; exact ⟨_, he, fun v y => nomatch y⟩
    · rw [z]; exact ⟨o, ho, fun v y => by rw [hd] at y; cases y⟩
  keep := fun i h h' st kp => ⟨⟨st.1.choose, kp (N + 1) (by simp) _ st.1.choose_spec⟩, st.2.at fun o y => kp N (by simp) o y⟩
  item := by
    intro X hP hw hK hc i pins s σ H E I hf st hg
    subst hP hw hK
    obtain ⟨⟨old, he⟩, hit⟩ := st
    obtain ⟨xs, x, hq, hx⟩ := hg
    obtain ⟨its, rv, p, _⟩ := inv_sq I hq
    obtain ⟨u, hu, ru⟩ := rv.get hx
    have hh : X.A.in1.handled = none := I.ok.hd hc
    have el : N + 1 < s.heap.objs.size := Heap.lt_size he
    have D := draws_k (prog := X.prog) (w := X.w) (A := X.A.in1) k hh N a (Nat.ne_of_lt ha) its.toArray
    have hi : i < its.toArray.size := (Array.getElem?_eq_some_iff.mp (show its.toArray[i]? = some u by simpa using hu)).1
    refine en_item (R := fun y g tk => y = u ∧ ItAt k g N a (i + 1) ∧ Heap.SameBut N s.heap g) he (fun Q' E' hQ' => D.item i s Q' E' hi ⟨hit, p⟩ fun y g tk e1 e2 e3 => hQ' y g tk ⟨?_, e2.1, e3⟩) (fun y g tk r => (r.2.2.2 _ (Nat.succ_ne_self N)).trans he) fun y h1 t1 g tk r ko kt l4 kp => ?_
    · have e1 : its.toArray[i]? = some y := e1
      have : its.toArray[i]? = some u := by simpa using hu
      rw [this] at e1
      exact (Option.some.inj e1).symm
    · obtain ⟨rfl, e2, e3⟩ := r
      rw [e3.1] at ko kt l4
      show ∃ u, _ ∧ _
      rw [e3.1]
      refine ⟨_, rfl, wpAny_letOwnedTupleGo_enum (s := { s with heap := g, toks := tk + 1 }) ko fun g2 ke2 sb => ?_⟩
      have kt2 : g2.get? s.heap.objs.size = some { cls := .type "tuple", data := .seq #[.int i tk, y] } := (sb.2 _ (Nat.ne_of_gt el)).trans kt
      have new : ObjOk X.prog X.w (upd H s.heap.objs.size (.tup [.int (i : Nat), x])) g2 s.heap.objs.size (.tup [.int (i : Nat), x]) :=
        ⟨by show 2 ≤ sizeLine; decide, [.int i tk, y], .cons ⟨_, rfl⟩ (.cons ru .nil), ⟨_, kt2, rfl, _, rfl⟩⟩
      have I1 : Inv X pins σ (upd H s.heap.objs.size (.tup [.int (i : Nat), x])) { s with heap := g2, toks := tk + 1 } :=
        I.turnedNew (ch := [N + 1, N]) (fun b ob hb q => (sb.2 b (fun z => hb (by simp [z]))).trans (kp b ob (fun z => hb (by simp [z])) ((e3.2 b (fun z => hb (by simp [z]))).trans q))) hf (Nat.le_refl _) new
      refine ⟨.ref s.heap.objs.size, _, I1, rfl, ⟨_, x, rfl, I.hok.fresh (Nat.le_refl _), rfl, fun ys hy => by rw [inv_sqi I hy hq]; exact hx⟩, ⟨⟨y, ?_⟩, e2.at fun o q => (sb.2 N (Nat.succ_ne_self N).symm).trans (kp N o (Nat.succ_ne_self N).symm q)⟩, fun b hb => ?_⟩
      · have e1 : ((i + 1 : Nat) : Int) = (i : Int) + 1 := by omega
        rw [e1]; exact ke2
      · have hb' : b < s.heap.objs.size := by
          have e' : b = N + 1 ∨ b = N := by simpa using hb
          rcases e' with z | z
          · rw [z]; exact el
          · rw [z]; exact Nat.lt_of_succ_lt el
        rw [upd_ne (Nat.ne_of_lt hb')]
        exact (hf b hb).1
  done := by
    intro X hP hw hK hc i pins s σ H E I hf st hg
    subst hP hw hK
    obtain ⟨⟨old, he⟩, hit⟩ := st
    obtain ⟨xs, hq, hx⟩ := hg
    obtain ⟨its, rv, p, _⟩ := inv_sq I hq
    have hh : X.A.in1.handled = none := I.ok.hd hc
    have hl := rv.length
    have el : N + 1 < s.heap.objs.size := Heap.lt_size he
    have D := draws_k (prog := X.prog) (w := X.w) (A := X.A.in1) k hh N a (Nat.ne_of_lt ha) its.toArray
    refine en_end (R := fun g tk => Heap.ExtBut N s.heap g ∧ tk = s.toks) he (fun Q' E' hE' => past_k k hh hit p (Array.getElem?_eq_none (by rw [List.size_toArray]; omega)) fun g x e1 e2 => hE' x g s.toks ⟨e1, rfl⟩ e2) fun g tk r => ⟨rfl, ?_⟩
    obtain ⟨r, rfl⟩ := r
    exact I.turnedL (t' := s.toks) (ch := [N + 1, N]) (fun b o hb q => r b o (fun z => hb (by simp [z])) q) hf
  self := fun A i s Q E st h => wpAny_pyIter_enum st.1.choose_spec h

/-! ### enumerate over zip: the pairs (i, (x, y)) -/
def ItEz (k1 k2 : Bool) (K : PySem.W.Frag) (a b : Addr) : It :=
  ⟨fun i H => ∃ (xs ys : List V) (x y : V), SqA k1 K H a xs ∧ SqA k2 K H b ys ∧ xs[i]? = some x ∧ ys[i]? = some y,
    fun i H v H' => ∃ T T' x y, v = .ref T ∧ H T' = none ∧ upd H T' (.tup [x, y]) T = none ∧ H' = upd (upd H T' (.tup [x, y])) T (.tup [.int (i : Nat), .ref T']) ∧ (∀ xs, SqA k1 K H a xs → xs[i]? = some x) ∧ ∀ ys, SqA k2 K H b ys → ys[i]? = some y,
    fun i H => ∃ xs ys : List V, SqA k1 K H a xs ∧ SqA k2 K H b ys ∧ i = min xs.length ys.length⟩
theorem zp_next {prog : Program} {w : World} {A : Around} {E : Value → Shared → Prop} {s : Shared} {z TI TO i1 i2 : Addr} {f1 f2 : List Addr} {n1 n2 i : Nat} {P1 P2 : Nat → Value → Prop} {S1 S2 : Nat → Heap → Prop} {c1 c2 v : Value} {b : Bool}
    {Q : Value → Shared → Prop} (S : ZipSep2 z TI TO i1 i2 f1 f2) (D1 : Draws prog w A.in1 i1 f1 n1 P1 S1) (D2 : Draws prog w A.in1 i2 f2 n2 P2 S2)
    (kz : ZpAt s.heap z TI TO v b) (hv : Own0 v) (kI : IsTupOf2 s.heap TI (.ref i1) (.ref i2)) (kO : IsTupOf2 s.heap TO c1 c2) (t1 : S1 i s.heap) (t2 : S2 i s.heap) (m1 : i < n1) (m2 : i < n2)
    (hQ : ∀ x y g tk T b', P1 i x → P2 i y → ZpAt g z TI TO (rawInt (T : Addr)) b' → (∃ d1 d2, IsTupOf2 g TO d1 d2) → S1 (i + 1) g → S2 (i + 1) g → IsTupOf2 g s.heap.objs.size x y → g.objs.size = s.heap.objs.size + 1 →
      (∀ c o, c ≠ z → c ≠ TO → c ≠ i1 → c ≠ i2 → s.heap.get? c = some o → g.get? c = some o) → Q (.ref s.heap.objs.size) { s with heap := g, toks := tk }) :
    wpAny (model prog w) A (Builtin.SmallTypes.nextOf (.ref z)) Q E s := by
  have hT : s.TypeIs (.ref z) "zip" := ⟨_, kz, rfl⟩
  unfold Builtin.SmallTypes.nextOf
  exact wpAny_bind (wpAny_callSpecial?_slot (name := Str.ofString "__next__") hT F.slot_zip_next (wpAny_call_entry F.slot_zip_next hT F.entry_zip_next
    (zp_item S D1 D2 kz hv kI kO t1 t2 m1 m2 fun x y g tk T b' a1 a2 a3 a4 a5 a6 a7 a8 a9 => wpAny_pure (hQ x y g tk T b' a1 a2 a3 a4 a5 a6 a7 a8 a9)) (F.args_zip_next_1 _)))
theorem zp_nextE {prog : Program} {w : World} {A : Around} {E : Value → Shared → Prop} {s : Shared} {z TI TO i1 i2 : Addr} {f1 f2 : List Addr} {n1 n2 i : Nat} {P1 P2 : Nat → Value → Prop} {S1 S2 : Nat → Heap → Prop} {c1 c2 v : Value} {b : Bool}
    {Q : Value → Shared → Prop} (S : ZipSep2 z TI TO i1 i2 f1 f2) (D1 : Draws prog w A.in1 i1 f1 n1 P1 S1) (D2 : Draws prog w A.in1 i2 f2 n2 P2 S2)
    (kz : ZpAt s.heap z TI TO v b) (hv : Own0 v) (kI : IsTupOf2 s.heap TI (.ref i1) (.ref i2)) (kO : IsTupOf2 s.heap TO c1 c2) (t1 : S1 i s.heap) (t2 : S2 i s.heap) (m1 : i ≤ n1) (m2 : i ≤ n2) (hend : i = n1 ∨ i = n2)
    (hE : ∀ g tk e, (∀ c o, c ≠ z → c ≠ TO → c ≠ i1 → c ≠ i2 → s.heap.get? c = some o → g.get? c = some o) → (∃ o, g.get? e = some o ∧ o.cls = .type "StopIteration") → E (.ref e) { s with heap := g, toks := tk }) :
    wpAny (model prog w) A (Builtin.SmallTypes.nextOf (.ref z)) Q E s := by
  have hT : s.TypeIs (.ref z) "zip" := ⟨_, kz, rfl⟩
  unfold Builtin.SmallTypes.nextOf
  exact wpAny_bind (wpAny_callSpecial?_slot (name := Str.ofString "__next__") hT F.slot_zip_next (wpAny_call_entry F.slot_zip_next hT F.entry_zip_next (zp_end S D1 D2 kz hv kI kO t1 t2 m1 m2 hend hE) (F.args_zip_next_1 _)))
theorem ez_sep (N a b : Addr) (ha : a < N) (hb : b < N) : ZipSep2 (N + 4) (N + 2) (N + 3) N (N + 1) [N, a] [N + 1, b] := by
  have e : ∀ {i j : Nat}, i ≠ j → N + i ≠ N + j := fun h k => h (Nat.add_left_cancel k)
  have ea : ∀ i : Nat, N + i ≠ a := fun i => Nat.ne_of_gt (Nat.lt_of_lt_of_le ha (Nat.le_add_right N i))
  have eb : ∀ i : Nat, N + i ≠ b := fun i => Nat.ne_of_gt (Nat.lt_of_lt_of_le hb (Nat.le_add_right N i))
  have z : ∀ i : Nat, i ≠ 0 → N + i ≠ N := fun i h => e (i := i) (j := 0) h
  have z' : ∀ i : Nat, i ≠ 0 → N ≠ N + i := fun i h => (z i h).symm
  exact ⟨e (by decide), e (by decide), e (by decide), z 2 (by decide), by simp, by simp [z 4, ea], by simp [z 3, ea], e (by decide), by simp, by simp [e, eb], by simp [e, eb], by simp [z', Nat.ne_of_gt hb], by simp [z 1, ea]⟩
end MP

/-! Mirror layer, part 18: enumerate(zip(..)), enumerate and zip of lists and tuples, as walks. -/
namespace MP
open PySem PySem.Spec L2

theorem turn_ez {P : Program} {w : World} {K : PySem.W.Frag} {elts : List Expr} {kk : Nat} {tpos : Pos} (k1 k2 : Bool) (N a b : Addr) (ha : a < N) (hb : b < N) :
    Turn P w K (.Tuple elts kk tpos) (ItEz k1 k2 K a b) [N + 5, N + 4, N + 2, N + 3, N, N + 1] (N + 5) (fun i h => (∃ old, IsEnum h (N + 5) (N + 4) ((i : Nat) : Int) old) ∧ (∃ v c, Own0 v ∧ ZpAt h (N + 4) (N + 2) (N + 3) v c) ∧
      IsTupOf2 h (N + 2) (.ref N) (.ref (N + 1)) ∧ (∃ d1 d2, IsTupOf2 h (N + 3) d1 d2) ∧ ItAt k1 h N a i ∧ ItAt k2 h (N + 1) b i) where
  mem := by simp
  obj := fun i h st c hc => by
    obtain ⟨⟨old, he⟩, ⟨v, q, _, hz⟩, hI, ⟨d1, d2, hO⟩, t1, t2⟩ := st
    obtain ⟨o1, vs1, e1, g1⟩ := t1.ob
    obtain ⟨o2, vs2, e2, g2⟩ := t2.ob
    simp only [List.mem_cons, List.not_mem_nil, or_false] at hc
    rcases hc with z | z | z | z | z | z
    · rw [z]; exact ⟨_, he, fun v y => nomatch y⟩
    · rw [z]; exact ⟨_, hz, fun v y => nomatch y⟩
    · rw [z]; exact ⟨_, hI, fun v y => nomatch y⟩
    · rw [z]; exact ⟨_, hO, fun v y => nomatch y⟩
    · rw [z]; exact ⟨_, e1, fun v y => by rw [g1] at y; cases y⟩
    · rw [z]; exact ⟨_, e2, fun v y => by rw [g2] at y; cases y⟩
  keep := fun i h h' st kp => by
    obtain ⟨⟨old, he⟩, ⟨v, q, hv, hz⟩, hI, ⟨d1, d2, hO⟩, t1, t2⟩ := st
    exact ⟨⟨old, kp _ (by simp) _ he⟩, ⟨v, q, hv, kp _ (by simp) _ hz⟩, kp _ (by simp) _ hI, ⟨d1, d2, kp _ (by simp) _ hO⟩, t1.at fun o y => kp N (by simp) o y, t2.at fun o y => kp _ (by simp) o y⟩
  item := by
    intro X hP hw hK hc i pins s σ H E I hf st hg
    subst hP hw hK
    obtain ⟨⟨old, he⟩, ⟨v, q, hv, hz⟩, hI, ⟨d1, d2, hO⟩, t1, t2⟩ := st
    obtain ⟨xs, ys, x, y, hq1, hq2, hx, hy⟩ := hg
    obtain ⟨its, rv, p, _⟩ := inv_sq I hq1
    obtain ⟨its2, rv2, p2, _⟩ := inv_sq I hq2
    obtain ⟨u, hu, ru⟩ := rv.get hx
    obtain ⟨u2, hu2, ru2⟩ := rv2.get hy
    have hh : X.A.in1.in1.handled = none := I.ok.hd hc
    have el : N + 5 < s.heap.objs.size := Heap.lt_size he
    have lt : ∀ j, j ≤ 5 → N + j < s.heap.objs.size := fun j hj => Nat.lt_of_le_of_lt (Nat.add_le_add_left hj N) el
    have D1 := draws_k (prog := X.prog) (w := X.w) (A := X.A.in1.in1) k1 hh N a (Nat.ne_of_lt ha) its.toArray
    have D2 := draws_k (prog := X.prog) (w := X.w) (A := X.A.in1.in1) k2 hh (N + 1) b (Nat.ne_of_lt (Nat.lt_succ_of_lt hb)) its2.toArray
    have S := ez_sep N a b ha hb
    have u' : its.toArray[i]? = some u := by simpa using hu
    have u2' : its2.toArray[i]? = some u2 := by simpa using hu2
    have n54 : N + 5 ≠ N + 4 := by intro z; exact absurd (Nat.add_left_cancel z) (by decide)
    have n53 : N + 5 ≠ N + 3 := by intro z; exact absurd (Nat.add_left_cancel z) (by decide)
    have n52 : N + 5 ≠ N + 2 := by intro z; exact absurd (Nat.add_left_cancel z) (by decide)
    have n51 : N + 5 ≠ N + 1 := by intro z; exact absurd (Nat.add_left_cancel z) (by decide)
    have n50 : N + 5 ≠ N := by intro z; exact absurd (Nat.add_left_cancel (k := 0) z) (by decide)
    refine en_item (R := fun r g tk => r = .ref s.heap.objs.size ∧ (∃ T c, ZpAt g (N + 4) (N + 2) (N + 3) (rawInt (T : Addr)) c) ∧ (∃ d1 d2, IsTupOf2 g (N + 3) d1 d2) ∧ ItAt k1 g N a (i + 1) ∧ ItAt k2 g (N + 1) b (i + 1) ∧ IsTupOf2 g s.heap.objs.size u u2 ∧ g.objs.size = s.heap.objs.size + 1 ∧
        (∀ c o, c ≠ N + 4 → c ≠ N + 3 → c ≠ N → c ≠ N + 1 → s.heap.get? c = some o → g.get? c = some o)) he
      (fun Q' E' hQ' => zp_next (i := i) S D1 D2 hz hv hI hO ⟨t1, p⟩ ⟨t2, p2⟩ (Array.getElem?_eq_some_iff.mp u').1 (Array.getElem?_eq_some_iff.mp u2').1 fun x' y' g tk T b' a1 a2 a3 a4 a5 a6 a7 a8 a9 => ?_) (fun r g tk h => h.2.2.2.2.2.2.2 _ _ n54 n53 n50 n51 he) fun r h1 tk1 g tk hr ko kt l4 kp => ?_
    · have a1 : its.toArray[i]? = some x' := a1
      have a2 : its2.toArray[i]? = some y' := a2
      rw [u'] at a1
      rw [u2'] at a2
      cases a1
      cases a2
      exact hQ' _ g tk ⟨rfl, ⟨T, b', a3⟩, a4, a5.1, a6.1, a7, a8, a9⟩
    · obtain ⟨rfl, ⟨T0, c0, r1⟩, ⟨e1, e2, r2⟩, r3, r4, r5, r6, r7⟩ := hr
      have el1 : N + 5 < h1.objs.size := by rw [r6]; exact Nat.lt_succ_of_lt el
      refine ⟨_, rfl, wpAny_letOwnedTupleGo_enum (s := { s with heap := g, toks := tk + 1 }) ko fun g2 ke2 sb => ?_⟩
      have kt2 : g2.get? h1.objs.size = some { cls := .type "tuple", data := .seq #[.int i tk, .ref s.heap.objs.size] } := (sb.2 _ (Nat.ne_of_gt el1)).trans kt
      have new1 : ObjOk X.prog X.w (upd H s.heap.objs.size (.tup [x, y])) h1 s.heap.objs.size (.tup [x, y]) := ⟨by show 2 ≤ sizeLine; decide, [u, u2], .cons ru (.cons ru2 .nil), ⟨_, r5, rfl, _, rfl⟩⟩
      have I1 : Inv X pins σ (upd H s.heap.objs.size (.tup [x, y])) { s with heap := h1, toks := tk1 } :=
        I.turnedNew (ch := [N + 5, N + 4, N + 2, N + 3, N, N + 1]) (fun c ob hc q => r7 c ob (fun z => hc (by simp [z])) (fun z => hc (by simp [z])) (fun z => hc (by simp [z])) (fun z => hc (by simp [z])) q) hf (Nat.le_refl _) new1
      have ltf : ∀ c ∈ [N + 5, N + 4, N + 2, N + 3, N, N + 1], c < s.heap.objs.size := fun c hc => by
        simp only [List.mem_cons, List.not_mem_nil, or_false] at hc
        rcases hc with z | z | z | z | z | z
        · rw [z]; exact el
        · rw [z]; exact lt 4 (by decide)
        · rw [z]; exact lt 2 (by decide)
        · rw [z]; exact lt 3 (by decide)
        · rw [z]; exact lt 0 (by decide)
        · rw [z]; exact lt 1 (by decide)
      have hf1 : ∀ c ∈ [N + 5, N + 4, N + 2, N + 3, N, N + 1], FpOk X pins (upd H s.heap.objs.size (.tup [x, y])) c := fun c hc => ⟨by rw [upd_ne (Nat.ne_of_lt (ltf c hc))]; exact (hf c hc).1, (hf c hc).2⟩
      have new2 : ObjOk X.prog X.w (upd (upd H s.heap.objs.size (.tup [x, y])) h1.objs.size (.tup [.int (i : Nat), .ref s.heap.objs.size])) g2 h1.objs.size (.tup [.int (i : Nat), .ref s.heap.objs.size]) :=
        ⟨by show 2 ≤ sizeLine; decide, [.int i tk, .ref s.heap.objs.size], .cons ⟨_, rfl⟩ (.cons rfl .nil), ⟨_, kt2, rfl, _, rfl⟩⟩
      have I2 : Inv X pins σ (upd (upd H s.heap.objs.size (.tup [x, y])) h1.objs.size (.tup [.int (i : Nat), .ref s.heap.objs.size])) { s with heap := g2, toks := tk + 1 } :=
        I1.turnedNew (s := { s with heap := h1, toks := tk1 }) (ch := [N + 5, N + 4, N + 2, N + 3, N, N + 1]) (fun c ob hc q => (sb.2 c (fun z => hc (by simp [z]))).trans (kp c ob (fun z => hc (by simp [z])) q)) hf1 (Nat.le_refl _) new2
      have up : ∀ c o, c ≠ N + 5 → h1.get? c = some o → g2.get? c = some o := fun c o z q => (sb.2 c z).trans (kp c o z q)
      refine ⟨.ref h1.objs.size, _, I2, rfl, ⟨h1.objs.size, s.heap.objs.size, x, y, rfl, I.hok.fresh (Nat.le_refl _), I1.hok.fresh (Nat.le_refl _), rfl, fun zs hz => by rw [inv_sqi I hz hq1]; exact hx, fun zs hz => by rw [inv_sqi I hz hq2]; exact hy⟩,
        ⟨⟨.ref s.heap.objs.size, ?_⟩, ⟨rawInt (T0 : Addr), c0, .inr ⟨T0, rfl⟩, up _ _ n54.symm r1⟩, up _ _ n52.symm (r7 _ _ S.TIz S.TITO (S.TIi1) S.TIi2 hI), ⟨e1, e2, up _ _ n53.symm r2⟩, r3.at fun o z => up _ o n50.symm z, r4.at fun o z => up _ o n51.symm z⟩, fun c hc => ?_⟩
      · have e1 : ((i + 1 : Nat) : Int) = (i : Int) + 1 := by omega
        rw [e1]; exact ke2
      · rw [upd_ne (Nat.ne_of_lt (by rw [r6]; exact Nat.lt_succ_of_lt (ltf c hc)))]
        exact (hf1 c hc).1
  done := by
    intro X hP hw hK hc i pins s σ H E I hf st hg
    subst hP hw hK
    obtain ⟨⟨old, he⟩, ⟨v, q, hv, hz⟩, hI, ⟨d1, d2, hO⟩, t1, t2⟩ := st
    obtain ⟨xs, ys, hq1, hq2, hi⟩ := hg
    obtain ⟨its, rv, p, _⟩ := inv_sq I hq1
    obtain ⟨its2, rv2, p2, _⟩ := inv_sq I hq2
    have hl := rv.length
    have hl2 := rv2.length
    have hh : X.A.in1.in1.handled = none := I.ok.hd hc
    have D1 := draws_k (prog := X.prog) (w := X.w) (A := X.A.in1.in1) k1 hh N a (Nat.ne_of_lt ha) its.toArray
    have D2 := draws_k (prog := X.prog) (w := X.w) (A := X.A.in1.in1) k2 hh (N + 1) b (Nat.ne_of_lt (Nat.lt_succ_of_lt hb)) its2.toArray
    have S := ez_sep N a b ha hb
    refine en_end (R := fun g tk => ∀ c o, c ≠ N + 4 → c ≠ N + 3 → c ≠ N → c ≠ N + 1 → s.heap.get? c = some o → g.get? c = some o) he
      (fun Q' E' hE' => zp_nextE (i := i) S D1 D2 hz hv hI hO ⟨t1, p⟩ ⟨t2, p2⟩ (by rw [List.size_toArray]; omega) (by rw [List.size_toArray]; omega) (by rw [List.size_toArray, List.size_toArray]; omega) fun g tk x r ho => hE' x g tk r ho) fun g tk r => ⟨rfl, ?_⟩
    exact I.turnedL (t' := tk) (ch := [N + 5, N + 4, N + 2, N + 3, N, N + 1]) (fun c o hc q => r c o (fun z => hc (by simp [z])) (fun z => hc (by simp [z])) (fun z => hc (by simp [z])) (fun z => hc (by simp [z])) q) hf
  self := fun A i s Q E st h => wpAny_pyIter_enum st.1.choose_spec h

/-! ### how enumerate begins -/
theorem meets_en_tup (l : Addr) (items : Array Value) (n : Nat) (dct : Option Addr) (sl : Array (Option Value)) :
    Meets (Builtin.«enumerate.__new__» ⟨[.type "enumerate", .ref l], []⟩) (fun _ R s => s.heap.get? l = some { cls := .type "tuple", dict := dct, data := .seq items n, slots := sl } ∧
      R (.ok (.ret (.ref (s.heap.push { cls := .type "tuple_iterator", data := .fields #[.ref l, .int 0 0] }).objs.size)))
        { s with heap := (s.heap.push { cls := .type "tuple_iterator", data := .fields #[.ref l, .int 0 0] }).push { cls := .type "enumerate", data := .fields #[.none, .bool false, .ref s.heap.objs.size, rawInt 0, .none, .none] } }) :=
  .of_wp fun prog w A R s h => by
    obtain ⟨hp, gs, dr, tk, os⟩ := s; obtain ⟨hl, h⟩ := h
    have hsub := sub_enumerate
    have kL : Heap.IsTuple (Shared.heap ⟨hp, gs, dr, tk, os⟩) l items := ⟨_, hl, rfl, n, rfl⟩
    wp_walk using AutoSeq1.wpAny_loadPart' hl
    refine wpAny_stack_any fun st => wpAny_pure ?_
    split
    · rename_i c _ _ _ _ _
      cases (c == Value.type "enumerate")
      · wp_walk using AutoSeq1.wpAny_loadPart' hl, wpAny_pyIter_tuple kL
        exact ⟨_, rfl, h⟩
      · wp_walk using AutoSeq1.wpAny_loadPart' hl, wpAny_pyIter_tuple kL
        exact ⟨_, rfl, h⟩
    · wp_walk using AutoSeq1.wpAny_loadPart' hl, wpAny_pyIter_tuple kL
      exact ⟨_, rfl, h⟩
theorem meets_en_zip (z TI TO : Addr) :
    Meets (Builtin.«enumerate.__new__» ⟨[.type "enumerate", .ref z], []⟩) (fun _ R s => IsZip s.heap z TI TO .none ∧
      R (.ok (.ret (.ref s.heap.objs.size))) { s with heap := s.heap.push { cls := .type "enumerate", data := .fields #[.none, .bool false, .ref z, rawInt 0, .none, .none] } }) :=
  .of_wp fun prog w A R s h => by
    obtain ⟨hp, gs, dr, tk, os⟩ := s; obtain ⟨hl, h⟩ := h
    have hsub := sub_enumerate
    have kL : IsZip (Shared.heap ⟨hp, gs, dr, tk, os⟩) z TI TO .none := hl
    wp_walk using AutoSeq1.wpAny_loadPart' hl
    refine wpAny_stack_any fun st => wpAny_pure ?_
    split
    · rename_i c _ _ _ _ _
      cases (c == Value.type "enumerate")
      · wp_walk using AutoSeq1.wpAny_loadPart' hl, wpAny_pyIter_zip kL
        exact ⟨_, rfl, h⟩
      · wp_walk using AutoSeq1.wpAny_loadPart' hl, wpAny_pyIter_zip kL
        exact ⟨_, rfl, h⟩
    · wp_walk using AutoSeq1.wpAny_loadPart' hl, wpAny_pyIter_zip kL
      exact ⟨_, rfl, h⟩
section
variable {prog : Program} {w : World} {A : Around} {E : Value → Shared → Prop} {s : Shared}
theorem call_en_tup {l : Addr} {items : Array Value} {Q : Value → Shared → Prop} (hL : s.heap.IsTuple l items)
    (h : ∀ g, IsEnum g (s.heap.objs.size + 1) s.heap.objs.size 0 .none → ItAt false g s.heap.objs.size l 0 → (∀ c o, s.heap.get? c = some o → g.get? c = some o) → Q (.ref (s.heap.objs.size + 1)) { s with heap := g }) :
    wpAny (model prog w) A (call (.type "enumerate") [.ref l]) Q E s := by
  obtain ⟨⟨c, dct, dt, sl⟩, hl, hc, n, hd⟩ := hL
  replace hc : c = .type "tuple" := hc
  replace hd : dt = .seq items n := hd
  subst hc hd
  refine callType_new F.called_enumerate (by decide) (F.typeCall_enumerate_1 _) (F.newCall_enumerate_1 _) (fun obj => F.args_object_init_2 obj _) F.entry_enumerate_new (meets_en_tup l items n dct sl) ⟨hl, ?_⟩
  have l1 : (s.heap.push { cls := .type "tuple_iterator", data := .fields #[.ref l, .int 0 0] }).objs.size = s.heap.objs.size + 1 := Heap.size_push ..
  show _ ∧ _
  rw [l1]
  have ke : IsEnum ((s.heap.push { cls := .type "tuple_iterator", data := .fields #[.ref l, .int 0 0] }).push { cls := .type "enumerate", data := .fields #[.none, .bool false, .ref s.heap.objs.size, rawInt 0, .none, .none] }) (s.heap.objs.size + 1) s.heap.objs.size 0 .none := by
    have := Heap.get?_push_size (s.heap.push { cls := .type "tuple_iterator", data := .fields #[.ref l, .int 0 0] }) (o := { cls := .type "enumerate", data := .fields #[.none, .bool false, .ref s.heap.objs.size, rawInt 0, .none, .none] }) rfl
    rw [l1] at this; exact this
  exact ⟨⟨_, ke, rfl⟩, h _ ke ⟨_, Heap.get?_push_of_some _ (Heap.get?_push_size _ rfl), rfl, rfl⟩ fun c o x => Heap.get?_push_of_some _ (Heap.get?_push_of_some _ x)⟩
theorem call_en_zip {z TI TO : Addr} {Q : Value → Shared → Prop} (kz : IsZip s.heap z TI TO .none)
    (h : IsEnum (s.heap.push { cls := .type "enumerate", data := .fields #[.none, .bool false, .ref z, rawInt 0, .none, .none] }) s.heap.objs.size z 0 .none → Q (.ref s.heap.objs.size) { s with heap := s.heap.push { cls := .type "enumerate", data := .fields #[.none, .bool false, .ref z, rawInt 0, .none, .none] } }) :
    wpAny (model prog w) A (call (.type "enumerate") [.ref z]) Q E s := by
  refine callType_new F.called_enumerate (by decide) (F.typeCall_enumerate_1 _) (F.newCall_enumerate_1 _) (fun obj => F.args_object_init_2 obj _) F.entry_enumerate_new (meets_en_zip z TI TO) ⟨kz, ?_⟩
  have ke : IsEnum (s.heap.push { cls := .type "enumerate", data := .fields #[.none, .bool false, .ref z, rawInt 0, .none, .none] }) s.heap.objs.size z 0 .none := Heap.get?_push_size _ rfl
  exact ⟨⟨_, ke, rfl⟩, h ke⟩
end
def iEnT (K : PySem.W.Frag) (ta : TA) : TI := fun σ H R => ta σ H fun vs H1 => ∃ a xs, vs = [.ref a] ∧ SqT K H1 a xs ∧ R (ItEk false K a) H1
theorem pi_enT {X : Cx} {e : Expr} {ta : TA} {p pos tpos : Pos} {elts : List Expr} {kk : Nat} (hg : Gl X "enumerate") (hm : X.mg "enumerate" = none) (ha : PA X [e] ta) (hs : starEach [e] X.env = [(false, eval e X.env)] := by rfl) :
    PI X (.Tuple elts kk tpos) (.Call (.Name "enumerate" p) [e] [] pos) (iEnT X.K ta) := by
  refine ⟨fun pins s σ H R I h => ?_⟩
  refine PyProof.Rows.Call_ (ld_blt I hg hm PyProof.Rows.boot_enumerate (PyProof.Rows.callWith_type1 (thn (ha.run pos pins s σ H _ I h) fun us s1 ⟨vs, H1, I1, r1, q1⟩ => ?_) hs rfl))
  obtain ⟨a, xs, rfl, hq, q⟩ := q1
  cases r1 with
  | cons r rr =>
    cases rr
    cases r
    obtain ⟨its, rv, p', la⟩ := inv_sq (k := false) I1 hq
    refine call_en_tup p' fun g he hit hk => wpAny_pyIter_enum he ?_
    have I2 : Inv X pins σ H1 { s1 with heap := g } := I1.kept (t' := s1.toks) hk
    refine ⟨s1.heap.objs.size + 1, [s1.heap.objs.size + 1, s1.heap.objs.size], _, _, H1, rfl, I2, turn_ek false s1.heap.objs.size a la, ⟨⟨.none, he⟩, hit⟩, fun b hb => ?_, q⟩
    have e' : b = s1.heap.objs.size + 1 ∨ b = s1.heap.objs.size := by simpa using hb
    have hle : s1.heap.objs.size ≤ b := by
      rcases e' with z | z
      · rw [z]; exact Nat.le_add_right _ _
      · rw [z]; exact Nat.le_refl _
    exact I1.fpOk hle (I1.hok.fresh hle)
def iEz (K : PySem.W.Frag) (ta : TA) : TI := fun σ H R => ta σ H fun vs H1 => ∃ a b xs ys, vs = [.ref a, .ref b] ∧ ((SqL K H1 a xs ∧ SqL K H1 b ys ∧ R (ItEz true true K a b) H1) ∨ (SqT K H1 a xs ∧ SqT K H1 b ys ∧ R (ItEz false false K a b) H1))
theorem pi_ez {X : Cx} {e e2 : Expr} {ta : TA} {p p2 pos pos2 tpos : Pos} {elts : List Expr} {kk : Nat} (hg : Gl X "enumerate") (hm : X.mg "enumerate" = none) (hg2 : Gl X "zip") (hm2 : X.mg "zip" = none) (ha : PA X [e, e2] ta)
    (hs : starEach [e, e2] X.env = (false, eval e X.env) :: starEach [e2] X.env := by rfl) (hpl : (backTo pos2 (starEach [e2] X.env)).any (·.1) = false := by rfl)
    (na : starEach [.Call (.Name "zip" p2) [e, e2] [] pos2] X.env = [(false, eval (.Call (.Name "zip" p2) [e, e2] [] pos2) X.env)] := by rfl) :
    PI X (.Tuple elts kk tpos) (.Call (.Name "enumerate" p) [.Call (.Name "zip" p2) [e, e2] [] pos2] [] pos) (iEz X.K ta) := by
  refine ⟨fun pins s σ H R I h => ?_⟩
  refine PyProof.Rows.Call_ (ld_blt I hg hm PyProof.Rows.boot_enumerate (PyProof.Rows.callWith_type1 (PyProof.Rows.args_cons ?_ na) na rfl))
  refine PyProof.Rows.Call_ (ld_blt I hg2 hm2 PyProof.Rows.boot_zip (PyProof.Rows.callWith_type1 (thn (ha.run pos2 pins s σ H _ I h) fun us s1 ⟨vs, H1, I1, r1, q1⟩ => ?_) hs hpl))
  obtain ⟨a, b, xs, ys, rfl, q1⟩ := q1
  cases r1 with
  | cons r rr =>
    cases rr with
    | cons r' rr =>
      cases rr
      cases r
      cases r'
      have fresh6 : ∀ {h : Hp}, h = H1 → ∀ c, c ∈ [s1.heap.objs.size + 5, s1.heap.objs.size + 4, s1.heap.objs.size + 2, s1.heap.objs.size + 3, s1.heap.objs.size, s1.heap.objs.size + 1] → FpOk X pins H1 c := fun _ c hcm => by
        have hle : s1.heap.objs.size ≤ c := by
          simp only [List.mem_cons, List.not_mem_nil, or_false] at hcm
          rcases hcm with z | z | z | z | z | z <;> rw [z] <;> first | exact Nat.le_add_right _ _ | exact Nat.le_refl _
        exact I1.fpOk hle (I1.hok.fresh hle)
      rcases q1 with ⟨hqx, hqy, q⟩ | ⟨hqx, hqy, q⟩
      · obtain ⟨its, rv, p1, la⟩ := inv_sq (k := true) I1 hqx
        obtain ⟨its2, rv2, p2, lb⟩ := inv_sq (k := true) I1 hqy
        refine call_zip_2 p1 p2 fun g hz hI hO h1 h2 hsz hk => PyProof.Rows.args_nil ?_
        have z5 : s1.heap.objs.size + 5 = g.objs.size := hsz.symm
        refine call_en_zip (s := { s1 with heap := g }) hz fun he => ?_
        refine wpAny_pyIter_enum he ?_
        show PIE X pins σ _ R (.ref g.objs.size) _
        replace he : IsEnum (g.push { cls := .type "enumerate", data := .fields #[.none, .bool false, .ref (s1.heap.objs.size + 4), rawInt 0, .none, .none] }) g.objs.size (s1.heap.objs.size + 4) 0 .none := he
        rw [← z5] at he ⊢
        have I2 : Inv X pins σ H1 { s1 with heap := g.push { cls := .type "enumerate", data := .fields #[.none, .bool false, .ref (s1.heap.objs.size + 4), rawInt 0, .none, .none] } } := I1.kept (t' := s1.toks) fun c o x => Heap.get?_push_of_some _ (hk c o x)
        exact ⟨s1.heap.objs.size + 5, _, _, _, H1, rfl, I2, turn_ez true true s1.heap.objs.size a b la lb, ⟨⟨.none, he⟩, ⟨.none, false, .inl rfl, Heap.get?_push_of_some _ hz⟩, Heap.get?_push_of_some _ hI, ⟨_, _, Heap.get?_push_of_some _ hO⟩,
          h1.at fun o x => Heap.get?_push_of_some _ x, h2.at fun o x => Heap.get?_push_of_some _ x⟩, fresh6 rfl, q⟩
      · obtain ⟨its, rv, p1, la⟩ := inv_sq (k := false) I1 hqx
        obtain ⟨its2, rv2, p2, lb⟩ := inv_sq (k := false) I1 hqy
        refine RZ.call_zipT p1 p2 fun g hz hI hO h1 h2 hsz hk => PyProof.Rows.args_nil ?_
        have z5 : s1.heap.objs.size + 5 = g.objs.size := hsz.symm
        refine call_en_zip (s := { s1 with heap := g }) hz fun he => ?_
        refine wpAny_pyIter_enum he ?_
        show PIE X pins σ _ R (.ref g.objs.size) _
        replace he : IsEnum (g.push { cls := .type "enumerate", data := .fields #[.none, .bool false, .ref (s1.heap.objs.size + 4), rawInt 0, .none, .none] }) g.objs.size (s1.heap.objs.size + 4) 0 .none := he
        rw [← z5] at he ⊢
        have I2 : Inv X pins σ H1 { s1 with heap := g.push { cls := .type "enumerate", data := .fields #[.none, .bool false, .ref (s1.heap.objs.size + 4), rawInt 0, .none, .none] } } := I1.kept (t' := s1.toks) fun c o x => Heap.get?_push_of_some _ (hk c o x)
        exact ⟨s1.heap.objs.size + 5, _, _, _, H1, rfl, I2, turn_ez false false s1.heap.objs.size a b la lb, ⟨⟨.none, he⟩, ⟨.none, false, .inl rfl, Heap.get?_push_of_some _ hz⟩, Heap.get?_push_of_some _ hI, ⟨_, _, Heap.get?_push_of_some _ hO⟩,
          h1.at fun o x => Heap.get?_push_of_some _ x, h2.at fun o x => Heap.get?_push_of_some _ x⟩, fresh6 rfl, q⟩
end MP

/-! Mirror layer, part 19: a set made of a list of texts; its size. -/
namespace MP
open PySem PySem.Spec L2

/-! ### the different ones, in the order met -/
def dedStep (σ : List Str) (v : Str) : List Str := if (σ.any (· == v)) = true then σ else σ ++ [v]
def ded (xs : List Str) : List Str := xs.foldl dedStep []
theorem dedStep_any (σ : List Str) (v k : Str) : (dedStep σ v).any (· == k) = (σ.any (· == k) || decide (k = v)) := by
  unfold dedStep
  split
  · rename_i h
    by_cases e : k = v
    · subst e
      simp only [decide_true, Bool.or_true]
      exact h
    · simp [e]
  · rw [List.any_append]
    congr 1
    by_cases e : k = v
    · subst e
      simp
    · have : ¬ v = k := fun q => e q.symm
      simp [e, this]
theorem dedStep_len (σ : List Str) (v : Str) : (dedStep σ v).length = if (σ.any (· == v)) = true then σ.length else σ.length + 1 := by
  unfold dedStep
  split <;> simp
theorem ded_take (xs : List Str) (i : Nat) (h : i < xs.length) : ded (xs.take (i + 1)) = dedStep (ded (xs.take i)) (xs.getD i Str.empty) := by
  unfold ded
  rw [List.take_add_one, List.foldl_append, List.getElem?_eq_getElem h, List.getD_eq_getElem?_getD, List.getElem?_eq_getElem h]
  rfl
theorem ded_le : ∀ (xs σ : List Str), (xs.foldl dedStep σ).length ≤ σ.length + xs.length
  | [], σ => by simp
  | x :: xs, σ => by
    have h := ded_le xs (dedStep σ x)
    have h2 := dedStep_len σ x
    rw [List.foldl_cons, List.length_cons]
    split at h2 <;> omega
section
variable {prog : Program} {w : World} {A : Around} {R : Result → Shared → Prop} {I : Addr} {fp wr : List Addr} {G : Array GenState → Array GenState → Prop} {n : Nat} {P : Nat → Value → Prop} {St : Nat → Shared → Prop}
theorem upd_texts (W : WalksS prog w A.in1 I fp wr G n P St) (S : Addr) (off : S ∉ fp) (xs : List Str) (hn : xs.length = n) (hb : n + 1 < scanBound) (hv : ∀ i v, P i v → ∃ t, v = .str (xs.getD i Str.empty) t) :
    ∀ (j i : Nat) (s : Shared), i + j = n → St i s → s.heap.SetOf (PySem.strKind prog w) S (fun k => (ded (xs.take i)).any (· == k)) (ded (xs.take i)).length →
      (∀ s', Moved (S :: wr) G s s' → s'.heap.SetOf (PySem.strKind prog w) S (fun k => (ded xs).any (· == k)) (ded xs).length → R (.ok (.ret .none)) s') →
      codeAny (model prog w) A (.builtin "set.update.loop" ⟨[.ref S, .ref I], []⟩) R s := by
  have offw : S ∉ wr := fun h => off (W.sub _ h)
  have more : ∀ b ∈ wr, b ∈ S :: wr := fun b h => List.mem_cons_of_mem _ h
  intro j
  induction j with
  | zero =>
    intro i s e st hS hR
    obtain rfl : i = n := by omega
    refine codeAny_builtin PyProof.Rows.F.entry_set_update_loop ?_
    rw [Around.under_plainId PyProof.Rows.F.plain_set_update_loop _]
    refine wpAny_bind (m := pyNext (.ref I)) (W.done s _ _ st fun s1 mv => ?_)
    rw [List.take_of_length_le (by omega)] at hS
    obtain ⟨o, es, ep, t, ho, rest⟩ := hS
    exact wpAny_pure (hR s1 (mv.mono more) ⟨o, es, ep, t, mv.heap S _ offw ho, rest⟩)
  | succ j ih =>
    intro i s e st hS hR
    have lt : i < n := by omega
    refine codeAny_builtin PyProof.Rows.F.entry_set_update_loop ?_
    rw [Around.under_plainId PyProof.Rows.F.plain_set_update_loop _]
    refine wpAny_bind (m := pyNext (.ref I)) (W.item i s _ _ lt st fun v s1 hP st1 mv => ?_)
    obtain ⟨t, rfl⟩ := hv i v hP
    obtain ⟨o, es, ep, tb, ho, rest⟩ := hS
    have hS1 : s1.heap.SetOf (PySem.strKind prog w) S (fun k => (ded (xs.take i)).any (· == k)) (ded (xs.take i)).length := ⟨o, es, ep, tb, mv.heap S _ offw ho, rest⟩
    refine wpAny_bind (m := holding [Value.str (xs.getD i Str.empty) t] (setAdd S (.str (xs.getD i Str.empty) t))) (wpAny_holding ?_)
    unfold setAdd
    refine wpAny_holding (wpAny_bind ((PySem.strKind prog w).pyHash (k := xs.getD i Str.empty) (strKind_is _ _ _ _) ?_))
    have room : (ded (xs.take i)).length + 1 < scanBound := by
      have h1 := ded_le (xs.take i) []
      have h2 := List.length_take_le i xs
      simp only [List.length_nil, Nat.zero_add] at h1
      unfold ded
      omega
    refine wpAny_setAddHashed_of (knd := PySem.strKind prog w) (s := { s1 with toks := s1.toks + 1 }) (strKind_is _ _ _ _) rfl hS1 room fun g sb hS2 => ?_
    have hS3 : g.SetOf (PySem.strKind prog w) S (fun k => (ded (xs.take (i + 1))).any (· == k)) (ded (xs.take (i + 1))).length := by
      have q1 := ded_take xs i (by omega)
      rw [q1]
      have e1 : (fun k => (ded (xs.take i)).any (· == k) || decide (k = xs.getD i Str.empty)) = fun k => (dedStep (ded (xs.take i)) (xs.getD i Str.empty)).any (· == k) := funext fun k => (dedStep_any _ _ k).symm
      rw [dedStep_len, ← e1]
      exact hS2
    refine wpAny_pure ⟨plainId_quiet PyProof.Rows.F.plain_set_update_loop _, ih (i + 1) _ (by omega) (W.frame _ s1 _ _ st1 (Nat.le_succ _) fun b h o z => (sb.2 b (fun q : b = S => off (by rw [← q]; exact h))).trans z) hS3 fun s2 mv2 hS4 => ?_⟩
    refine hR s2 (Moved.trans W.gtrans ((mv.mono more).then_heap (Nat.le_succ _) fun b o h z => (sb.2 b (fun q : b = S => h (by rw [q]; exact List.mem_cons_self))).trans z) mv2) hS4
end

section
variable {prog : Program} {w : World} {A : Around} {E : Value → Shared → Prop} {s : Shared}
/-- a new set, filled by its __init__ -/
theorem call_set_by {l : Value} {Q : Value → Shared → Prop}
    (hi : ∀ (led : Bool) (T : Value → Shared → Prop), (∀ h' tk, Q (.ref s.heap.objs.size) { s with heap := h', toks := tk } → T .none { s with heap := h', toks := tk }) →
      wpAny (model prog w) A.in1.in1 (Builtin.«set.__init__» ⟨[.ref s.heap.objs.size, l], []⟩)
        (fun fin s' => match fin with | .done f => wants T E (.ok f) s' | .again c' => c'.quiet = true ∧ codeAny (model prog w) A.in1 c' (wants T E) s') (fun e s' => wants T E (.error e) s')
        { s with heap := s.heap.push { cls := .type "set", dict := none, data := .set #[] 0 (.fresh 0 0 led) } }) :
    wpAny (model prog w) A (call (.type "set") [l]) Q E s := by
  obtain ⟨c, tl, mro⟩ := PySem.F.called_set.mro
  have z1 := PySem.F.called_set.made; have z2 := PySem.F.called_set.sub; have z3 := PySem.F.called_set.notType; have z4 := PySem.F.called_set.canCreate; have z5 := PySem.F.typeCall_set_1 l
  refine wpAny_call (codeAny_of_tree (show wpAny _ _ (callAny (.type "set") _) _ _ _ from wpAny_pure ⟨Code.quiet_builtin _ (by decide +kernel), codeAny_builtin PySem.F.entry_type_call ?_⟩))
  rw [Around.under_plain (weight_type_call_type "set" [l] []) rfl]
  repeat (any_goals first | assumption | wp_step)
  refine codeAny_mono (code_set_new_1 l (E := E) (Q₁ := fun o s1 => ∃ led : Bool, o = .ref s.heap.objs.size ∧ s1 = { s with heap := s.heap.push { cls := .type "set", dict := none, data := .set #[] 0 (.fresh 0 0 led) } }) fun led => ⟨led, rfl, rfl⟩) fun r s1 q => ?_
  match r, q with
  | .error e, q => exact q
  | .ok (.ret o), ⟨led, e1, e2⟩ =>
    subst e1 e2
    have ty : Shared.TypeIs { s with heap := s.heap.push { cls := .type "set", dict := none, data := .set #[] 0 (.fresh 0 0 led) } } (.ref s.heap.objs.size) "set" := ⟨_, Heap.get?_push_size _ rfl, rfl⟩
    have z6 := PySem.F.called_set.init.lookup; have z7 := PySem.F.called_set.init.bind (.ref s.heap.objs.size)
    repeat (any_goals first | assumption | wp_step)
    refine codeAny_mono (codeAny_call_builtin (R := wants (fun r s2 => r = .none ∧ Q (.ref s.heap.objs.size) s2) E) PySem.F.called_set.init.plain PySem.F.entry_set_init (check_set_init_1 ty (hi led _ fun h' tk q => ⟨rfl, q⟩))) fun r2 s2 q2 => ?_
    match r2, q2 with
    | .error e, q2 => exact q2
    | .ok (.ret r), ⟨e1, q2⟩ =>
      subst e1
      repeat (any_goals first | assumption | wp_step)
    | .ok .next, q2 => exact q2.elim
    | .ok .brk, q2 => exact q2.elim
    | .ok .cont, q2 => exact q2.elim
  | .ok .next, q => exact q.elim
  | .ok .brk, q => exact q.elim
  | .ok .cont, q => exact q.elim
end
end MP

/-! Mirror layer, part 20: set(list of texts), its size; `is` of bools; walks. -/
namespace MP
open PySem PySem.Spec L2

section
variable {prog : Program} {w : World} {A : Around} {E : Value → Shared → Prop} {s : Shared}
theorem call_set_texts {l : Addr} {items : Array Value} {xs : List Str} {Q : Value → Shared → Prop} (hh : A.handled = none) (hl : s.heap.IsList l items) (hi : PyProof.Rows.StrsAre items.toList xs) (hb : xs.length + 1 < scanBound)
    (h : ∀ (g : Heap) (tk : Nat), g.SetOf (PySem.strKind prog w) s.heap.objs.size (fun k => (ded xs).any (· == k)) (ded xs).length → (∀ b o, s.heap.get? b = some o → g.get? b = some o) → Q (.ref s.heap.objs.size) { s with heap := g, toks := tk }) :
    wpAny (model prog w) A (call (.type "set") [.ref l]) Q E s := by
  refine call_set_by fun led T hT => ?_
  obtain ⟨⟨oc, od, odt, osl⟩, ho, hc, nl, hd⟩ := hl
  simp only at hc hd
  subst hc hd
  have z1 : (s.heap.push { cls := .type "set", dict := none, data := .set #[] 0 (.fresh 0 0 led) }).get? l = some { cls := .type "list", dict := od, data := .seq items nl, slots := osl } := Heap.get?_push_of_some _ ho
  have z2 := PySem.F.sub_list_set; have z3 := PySem.F.sub_list_frozenset
  have z4 : (Value.type "list" == Value.type "dict") = false := by decide
  have kl : (s.heap.push { cls := .type "set", dict := none, data := .set #[] 0 (.fresh 0 0 led) }).IsList l items := ⟨_, z1, rfl, nl, rfl⟩
  have kS : (s.heap.push { cls := .type "set", dict := none, data := .set #[] 0 (.fresh 0 0 led) }).get? s.heap.objs.size = some { cls := .type "set", dict := none, data := .set #[] 0 (.fresh 0 0 led) } := Heap.get?_push_size _ rfl
  unfold Builtin.«set.__init__» noKeywords Builtin.Frozenset.updateFrom
  generalize eI : pyIter = PI
  wp_walk
  subst eI
  refine wpAny_pyIter_list kl (wpAny_bind (wpAny_runValue ?_))
  have ll : l < s.heap.objs.size := Heap.lt_size ho
  have l1 : (s.heap.push { cls := .type "set", dict := none, data := .set #[] 0 (.fresh 0 0 led) }).objs.size = s.heap.objs.size + 1 := Heap.size_push ..
  have ne : l ≠ (s.heap.push { cls := .type "set", dict := none, data := .set #[] 0 (.fresh 0 0 led) }).objs.size := by rw [l1]; exact Nat.ne_of_lt (Nat.lt_succ_of_lt ll)
  have off : s.heap.objs.size ∉ [(s.heap.push { cls := .type "set", dict := none, data := .set #[] 0 (.fresh 0 0 led) }).objs.size, l] := by
    rw [l1, List.mem_cons, List.mem_singleton, not_or]
    exact ⟨Nat.ne_of_lt (Nat.lt_succ_self _), Nat.ne_of_gt ll⟩
  have hsz : xs.length = items.size := by rw [← PyProof.Rows.StrsAre.len_eq hi, Array.length_toList]
  refine upd_texts ((Walks.list (show A.in1.in1.in1.handled = none by simp [hh]) _ l ne items).toS) s.heap.objs.size off xs hsz (by rw [← hsz]; exact hb) (fun i v hv => SS.strs_at hi i v (by rw [Array.getElem?_toList]; exact hv)) items.size 0 _ (by omega)
    ⟨⟨_, Heap.get?_push_size _ rfl, rfl, rfl⟩, kl.push _⟩ ?_ ?_
  · have kS2 : ((s.heap.push { cls := .type "set", dict := none, data := .set #[] 0 (.fresh 0 0 led) }).push { cls := .type "list_iterator", data := .fields #[.ref l, .int 0 0] }).get? s.heap.objs.size = some { cls := .type "set", dict := none, data := .set #[] 0 (.fresh 0 0 led) } := Heap.get?_push_of_some _ kS
    exact PyProof.Rows.SetOf_congr ((PyProof.Rows.setObjOf_fresh (knd := PySem.strKind prog w) led).setOf kS2 (by unfold scanBound; omega)) (fun _ => rfl) rfl
  · intro s1 mv hS1
    obtain ⟨g, gs, dr, tk, os⟩ := s1
    have e1 : gs = s.gens := mv.gens
    have e2 : dr = s.drawn := mv.drawn
    have e3 : os = s.os := mv.os
    subst e1 e2 e3
    refine wpAny_pure (wpAny_pure (hT g tk (h g tk hS1 fun b o z => ?_)))
    have lb : b < s.heap.objs.size := Heap.lt_size z
    refine mv.heap b o ?_ (Heap.get?_push_of_some _ (Heap.get?_push_of_some _ z))
    rw [List.mem_cons, List.mem_singleton, not_or, l1]
    exact ⟨Nat.ne_of_lt lb, Nat.ne_of_lt (Nat.lt_succ_of_lt lb)⟩
end

/-! ### len(set(texts)) -/
def txtsOf : List D → Option (List Str)
  | [] => some []
  | .str x :: ds => match txtsOf ds with
    | some xs => some (x :: xs)
    | none => none
  | _ => none
theorem txtsOf_eq : ∀ {ds : List D} {xs : List Str}, txtsOf ds = some xs → ds = xs.map D.str
  | [], xs, h => by
    cases h
    rfl
  | d :: ds, xs, h => by
    unfold txtsOf at h
    split at h
    · rename_i q
      cases q
    · rename_i x ds' e
      split at h
      · rename_i ys e2
        cases h
        cases e
        rw [txtsOf_eq e2]
        rfl
      · cases h
    · cases h
theorem txtsOf_map (xs : List Str) : txtsOf (xs.map D.str) = some xs := by
  induction xs with
  | nil => rfl
  | cons x xs ih =>
    rw [List.map_cons, txtsOf, ih]
def lenSetD : D → Option D
  | .lst _ ds => match txtsOf ds with
    | some xs => if xs.length < 4000 then some (.int (ded xs).length) else none
    | none => none
  | _ => none
theorem rpl_strs {U : Wd} {F H : Hp} : ∀ {xs : List Str} {vs : List V} {as : List Addr}, RpL U F H vs (xs.map D.str) as → vs = xs.map V.str
  | [], _, _, .nil => rfl
  | x :: xs, _, _, .cons h t => by
    obtain ⟨rfl, _⟩ := rp_str h
    rw [rpl_strs t]
    rfl
section
variable [LE] [WC] {X : Cx} {e : Expr} {pos p p2 q : Pos} {m : Ox}
theorem mv_lenSet (hc : X.calm = true) (hg : Gl X "len") (hm : X.mg "len" = none) (hg2 : Gl X "set") (hm2 : X.mg "set" = none) (ha : PE X e (tO (ux X) m)) (na : starEach [e] X.env = (false, eval e X.env) :: starEach [] X.env := by rfl) :
    PE X (.Call (.Name "len" p) [.Call (.Name "set" p2) [e] [] q] [] pos) (tM (ux X) (op1 lenSetD m)) := by
  refine ⟨fun pins s σ H Q I h => ?_⟩
  obtain ⟨E, F, as, d, E', g, rE, e0, h⟩ := h
  obtain ⟨h1, d1, e1, e3, e5⟩ := op1_inv e0
  refine PyProof.Rows.Call_ (ld_blt I hg hm PySem.boot_len (PyProof.Rows.callWith_builtin1 (PyProof.Rows.args_cons ?_ rfl) rfl rfl))
  refine PyProof.Rows.Call_ (ld_blt I hg2 hm2 PyProof.Rows.boot_set (PyProof.Rows.callWith_type1 (PyProof.Rows.args_cons (thn (ha.run pins s σ H (fun x H1 => ∃ (l : Addr) (xs : List Str), x = .ref l ∧ SqL X.K H1 l (xs.map V.str) ∧ xs.length < 4000 ∧ Q (.int (ded xs).length) H1) I ?_) fun v s1 ⟨x, H1, I1, r1, q1⟩ => PyProof.Rows.args_nil ?_) na) na rfl))
  · refine ⟨E, F, as, h1, E', g, rE, e1, fun x F1 H1 c1 as1 s1 r1 q1 => ?_⟩
    obtain ⟨z1, w1⟩ := q1.now r1 e3
    unfold lenSetD at e5
    split at e5
    · rename_i o ds
      split at e5
      · rename_i xs ex
        split at e5
        · rename_i hl
          cases e5
          rw [txtsOf_eq ex] at w1
          obtain ⟨a, vs, rfl, hq, bs, l⟩ := lst_now s1.good.le w1
          rw [rpl_strs l] at hq
          exact ⟨a, xs, rfl, .inl (.inl hq), hl, h _ F1 H1 [] as1 s1.right r1 (.int _)⟩
        · cases e5
      · cases e5
    · cases e5
  · obtain ⟨l, xs, rfl, hq, hl, q1⟩ := q1
    cases r1
    obtain ⟨its, r, pl, hz⟩ := I1.list hq
    refine call_set_texts (I1.ok.hd hc) pl.isList (xs := xs) (by simpa using strsAre_of r) (by unfold scanBound; omega) fun g2 tk hS hk => PyProof.Rows.args_nil ?_
    obtain ⟨o, es, ep, t, ho, hex, hd, _, _, _, hf, hn⟩ := hS
    have I2 : Inv X pins σ H1 { s1 with heap := g2, toks := tk } := I1.kept hk
    have le : (ded xs).length ≤ xs.length := by
      have := ded_le xs []
      simpa [ded] using this
    refine call_len_set ho hex hd hf (by rw [hn]; omega) ⟨.int (ded xs).length, H1, I2.tok _, ⟨_, by rw [hn]⟩, q1⟩

/-! ### is, is not: with None, with bools -/
def isDD (x y : D) : Option D := match y with
  | .bl b => match x with
    | .bl a => some (.bl (decide (a = b)))
    | _ => none
  | _ => isNon x y
def isntDD (x y : D) : Option D := match y with
  | .bl b => match x with
    | .bl a => some (.bl (!decide (a = b)))
    | _ => none
  | _ => notNon x y
theorem ok_isDD {U : Wd} : Ok2 U (fun x y H Q => (fun x y H Q => y = .non ∧ Q (.bl (decide (x = .non))) H) x y H Q ∨ rIsB x y H Q) isDD := fun F H x y d1 d2 d c1 c2 Q g w1 w2 e k => by
  unfold isDD at e
  split at e
  · split at e
    · cases e
      obtain ⟨rfl, _⟩ := rp_bl w1
      obtain ⟨rfl, _⟩ := rp_bl w2
      exact .inr ⟨_, _, rfl, rfl, same_ g k (.bl _)⟩
    · cases e
  · exact .inl (ok_isN F H x y d1 d2 d c1 c2 Q g w1 w2 e k)
theorem ok_isntDD {U : Wd} : Ok2 U (fun x y H Q => (fun x y H Q => y = .non ∧ Q (.bl (!decide (x = .non))) H) x y H Q ∨ rNotB x y H Q) isntDD := fun F H x y d1 d2 d c1 c2 Q g w1 w2 e k => by
  unfold isntDD at e
  split at e
  · split at e
    · cases e
      obtain ⟨rfl, _⟩ := rp_bl w1
      obtain ⟨rfl, _⟩ := rp_bl w2
      exact .inr ⟨_, _, rfl, rfl, same_ g k (.bl _)⟩
    · cases e
  · exact .inl (ok_notN F H x y d1 d2 d c1 c2 Q g w1 w2 e k)
theorem mv_is {a b : Expr} {ma mb : Ox} (ha : PE X a (tO (ux X) ma)) (hb : PE X b (tO (ux X) mb)) : PE X (.Compare a [.Is] [b] pos) (tM (ux X) (op2 isDD ma mb)) := mv_cmp (OpR.or op_isN op_isBl) ok_isDD ha hb (nobehind _ (by decide) (by decide))
theorem mv_isnt {a b : Expr} {ma mb : Ox} (ha : PE X a (tO (ux X) ma)) (hb : PE X b (tO (ux X) mb)) : PE X (.Compare a [.IsNot] [b] pos) (tM (ux X) (op2 isntDD ma mb)) := mv_cmp (OpR.or op_notN op_notBl) ok_isntDD ha hb (nobehind _ (by decide) (by decide))
theorem mt_is {a b : Expr} {ma mb : Ox} (ha : PE X a (tO (ux X) ma)) (hb : PE X b (tO (ux X) mb)) : PT X (.Compare a [.Is] [b] pos) (tT (ux X) (toB (op2 isDD ma mb))) := mt_cmp (OpR.or op_isN op_isBl) ok_isDD ha hb (nobehind _ (by decide) (by decide))
theorem mt_isnt {a b : Expr} {ma mb : Ox} (ha : PE X a (tO (ux X) ma)) (hb : PE X b (tO (ux X) mb)) : PT X (.Compare a [.IsNot] [b] pos) (tT (ux X) (toB (op2 isntDD ma mb))) := mt_cmp (OpR.or op_notN op_notBl) ok_isntDD ha hb (nobehind _ (by decide) (by decide))
end

/-! ### walks -/
def mkEnumT : Mk
  | [.tup _ ds] => if frozenL ds = true then some (enumD 0 ds) else none
  | _ => none
def mkEnumA : Mk
  | [.lst o ds] => mkEnum [.lst o ds]
  | [.tup o ds] => mkEnumT [.tup o ds]
  | _ => none
def mkZipT : Mk
  | [.tup _ ds, .tup _ es] => if frozenL ds = true then (if frozenL es = true then some (zipD ds es) else none) else none
  | _ => none
def mkZipA : Mk
  | [.lst o ds, .lst o2 es] => mkZip [.lst o ds, .lst o2 es]
  | [.tup o ds, .tup o2 es] => mkZipT [.tup o ds, .tup o2 es]
  | _ => none
def mkEzA : Mk := fun ds => match mkZipA ds with
  | some es => some (enumD 0 es)
  | none => none
section
variable [LE] [WC] {X : Cx} {e e2 : Expr} {pos p tpos p2 pos2 : Pos} {mh : Hx} {elts : List Expr} {kk : Nat}
theorem mi_enumT (hg : Gl X "enumerate") (hm : X.mg "enumerate" = none) (ha : PA X [e] (tH (ux X) mh)) (hs : starEach [e] X.env = [(false, eval e X.env)] := by rfl) :
    PI X (.Tuple elts kk tpos) (.Call (.Name "enumerate" p) [e] [] pos) (tI (ux X) mh mkEnumT) := pi_mono (pi_enT hg hm ha hs) fun σ H R q => by
  refine tI_reads q fun vs0 ds0 items F' H' ws g w0 e0 k => ?_
  unfold mkEnumT at e0
  split at e0
  · rename_i o ds'
    split at e0
    · rename_i hf
      cases e0
      obtain ⟨v, rfl, w1⟩ := one_view w0
      obtain ⟨a, vs, bs, rfl, l, sub, kk⟩ := tup_view w1
      have l0 := l.frozen0 hf
      refine ⟨a, vs, rfl, kk F' H' (Fle.refl _) g.le fun _ _ => rfl, k _ fun F2 H2 f g2 k2 => ?_⟩
      have hq : SqT X.K H2 a vs := kk F2 H2 f g2.le k2
      refine ⟨fun i d e => ?_, ⟨vs, hq, by rw [enumD_len, l.len]; exact Nat.le_refl _⟩⟩
      rw [enumD_get] at e
      cases ed : ds'[i]? with
      | none => rw [ed] at e; cases e
      | some d0 =>
        rw [ed] at e
        cases e
        obtain ⟨v, ev, rv⟩ := l0.get0 ed
        refine ⟨⟨vs, v, hq, ev⟩, fun x H'' y => ?_⟩
        obtain ⟨T, x0, rfl, hT, rfl, hx⟩ := y
        have := hx vs hq
        rw [ev] at this
        cases this
        rw [Nat.zero_add]
        exact pair_new g2 hT (.int _) (rv.mono0 f)
    · cases e0
  · cases e0
theorem mi_enumA (hg : Gl X "enumerate") (hm : X.mg "enumerate" = none) (ha : PA X [e] (tH (ux X) mh)) (hs : starEach [e] X.env = [(false, eval e X.env)] := by rfl) :
    PI X (.Tuple elts kk tpos) (.Call (.Name "enumerate" p) [e] [] pos) (tI (ux X) mh mkEnumA) := ⟨fun pins s σ H R I q => by
  obtain ⟨E, F, as, hd, E1, ds, E2, items, g, r, e1, e2, e3, q⟩ := q
  unfold mkEnumA at e3
  split at e3
  · exact (mi_enum (elts := elts) (kk := kk) (tpos := tpos) hg hm ha hs).run pins s σ H R I ⟨E, F, as, hd, E1, _, E2, items, g, r, e1, e2, e3, q⟩
  · exact (mi_enumT (elts := elts) (kk := kk) (tpos := tpos) hg hm ha hs).run pins s σ H R I ⟨E, F, as, hd, E1, _, E2, items, g, r, e1, e2, e3, q⟩
  · cases e3⟩
/-- what stands at two places, zipped -/
theorem zip_ok {U : Wd} {k : Bool} {a b : Addr} {vs us : List V} {ds es : List D} {F' H' : Hp} {ws : List Addr} (l1 : RpL U F' H' vs ds []) (l2 : RpL U F' H' us es [])
    (h1 : ∀ F2 H2, Fle F' F2 → Good F2 H2 [] → (∀ z ∈ ws, H2 z = H' z) → SqA k U.K H2 a vs) (h2 : ∀ F2 H2, Fle F' F2 → Good F2 H2 [] → (∀ z ∈ ws, H2 z = H' z) → SqA k U.K H2 b us) :
    ItOk U (ItEz k k U.K a b) F' H' ws (enumD 0 (zipD ds es)) := fun F2 H2 f g2 kk => by
  have hq1 := h1 F2 H2 f g2 kk
  have hq2 := h2 F2 H2 f g2 kk
  refine ⟨fun i d e => ?_, ⟨vs, us, hq1, hq2, by rw [enumD_len, zipD_len, l1.len, l2.len]⟩⟩
  rw [enumD_get] at e
  cases ed : (zipD ds es)[i]? with
  | none => rw [ed] at e; cases e
  | some d0 =>
    rw [ed] at e
    cases e
    obtain ⟨x, y, ex, ey, rfl⟩ := zipD_get _ _ _ _ ed
    obtain ⟨v, ev, rv⟩ := l1.get0 ex
    obtain ⟨u, eu, ru⟩ := l2.get0 ey
    refine ⟨⟨vs, us, v, u, hq1, hq2, ev, eu⟩, fun z H'' y0 => ?_⟩
    obtain ⟨T, T', x0, y1, rfl, hT', hT, rfl, hx, hy⟩ := y0
    have z1 := hx vs hq1
    have z2 := hy us hq2
    rw [ev] at z1
    rw [eu] at z2
    cases z1
    cases z2
    rw [Nat.zero_add]
    obtain ⟨F3, s3, r3⟩ := pair_new g2 hT' (rv.mono0 f) (ru.mono0 f)
    obtain ⟨F4, s4, r4⟩ := pair_new s3.good hT (.int (i : Nat)) r3
    exact ⟨F4, s3.trans s4, r4⟩
theorem mi_ez (hg : Gl X "enumerate") (hm : X.mg "enumerate" = none) (hg2 : Gl X "zip") (hm2 : X.mg "zip" = none) (ha : PA X [e, e2] (tH (ux X) mh))
    (hs : starEach [e, e2] X.env = (false, eval e X.env) :: starEach [e2] X.env := by rfl) (hpl : (backTo pos2 (starEach [e2] X.env)).any (·.1) = false := by rfl)
    (na : starEach [.Call (.Name "zip" p2) [e, e2] [] pos2] X.env = [(false, eval (.Call (.Name "zip" p2) [e, e2] [] pos2) X.env)] := by rfl) :
    PI X (.Tuple elts kk tpos) (.Call (.Name "enumerate" p) [.Call (.Name "zip" p2) [e, e2] [] pos2] [] pos) (tI (ux X) mh mkEzA) := pi_mono (pi_ez hg hm hg2 hm2 ha hs hpl na) fun σ H R q => by
  refine tI_reads q fun vs0 ds0 items F' H' ws g w0 e0 k => ?_
  unfold mkEzA mkZipA at e0
  split at e0
  · rename_i zs e1
    cases e0
    split at e1
    · unfold mkZip at e1
      simp only at e1
      · split at e1
        · rename_i f1
          split at e1
          · rename_i f2
            cases e1
            obtain ⟨v, u, as, bs, rfl, rfl, w1, w2⟩ := two_view w0
            obtain ⟨a, vs, b1, rfl, l1, sub1, k1⟩ := lst_view w1
            obtain ⟨b, us, b2, rfl, l2, sub2, k2⟩ := lst_view w2
            refine ⟨a, b, vs, us, rfl, .inl ⟨.inl (.inl (k1 F' H' (Fle.refl _) g.le fun _ _ => rfl)), .inl (.inl (k2 F' H' (Fle.refl _) g.le fun _ _ => rfl)), k _ (zip_ok (k := true) (l1.frozen0 f1) (l2.frozen0 f2) ?_ ?_)⟩⟩
            · exact fun F2 H2 f g2 kk => .inl (.inl (k1 F2 H2 f g2.le fun z hz => kk z (List.mem_append_left _ hz)))
            · exact fun F2 H2 f g2 kk => .inl (.inl (k2 F2 H2 f g2.le fun z hz => kk z (List.mem_append_right _ hz)))
          · cases e1
        · cases e1
    · unfold mkZipT at e1
      simp only at e1
      · split at e1
        · rename_i f1
          split at e1
          · rename_i f2
            cases e1
            obtain ⟨v, u, as, bs, rfl, rfl, w1, w2⟩ := two_view w0
            obtain ⟨a, vs, b1, rfl, l1, sub1, k1⟩ := tup_view w1
            obtain ⟨b, us, b2, rfl, l2, sub2, k2⟩ := tup_view w2
            refine ⟨a, b, vs, us, rfl, .inr ⟨k1 F' H' (Fle.refl _) g.le fun _ _ => rfl, k2 F' H' (Fle.refl _) g.le fun _ _ => rfl, k _ (zip_ok (k := false) (l1.frozen0 f1) (l2.frozen0 f2) ?_ ?_)⟩⟩
            · exact fun F2 H2 f g2 kk => k1 F2 H2 f g2.le fun z hz => kk z (List.mem_append_left _ hz)
            · exact fun F2 H2 f g2 kk => k2 F2 H2 f g2.le fun z hz => kk z (List.mem_append_right _ hz)
          · cases e1
        · cases e1
    · cases e1
  · cases e0
theorem mi_zipA (hg : Gl X "zip") (hm : X.mg "zip" = none) (ha : PA X [e, e2] (tH (ux X) mh)) (hs : starEach [e, e2] X.env = (false, eval e X.env) :: starEach [e2] X.env := by rfl) (hpl : (backTo pos (starEach [e2] X.env)).any (·.1) = false := by rfl) :
    PI X (.Tuple elts kk tpos) (.Call (.Name "zip" p) [e, e2] [] pos) (tI (ux X) mh mkZipA) := pi_mono (RZ.pi_zipA hg hm ha hs hpl) fun σ H R q => by
  refine tI_reads q fun vs0 ds0 items F' H' ws g w0 e0 k => ?_
  unfold mkZipA at e0
  split at e0
  · unfold mkZip at e0
    simp only at e0
    · split at e0
      · rename_i f1
        split at e0
        · rename_i f2
          cases e0
          obtain ⟨v, u, as, bs, rfl, rfl, w1, w2⟩ := two_view w0
          obtain ⟨a, vs, b1, rfl, l1, sub1, k1⟩ := lst_view w1
          obtain ⟨b, us, b2, rfl, l2, sub2, k2⟩ := lst_view w2
          refine ⟨a, b, vs, us, rfl, .inl ⟨.inl (.inl (k1 F' H' (Fle.refl _) g.le fun _ _ => rfl)), .inl (.inl (k2 F' H' (Fle.refl _) g.le fun _ _ => rfl)), k _ fun F2 H2 f g2 kk => ?_⟩⟩
          have hq1 : SqL X.K H2 a vs := .inl (.inl (k1 F2 H2 f g2.le fun z hz => kk z (List.mem_append_left _ hz)))
          have hq2 : SqL X.K H2 b us := .inl (.inl (k2 F2 H2 f g2.le fun z hz => kk z (List.mem_append_right _ hz)))
          refine ⟨fun i d e => ?_, ⟨vs, us, hq1, hq2, by rw [zipD_len, l1.len, l2.len]; omega⟩⟩
          obtain ⟨x, y, ex, ey, rfl⟩ := zipD_get _ _ _ _ e
          obtain ⟨v, ev, rv⟩ := (l1.frozen0 f1).get0 ex
          obtain ⟨u, eu, ru⟩ := (l2.frozen0 f2).get0 ey
          refine ⟨⟨vs, us, v, u, hq1, hq2, ev, eu⟩, fun z H'' y0 => ?_⟩
          obtain ⟨T, x0, y1, rfl, hT, rfl, hx, hy⟩ := y0
          have z1 := hx vs hq1
          have z2 := hy us hq2
          rw [ev] at z1
          rw [eu] at z2
          cases z1
          cases z2
          exact pair_new g2 hT (rv.mono0 f) (ru.mono0 f)
        · cases e0
      · cases e0
  · unfold mkZipT at e0
    simp only at e0
    · split at e0
      · rename_i f1
        split at e0
        · rename_i f2
          cases e0
          obtain ⟨v, u, as, bs, rfl, rfl, w1, w2⟩ := two_view w0
          obtain ⟨a, vs, b1, rfl, l1, sub1, k1⟩ := tup_view w1
          obtain ⟨b, us, b2, rfl, l2, sub2, k2⟩ := tup_view w2
          refine ⟨a, b, vs, us, rfl, .inr ⟨k1 F' H' (Fle.refl _) g.le fun _ _ => rfl, k2 F' H' (Fle.refl _) g.le fun _ _ => rfl, k _ fun F2 H2 f g2 kk => ?_⟩⟩
          have hq1 : SqT X.K H2 a vs := k1 F2 H2 f g2.le fun z hz => kk z (List.mem_append_left _ hz)
          have hq2 : SqT X.K H2 b us := k2 F2 H2 f g2.le fun z hz => kk z (List.mem_append_right _ hz)
          refine ⟨fun i d e => ?_, ⟨vs, us, hq1, hq2, by rw [zipD_len, l1.len, l2.len]; omega⟩⟩
          obtain ⟨x, y, ex, ey, rfl⟩ := zipD_get _ _ _ _ e
          obtain ⟨v, ev, rv⟩ := (l1.frozen0 f1).get0 ex
          obtain ⟨u, eu, ru⟩ := (l2.frozen0 f2).get0 ey
          refine ⟨⟨vs, us, v, u, hq1, hq2, ev, eu⟩, fun z H'' y0 => ?_⟩
          obtain ⟨T, x0, y1, rfl, hT, rfl, hx, hy⟩ := y0
          have z1 := hx vs hq1
          have z2 := hy us hq2
          rw [ev] at z1
          rw [eu] at z2
          cases z1
          cases z2
          exact pair_new g2 hT (rv.mono0 f) (ru.mono0 f)
        · cases e0
      · cases e0
  · cases e0
end
end MP

/-! Mirror layer, part 21: defs that call themselves; constants of the module with parts. -/
namespace MP
open PySem PySem.Spec L2

def mNone : Fm := fun _ => none
theorem FnG.zero {P : Program} {w : World} {K : PySem.W.Frag} {mg : Str → Option Value} {base : Heap} {k : Nat} {f : Addr} {fd : FuncData} {ps : List Str} : FnG P w K mg base k f fd ps mNone :=
  ⟨fun _ _ h => (nomatch h), fun _ _ _ _ _ _ _ _ _ _ _ _ _ _ q => by
    obtain ⟨F, ds, ws, d, fs, g, l, e, q⟩ := q
    cases e⟩
theorem Cal.of {P : Program} {w : World} {K : PySem.W.Frag} {mg : Str → Option Value} {base : Heap} {k : Nat} {x : Str} {st : Stmt} {ps : List Str} {mf : Fm} (h : FnIn K mg x st) (q : ∀ {f : Addr} {fd : FuncData}, Fun K x x st f fd → FnG P w K mg base k f fd ps mf) : Cal P w K mg base k x st ps mf :=
  let ⟨f, fd, h, F⟩ := h; ⟨f, fd, q F, h, F⟩

/-! ### constants with parts -/
mutual
inductive CV (K : PySem.W.Frag) : Value → D → Prop where
  | non : CV K .none .non
  | bl (b : Bool) : CV K (.bool b) (.bl b)
  | int (i : Int) (t : Tok) : CV K (.int i t) (.int i)
  | str {s s' : Str} (t : Tok) (e : s = s') : CV K (.str s t) (.str s')
  | tup {a : Addr} {o : Obj} {its : List Value} {n : Nat} {ds : List D} : K.lookup a = some o → o.cls = .type "tuple" → o.data = .seq its.toArray n → its.length ≤ sizeLine → CVL K its ds → CV K (.ref a) (.tup false ds)
inductive CVL (K : PySem.W.Frag) : List Value → List D → Prop where
  | nil : CVL K [] []
  | cons {u : Value} {d : D} {us : List Value} {ds : List D} : CV K u d → CVL K us ds → CVL K (u :: us) (d :: ds)
end
mutual
theorem CV.rp {K : PySem.W.Frag} : ∀ {u : Value} {d : D}, CV K u d → ∃ v, RelV v u ∧ ∀ (U : Wd) F H, U.K = K → Rp U F H v d []
  | _, _, .non => ⟨.non, rfl, fun _ _ _ _ => .non⟩
  | _, _, .bl b => ⟨.bl b, rfl, fun _ _ _ _ => .bl b⟩
  | _, _, .int i t => ⟨.int i, ⟨t, rfl⟩, fun _ _ _ _ => .int i⟩
  | _, _, .str t e => ⟨.str _, ⟨t, rfl⟩, fun _ _ _ _ => by
    subst e
    exact .str _⟩
  | _, _, .tup (a := a) h1 h2 h3 h4 h => by
    obtain ⟨vs, hv, q⟩ := CVL.rp h
    refine ⟨.ref a, rfl, fun U F H e => ?_⟩
    subst e
    exact .tupS (.inr ⟨_, _, _, h1, h2, h3, by simpa using h4, by simpa using hv⟩) (q U F H rfl)
theorem CVL.rp {K : PySem.W.Frag} : ∀ {us : List Value} {ds : List D}, CVL K us ds → ∃ vs, Vals vs us ∧ ∀ (U : Wd) F H, U.K = K → RpL U F H vs ds []
  | _, _, .nil => ⟨[], .nil, fun _ _ _ _ => .nil⟩
  | _, _, .cons h t => by
    obtain ⟨v, hv, q⟩ := CV.rp h
    obtain ⟨vs, hvs, q2⟩ := CVL.rp t
    exact ⟨v :: vs, .cons hv hvs, fun U F H e => .cons0 (q U F H e) (q2 U F H e)⟩
end
theorem GD.cv {K : PySem.W.Frag} {mg : Str → Option Value} {x : Str} {u : Value} {d : D} (h : mg x = some u) (c : CV K u d) : GD K mg x d := by
  obtain ⟨v, hv, q⟩ := c.rp
  exact ⟨u, v, h, hv, q⟩

/-! ### max, min of three -/
def max3D : List D → Option D
  | [.int i, .int j, .int k] => some (.int (if (if i < j then j else i) < k then k else (if i < j then j else i)))
  | _ => none
def min3D : List D → Option D
  | [.int i, .int j, .int k] => some (.int (if k < (if j < i then j else i) then k else (if j < i then j else i)))
  | _ => none
theorem ok_max3 {U : Wd} : OkN U (rNuC3 nuMax3) max3D := fun F H xs ds d Q g w0 e k => by
  unfold max3D at e
  split at e
  · rename_i i j l
    cases e
    obtain ⟨v, u, w, c1, c2, c3, rfl, w1, w2, w3⟩ := p3 w0
    obtain ⟨rfl, _⟩ := rp_int w1
    obtain ⟨rfl, _⟩ := rp_int w2
    obtain ⟨rfl, _⟩ := rp_int w3
    refine ⟨_, _, _, .int (if (if i < j then j else i) < l then l else (if i < j then j else i)), rfl, ?_, same_ g k (.int _)⟩
    by_cases h1 : i < j
    · by_cases h2 : j < l <;> simp [nuMax3, nuMax2, nuLt, nuCB, h1, h2]
    · by_cases h2 : i < l <;> simp [nuMax3, nuMax2, nuLt, nuCB, h1, h2]
  · cases e
theorem ok_min3 {U : Wd} : OkN U (rNuC3 nuMin3) min3D := fun F H xs ds d Q g w0 e k => by
  unfold min3D at e
  split at e
  · rename_i i j l
    cases e
    obtain ⟨v, u, w, c1, c2, c3, rfl, w1, w2, w3⟩ := p3 w0
    obtain ⟨rfl, _⟩ := rp_int w1
    obtain ⟨rfl, _⟩ := rp_int w2
    obtain ⟨rfl, _⟩ := rp_int w3
    refine ⟨_, _, _, .int (if l < (if j < i then j else i) then l else (if j < i then j else i)), rfl, ?_, same_ g k (.int _)⟩
    by_cases h1 : j < i
    · by_cases h2 : l < j <;> simp [nuMin3, nuMin2, nuLt, nuCB, h1, h2]
    · by_cases h2 : l < i <;> simp [nuMin3, nuMin2, nuLt, nuCB, h1, h2]
  · cases e

/-! ### frozen on the way -/
def xFrz (m : Ex) : Ex := fun E => match m E with
  | some (d, E1) => some (d.frz, E1)
  | none => none
section
variable [LE] [WC] {X : Cx} {e : Expr} {m : Ex}
theorem mv_frz (h : PE X e (tM (ux X) m)) : PE X e (tM (ux X) (xFrz m)) := pe_mono h fun σ H Q q => by
  obtain ⟨E, F, as, d0, E', g, r, e, q⟩ := q
  unfold xFrz at e
  split at e
  · rename_i d E1 e1
    cases e
    refine ⟨E, F, as, d, E', g, r, e1, fun v F1 H1 bs as1 s1 r1 w => ?_⟩
    have st := Step.freeze s1.good
    exact q v _ H1 [] as1 (s1.trans st) (r1.mono st.ext fun _ _ => rfl) (Rp.freeze st.ext w fun a z => by simp [z])
  · cases e
end

/-! ### tuple * int -/
def mulDT : D → D → Option D
  | .tup o xs, .int n => if (frozenL xs && !xs.isEmpty && decide (2 ≤ n ∧ n ≤ 1000) && decide (xs.length ≤ 1000)) = true then some (.tup false (List.replicate n.toNat xs).flatten) else none
  | x, y => mulD x y
theorem ok_mulT {U : Wd} : Ok2 U (fun x y H Q => rMul x y H Q ∨ rRepT U.K x y H Q) mulDT := fun F H x y d1 d2 d c1 c2 Q g w1 w2 e k => by
  unfold mulDT at e
  split at e
  · split at e
    · rename_i h
      cases e
      simp only [Bool.and_eq_true, decide_eq_true_eq, Bool.not_eq_true', List.isEmpty_eq_false_iff] at h
      obtain ⟨⟨⟨h1, h2⟩, h3⟩, h4⟩ := h
      obtain ⟨a, vs, rfl, e1, l1⟩ := tup0 g w1 h1
      obtain ⟨rfl, _⟩ := rp_int w2
      refine .inr ⟨a, _, vs, rfl, rfl, e1, fun z => ?_, h3.1, h3.2, by rw [l1.len]; exact h4, new_tup g (l1.rep _) k⟩
      subst z
      exact h2 (List.eq_nil_of_length_eq_zero (by rw [← l1.len]; rfl))
    · cases e
  · exact .inl (ok_mul F H x y d1 d2 d c1 c2 Q g w1 w2 e k)
section
variable [LE] [WC] {X : Cx} {a b : Expr} {pos : Pos} {ma mb : Ox}
theorem mv_mulT (ha : PE X a (tO (ux X) ma)) (hb : PE X b (tO (ux X) mb)) : PE X (.BinOp a .Mult b pos) (tM (ux X) (op2 mulDT ma mb)) := mv_op (OpR.or op_mulD op_repT) ok_mulT ha hb
end
end MP

/-! Mirror layer, part 22: pop with a place, slices backwards, isinstance of two classes, append to what comes, sizes of sets of ints. -/
namespace MP
open PySem PySem.Spec L2

/-! ### x.pop(e) -/
theorem RpL.erase {U : Wd} {F H : Hp} : ∀ {vs : List V} {ds : List D} {as : List Addr} {j : Nat} {d : D}, RpL U F H vs ds as → ds[j]? = some d → ∃ v bs rest, vs[j]? = some v ∧ Rp U F H v d bs ∧ RpL U F H (vs.eraseIdx j) (ds.eraseIdx j) rest ∧ as.Perm (bs ++ rest)
  | _, _, _, j, d, .nil, e => by simp at e
  | _, _, _, 0, d, .cons (as := a1) (bs := a2) w t, e => by
    have e := Option.some.inj e
    subst e
    exact ⟨_, a1, a2, rfl, w, t, List.Perm.refl _⟩
  | _, _, _, j + 1, d, .cons (as := a1) (bs := a2) w t, e => by
    obtain ⟨v, bs, rest, h1, h2, h3, h4⟩ := RpL.erase (j := j) t (by simpa using e)
    refine ⟨v, bs, a1 ++ rest, by simpa using h1, h2, .cons w h3, ?_⟩
    refine (h4.append_left a1).trans ?_
    rw [← List.append_assoc, ← List.append_assoc]
    exact List.perm_append_comm.append_right rest
def xPopAt (i : Nat) (m : Lx) : Ex := fun E => if isLst E i = true then match m E with
    | some ([.int k], E1) => match lstAt E1 i with
      | some ds => if lineOk ds.length = true then match ixN ds.length k with
          | some j => match ds[j]? with
            | some d => some (d, E1.set i (some (.lst true (ds.eraseIdx j))))
            | none => none
          | none => none
        else none
      | none => none
    | _ => none
  else none
theorem popAt_reads {U : Wd} {i : Nat} {m : Lx} {σ : Sl} {H : Hp} {Q : VK} (q : tM U (xPopAt i m) σ H Q) : tBM U.K "list" rPopAt (tVar i) (tL U m) σ H Q := by
  obtain ⟨E, F, as, d, E', g, rE, e, q⟩ := q
  unfold xPopAt at e
  split at e
  · rename_i hl
    obtain ⟨v, hv, ty⟩ := isLst_ty g rE hl
    split at e
    · rename_i k E1 e1
      split at e
      · rename_i ds e2
        split at e
        · rename_i hz
          split at e
          · rename_i j ej
            split at e
            · rename_i d0 ed
              cases e
              refine ⟨v, hv, ty, E, F, as, _, E1, g, rE, e1, fun vs F1 H1 bs as1 s1 r1 w1 => ?_⟩
              obtain ⟨u, rfl, w⟩ := one_view w1
              obtain ⟨rfl, rfl⟩ := rp_int w
              obtain ⟨a, us, xs, rest, h1, h2, l, p, r2⟩ := r1.list (lstAt_eq e2)
              rw [hv] at h1
              cases h1
              have hi := get_lt (lstAt_eq e2)
              obtain ⟨y, bs0, xs0, f1, f2, f3, f4⟩ := l.erase ed
              have p2 : ([] ++ as1).Perm (bs0 ++ (a :: (xs0 ++ rest))) := by
                rw [List.nil_append]
                refine p.trans ?_
                refine List.Perm.trans (List.Perm.cons a (f4.append_right rest)) ?_
                rw [List.append_assoc]
                exact List.perm_middle.symm
              have s2 := s1.perm p2
              obtain ⟨t, r3, kw⟩ := write_list (us' := us.eraseIdx j) (ds' := ds.eraseIdx j) hi s2.good hv f3 r2
              obtain ⟨g1, g2, g3, g4⟩ := ixN_seq ej
              have hz2 : ds.length ≤ sizeLine := of_decide_eq_true hz
              have hline : (sizeLine : Int) < 2 ^ 63 := by rw [sizeLine_eq]; decide
              refine ⟨a, us, k, j, y, rfl, rfl, h2, by omega, by omega, by rw [l.len]; exact g1, f1, ?_⟩
              exact q y F1 _ bs0 _ (s2.trans t) r3 (f2.mono (Fle.refl _) kw)
            · cases e
          · cases e
        · cases e
      · cases e
    · cases e
  · cases e
section
variable [LE] [WC] {X : Cx} {e : Expr} {x : Str} {px apos cpos : Pos} {i : Nat}
theorem mv_popAt {m : Lx} (hv : PE X (.Name x px) (tVar i)) (ha : PA X [e] (tL (ux X) m))
    (hbase : attributeBase (.Name x px) "pop" X.env (eval (.Name x px) X.env) = eval (.Name x px) X.env := by rfl)
    (hfew : ((backTo cpos (starEach [e] X.env)).all (fun x => !x.1) && (backToKw cpos (keywordEach [] X.env)).all (fun x => x.1.isSome)
      && decide ([e].length + ([] : List Keyword).length + (if ([] : List Keyword).isEmpty then 0 else 1) < 30)) = true := by rfl)
    (hline : (apos.endLine == cpos.line) = true := by rfl) (hs : starEach [e] X.env = (false, eval e X.env) :: starEach [] X.env := by rfl) (hplain : (backTo cpos (starEach [] X.env)).any (·.1) = false := by rfl) :
    PE X (.Call (.Attribute (.Name x px) "pop" apos) [e] [] cpos) (tM (ux X) (xPopAt i m)) := pe_mono (pe_bm PySem.F.plainAttrs_list PySem.F.slot_list_pop PySem.F.type_list_pop mt_popAt hv ha hbase hfew hline hs hplain) fun _ _ _ q => popAt_reads q
end

/-! ### e.append(a), e no name: what comes is forgotten -/
def xAppT (m : Ex) (ml : Lx) : Ex := fun E => match m E with
  | some (.lst true ds, E1) => match ml E1 with
    | some ([d], E2) => if lineOk (ds.length + 1) = true then some (.non, E2) else none
    | _ => none
  | _ => none
theorem appT_reads {U : Wd} {m : Ex} {ml : Lx} {σ : Sl} {H : Hp} {Q : VK} (q : tM U (xAppT m ml) σ H Q) : tBM U.K "list" rAppend (tM U m) (tL U ml) σ H Q := by
  obtain ⟨E, F, as, d, E', g, rE, e, q⟩ := q
  unfold xAppT at e
  split at e
  · rename_i ds E1 e1
    split at e
    · rename_i d1 E2 e2
      split at e
      · rename_i hz
        cases e
        refine ⟨E, F, as, _, E1, g, rE, e1, fun v F1 H1 bs as1 s1 r1 w1 => ?_⟩
        refine ⟨rp_tyV s1.good.le w1 rfl (.inr rfl), E1, F1, as1, _, _, s1.right.good, r1, e2, fun vs F2 H2 bs2 as2 s2 r2 w2 => ?_⟩
        obtain ⟨u, rfl, w⟩ := one_view w2
        have w3 := w1.mono s2.ext (Step.wait s1 s2)
        cases w3 with
        | @lstO a us _ xs h l =>
          have s3 := s1.seq s2
          have hzz : ds.length + 1 ≤ sizeLine := of_decide_eq_true hz
          refine ⟨a, us, u, rfl, rfl, h, by rw [l.len]; exact hzz, ?_⟩
          have g3 : Good F2 H2 (a :: (xs ++ (bs2 ++ as2))) := by
            have := s3.good
            simpa using this
          have s4 : Step F H as F2 H2 (a :: (xs ++ (bs2 ++ as2))) := by
            have := s3
            simpa using this
          have t := Step.write (o := .lst (us ++ [u])) g3
          have s5 := s4.trans t
          have nd := List.nodup_cons.mp g3.nd
          have s6 : Step F H as F2 (upd H2 a (.lst (us ++ [u]))) as2 := by
            refine s5.sub (fun b z => List.mem_cons_of_mem _ (List.mem_append_right _ (List.mem_append_right _ z))) ?_
            exact (List.nodup_append.mp (List.nodup_append.mp nd.2).2.1).2.1
          have r6 : REnv U F2 (upd H2 a (.lst (us ++ [u]))) σ _ as2 := r2.mono (Fle.refl _) fun b z => upd_ne fun e => nd.1 (e ▸ List.mem_append_right _ (List.mem_append_right _ z))
          exact q .non F2 _ [] as2 s6 r6 .non
      · cases e
    · cases e
  · cases e
section
variable [LE] [WC] {X : Cx} {e o : Expr} {apos cpos : Pos}
theorem mv_appT {mo : Ex} {m : Lx} (hv : PE X o (tM (ux X) mo)) (ha : PA X [e] (tL (ux X) m))
    (hbase : attributeBase o "append" X.env (eval o X.env) = eval o X.env := by rfl)
    (hfew : ((backTo cpos (starEach [e] X.env)).all (fun x => !x.1) && (backToKw cpos (keywordEach [] X.env)).all (fun x => x.1.isSome)
      && decide ([e].length + ([] : List Keyword).length + (if ([] : List Keyword).isEmpty then 0 else 1) < 30)) = true := by rfl)
    (hline : (apos.endLine == cpos.line) = true := by rfl) (hs : starEach [e] X.env = (false, eval e X.env) :: starEach [] X.env := by rfl) (hplain : (backTo cpos (starEach [] X.env)).any (·.1) = false := by rfl) :
    PE X (.Call (.Attribute o "append" apos) [e] [] cpos) (tM (ux X) (xAppT mo m)) := pe_mono (pe_bm PySem.F.plainAttrs_list PySem.F.slot_list_append PySem.F.type_list_append mt_append hv ha hbase hfew hline hs hplain) fun _ _ _ q => appT_reads q
end

/-! ### alternatives of tests and targets -/
def altT (a b : Tx) : Tx := fun E => match a E with
  | some r => some r
  | none => b E
def altG (a b : Gm) : Gm := fun d E => match a d E with
  | some r => some r
  | none => b d E
section
variable [LE] [WC] {X : Cx} {e : Expr}
theorem mt_alt {a b : Tx} (ha : PT X e (tT (ux X) a)) (hb : PT X e (tT (ux X) b)) : PT X e (tT (ux X) (altT a b)) := ⟨fun pins s σ H Q I q => by
  obtain ⟨E, F, as, d, E', g, r, e, q⟩ := q
  unfold altT at e
  split at e
  · rename_i z ez
    cases e
    exact ha.run pins s σ H Q I ⟨E, F, as, d, E', g, r, ez, q⟩
  · exact hb.run pins s σ H Q I ⟨E, F, as, d, E', g, r, e, q⟩⟩
theorem mg_alt {pin : Pn} {a b : Gm} (ha : PG X e (tG (ux X) pin a)) (hb : PG X e (tG (ux X) pin b)) : PG X e (tG (ux X) pin (altG a b)) := ⟨fun pins s σ H v u Q I rv q => by
  obtain ⟨E, F, bs, as, d, E', g, r, w, e, q⟩ := q
  unfold altG at e
  split at e
  · rename_i z ez
    cases e
    exact ha.run pins s σ H v u Q I rv ⟨E, F, bs, as, d, E', g, r, w, ez, q⟩
  · exact hb.run pins s σ H v u Q I rv ⟨E, F, bs, as, d, E', g, r, w, e, q⟩⟩
end

/-! ### len(set(ints)), none twice -/
def intsOfD : List D → Option (List Int)
  | [] => some []
  | .int x :: ds => match intsOfD ds with
    | some xs => some (x :: xs)
    | none => none
  | _ => none
theorem intsOfD_eq : ∀ {ds : List D} {xs : List Int}, intsOfD ds = some xs → ds = xs.map D.int
  | [], xs, h => by
    cases h
    rfl
  | d :: ds, xs, h => by
    unfold intsOfD at h
    split at h
    · rename_i q
      cases q
    · rename_i x ds' e
      split at h
      · rename_i ys e2
        cases h
        cases e
        rw [intsOfD_eq e2]
        rfl
      · cases h
    · cases h
theorem intsOfD_map (xs : List Int) : intsOfD (xs.map D.int) = some xs := by
  induction xs with
  | nil => rfl
  | cons x xs ih => rw [List.map_cons, intsOfD, ih]
def lenSetI : D → Option D
  | .lst _ ds => match intsOfD ds with
    | some xs => if xs.length < 64 then (if xs.Nodup then some (.int xs.length) else none) else none
    | none => none
  | _ => none
theorem rpl_ints {U : Wd} {F H : Hp} : ∀ {xs : List Int} {vs : List V} {as : List Addr}, RpL U F H vs (xs.map D.int) as → vs = xs.map V.int
  | [], _, _, .nil => rfl
  | x :: xs, _, _, .cons h t => by
    obtain ⟨rfl, _⟩ := rp_int h
    rw [rpl_ints t]
    rfl
section
variable [LE] [WC] {X : Cx} {e : Expr} {pos p p2 q : Pos} {m : Ox}
theorem mv_lenSetI (hc : X.calm = true) (hg : Gl X "len") (hm : X.mg "len" = none) (hg2 : Gl X "set") (hm2 : X.mg "set" = none) (ha : PE X e (tO (ux X) m)) (na : starEach [e] X.env = (false, eval e X.env) :: starEach [] X.env := by rfl) :
    PE X (.Call (.Name "len" p) [.Call (.Name "set" p2) [e] [] q] [] pos) (tM (ux X) (op1 lenSetI m)) := by
  refine pe_mono (pe_lenSetI hc hg hm hg2 hm2 ha na) fun σ H Q h => ?_
  obtain ⟨E, F, as, d, E', g, rE, e0, h⟩ := h
  obtain ⟨h1, d1, e1, e3, e5⟩ := op1_inv e0
  refine ⟨E, F, as, h1, E', g, rE, e1, fun x F1 H1 c1 as1 s1 r1 q1 => ?_⟩
  obtain ⟨z1, w1⟩ := q1.now r1 e3
  unfold lenSetI at e5
  split at e5
  · rename_i o ds
    split at e5
    · rename_i xs ex
      split at e5
      · rename_i hl
        split at e5
        · rename_i hn
          cases e5
          rw [intsOfD_eq ex] at w1
          obtain ⟨a, vs, rfl, hq, bs, l⟩ := lst_now s1.good.le w1
          rw [rpl_ints l] at hq
          exact ⟨a, xs, rfl, .inl (.inl hq), hl, hn, h _ F1 H1 [] as1 s1.right r1 (.int _)⟩
        · cases e5
      · cases e5
    · cases e5
  · cases e5
theorem mv_lenSetA (hc : X.calm = true) (hg : Gl X "len") (hm : X.mg "len" = none) (hg2 : Gl X "set") (hm2 : X.mg "set" = none) (ha : PE X e (tO (ux X) m)) (na : starEach [e] X.env = (false, eval e X.env) :: starEach [] X.env := by rfl) :
    PE X (.Call (.Name "len" p) [.Call (.Name "set" p2) [e] [] q] [] pos) (tM (ux X) (altX (op1 lenSetD m) (op1 lenSetI m))) := mv_alt (mv_lenSet hc hg hm hg2 hm2 ha na) (mv_lenSetI hc hg hm hg2 hm2 ha na)
end
end MP

/-! Mirror layer, part 23: tuples cut backwards, isinstance of (list, tuple), dicts whose keys are ints and texts. -/
namespace MP
open PySem PySem.Spec L2

/-! ### t[lo:hi:-1] -/
def revCut {α : Type} (xs : List α) (lo hi : Int) : List α :=
  (List.range (Builtin.Slice.slicePlaces (Builtin.Slice.sliceAdjust (some lo) (some hi) (-1) xs.length).1 (Builtin.Slice.sliceAdjust (some lo) (some hi) (-1) xs.length).2 (-1))).filterMap
    fun (m : Nat) => xs[((Builtin.Slice.sliceAdjust (some lo) (some hi) (-1) xs.length).1 + (m : Int) * (-1)).toNat]?
section
variable {prog : Program} {w : World} {A : Around} {E : Value → Shared → Prop} {s : Shared}
theorem sliceApplied_st {sl : Addr} {vl vu : Value} {lo hi : Option Int} {st : Int} {tk : Tok} {n : Nat} {Q : Int × Int × Nat → Shared → Prop} (hs : s.heap.IsSliceOf sl vl vu (.int st tk)) (pl : IsPart vl lo) (pu : IsPart vu hi) (h0 : (st == 0) = false)
    (h : Q ((Builtin.Slice.sliceAdjust lo hi st n).1, st, Builtin.Slice.slicePlaces (Builtin.Slice.sliceAdjust lo hi st n).1 (Builtin.Slice.sliceAdjust lo hi st n).2 st) s) :
    wpAny (model prog w) A (Builtin.Slice.sliceApplied (.ref sl) (pure (n : Int))) Q E s := by
  obtain ⟨os, hos, hcs, hds⟩ := id hs
  unfold Builtin.Slice.sliceApplied Builtin.Slice.sliceFields
  refine wpAny_bind (wpAny_bind (wpAny_field hos hds (x := vl) rfl (wpAny_bind (wpAny_field hos hds (x := vu) rfl (wpAny_bind (wpAny_field hos hds (x := .int st tk) rfl (wpAny_pure ?_)))))))
  refine wpAny_bind (HT.slicePart_ (.int st tk) ?_)
  show wpAny _ _ (if (st == 0) = true then _ else _) _ _ s
  rw [h0, if_neg Bool.false_ne_true]
  refine wpAny_bind (HT.slicePart_ pl (wpAny_bind (HT.slicePart_ pu (wpAny_bind (wpAny_pure ?_)))))
  exact wpAny_pure h
theorem getItem_tuple_rev {t sl : Addr} {items : Array Value} {vl vu : Value} {lo hi : Int} {tk : Tok} {Q : Value → Shared → Prop} (ht : PyProof.Rows.IsTup s.heap t items) (hs : s.heap.IsSliceOf sl vl vu (.int (-1) tk)) (pl : IsPart vl (some lo)) (pu : IsPart vu (some hi))
    (h : Q (.ref s.heap.objs.size) { s with heap := s.heap.push { cls := .type "tuple", data := .seq (revCut items.toList lo hi).toArray } })
    (hsz : (revCut items.toList lo hi).length ≤ sizeLine) : wpAny (model prog w) A (getItem (.ref t) (.ref sl)) Q E s := by
  have htake : sizeOk (.seq (revCut items.toList lo hi).toArray) := by
    show (revCut items.toList lo hi).toArray.size ≤ sizeLine
    rw [List.size_toArray]
    exact hsz
  obtain ⟨os, hos, hcs, hds⟩ := id hs
  have hTs : s.TypeIs (.ref sl) "slice" := ⟨os, hos, hcs⟩
  unfold getItem
  try with_reducible refine wpAny_holding ?_
  first | refine wpAny_bind (wpAny_pure ?_) | skip
  refine wpAny_bind (wpAny_sequenceKey ht.typeIs (by decide) ?_)
  refine wpAny_bind (wpAny_callSpecial?_slot (name := Str.ofString "__getitem__") ht.typeIs PyProof.Rows.slot_tuple_getitem
    (wpAny_call_entry PyProof.Rows.slot_tuple_getitem ht.typeIs PyProof.Rows.entry_tuple_getitem ?_ (PyProof.Rows.args_tuple_getitem _ _)))
  show wpAny _ _ (Builtin.Tuple.tupleItemsOf (.ref t) >>= _) _ _ s
  refine wpAny_bind (PyProof.Rows.tupleItemsOf_ ht ?_)
  refine wpAny_bind (wpAny_typeOf hTs ?_)
  rw [if_pos (by decide)]
  refine wpAny_bind (sliceApplied_st hs pl pu (by decide) ?_)
  show wpAny _ _ (if (((Builtin.Slice.sliceAdjust (some lo) (some hi) (-1) items.size).1 == 0 && (-1 : Int) == 1 && _ == items.size) = true) then _ else _) _ _ s
  rw [if_neg (by
    intro q
    rw [Bool.and_eq_true, Bool.and_eq_true] at q
    exact absurd q.1.2 (by decide))]
  have e : ((List.range (Builtin.Slice.slicePlaces (Builtin.Slice.sliceAdjust (some lo) (some hi) (-1) items.size).1 (Builtin.Slice.sliceAdjust (some lo) (some hi) (-1) items.size).2 (-1))).filterMap fun (m : Nat) => items[((Builtin.Slice.sliceAdjust (some lo) (some hi) (-1) items.size).1 + (m : Int) * (-1)).toNat]?).toArray = (revCut items.toList lo hi).toArray := by
    unfold revCut
    rw [Array.length_toList]
    simp only [Array.getElem?_toList]
  rw [e]
  first
    | exact wpAny_bind (m := Builtin.Tuple.tupleExact _) (wpAny_newObj_type (wpAny_pure ⟨_, rfl, wpAny_pure h⟩) htake)
    | exact wpAny_bind (m := Builtin.Tuple.tupleExact _) (wpAny_newObj_type (wpAny_bind (wpAny_pure (wpAny_pure ⟨_, rfl, wpAny_pure h⟩))) htake)
    | exact wpAny_bind (wpAny_bind (m := Builtin.Tuple.tupleExact _) (wpAny_newObj_type (wpAny_pure (wpAny_pure ⟨_, rfl, wpAny_pure h⟩)) htake))
    | exact wpAny_bind (wpAny_bind (m := Builtin.Tuple.tupleExact _) (wpAny_newObj_type (wpAny_pure ⟨_, rfl, wpAny_pure h⟩) htake))
end
theorem Vals.picks {vs : List V} {us : List Value} (r : Vals vs us) : ∀ ix : List Nat, Vals (ix.filterMap fun i => vs[i]?) (ix.filterMap fun i => us[i]?)
  | [] => .nil
  | i :: ix => by
    have t := Vals.picks r ix
    rw [List.filterMap_cons, List.filterMap_cons]
    cases e : vs[i]? with
    | none =>
      have : us[i]? = none := List.getElem?_eq_none (by rw [← r.length]; exact List.getElem?_eq_none_iff.mp e)
      rw [this]
      exact t
    | some v =>
      obtain ⟨u, e2, q⟩ := r.get e
      rw [e2]
      exact .cons q t
theorem RpL.picks {U : Wd} {F H : Hp} {vs : List V} {ds : List D} (r : RpL U F H vs ds []) : ∀ ix : List Nat, RpL U F H (ix.filterMap fun i => vs[i]?) (ix.filterMap fun i => ds[i]?) []
  | [] => .nil
  | i :: ix => by
    have t := RpL.picks r ix
    rw [List.filterMap_cons, List.filterMap_cons]
    cases e : ds[i]? with
    | none =>
      have : vs[i]? = none := List.getElem?_eq_none (by rw [r.len]; exact List.getElem?_eq_none_iff.mp e)
      rw [this]
      exact t
    | some d =>
      obtain ⟨v, bs, rest, e2, q, p⟩ := r.getPerm e
      have : bs ++ rest = [] := List.Perm.eq_nil p.symm
      obtain ⟨rfl, rfl⟩ := List.append_eq_nil_iff.mp this
      rw [e2]
      exact .cons0 q t
theorem revCut_map {α : Type} (xs : List α) (lo hi : Int) : revCut xs lo hi = ((List.range (Builtin.Slice.slicePlaces (Builtin.Slice.sliceAdjust (some lo) (some hi) (-1) xs.length).1 (Builtin.Slice.sliceAdjust (some lo) (some hi) (-1) xs.length).2 (-1))).map
    fun (m : Nat) => ((Builtin.Slice.sliceAdjust (some lo) (some hi) (-1) xs.length).1 + (m : Int) * (-1)).toNat).filterMap fun i => xs[i]? := by
  unfold revCut
  rw [List.filterMap_map]
  rfl
def rSlR (K : PySem.W.Frag) (lo hi : Int) : V → Hp → VK → Prop := fun x H Q => ∃ a xs, x = .ref a ∧ SqT K H a xs ∧ (revCut xs lo hi).length ≤ sizeLine ∧ ∀ p, H p = none → Q (.ref p) (upd H p (.tup (revCut xs lo hi)))
section
variable [LE] [WC] {X : Cx} {e elo ehi est : Expr} {te : TE} {lo hi : Int} {pos p2 : Pos}
theorem pe_slr (he : PE X e te) (hl : PE X elo (tC (.int lo))) (hu : PE X ehi (tC (.int hi))) (hst : PE X est (tC (.int (-1)))) : PE X (.Subscript e (.Slice (some elo) (some ehi) (some est) p2) pos) (tUn (rSlR X.K lo hi) te) := by
  refine ⟨fun pins s σ H Q I h => ?_⟩
  refine PyProof.Rows.Subscript_ (thn (he.run pins s σ H _ I h) fun v s1 ⟨x, H1, I1, r1, q1⟩ => ?_)
  have P1 := (po_some hl).run pins s1 σ H1 (fun o H2 => o = some lo ∧ H2 = H1) I1 ⟨lo, rfl, rfl, rfl⟩
  refine wpAny_Slice (thn P1 fun vl s2 ⟨l, H2, I2, pl, q2⟩ => ?_)
  obtain ⟨rfl, rfl⟩ := q2
  have P2 := (po_some hu).run pins s2 σ H2 (fun o H3 => o = some hi ∧ H3 = H2) I2 ⟨hi, rfl, rfl, rfl⟩
  refine thn P2 fun vu s3 ⟨u, H3, I3, pu, q3⟩ => ?_
  obtain ⟨rfl, rfl⟩ := q3
  have P3 := (po_some hst).run pins s3 σ H3 (fun o H4 => o = some (-1) ∧ H4 = H3) I3 ⟨-1, rfl, rfl, rfl⟩
  refine thn P3 fun vs s4 ⟨z, H4, I4, ps, q4⟩ => ?_
  obtain ⟨rfl, rfl⟩ := q4
  cases ps with
  | int _ tk =>
  obtain ⟨a, xs, rfl, hx, hz, q⟩ := q1
  cases r1
  have I5 : Inv X pins σ H4 { s4 with heap := s4.heap.push { cls := .type "slice", data := .fields #[vl, vu, .int (-1) tk] } } := I4.kept (t' := s4.toks) fun b ob q => Heap.get?_push_of_some _ q
  obtain ⟨its, r, ht, hzz⟩ := I5.tuple hx
  have hr : Vals (revCut xs lo hi) (revCut its lo hi) := by
    rw [revCut_map, revCut_map, r.length]
    exact Vals.picks r _
  refine PyProof.Rows.tail_any (ops := [.ref a, .ref s4.heap.objs.size]) ht.typeIs PyProof.Rows.slot_tuple_getitem.lookup ?_ (by with_unfolding_all rfl)
  refine getItem_tuple_rev ht (Heap.IsSliceOf.new ..) pl pu ?_ (by rw [← hr.length]; exact hz)
  refine ⟨.ref _, _, I5.laid (t' := s4.toks) (o := .tup (revCut xs lo hi)) (fun b ob q => Heap.get?_push_of_some _ q) (Nat.le_refl _) ?_, rfl, q _ (I5.hok.fresh (Nat.le_refl _))⟩
  exact ⟨hz, _, hr, PyProof.Rows.IsTup.new _ _⟩
theorem pe_neg1 {j : Nat} {p : Pos} : PE X (.UnaryOp .USub (.Constant (.int 1) j p) pos) (tC (.int (-1))) := pe_mono (pe_un un_neg pe_int) fun σ H Q q => ⟨1, rfl, q⟩
def revSlD (lo hi : Int) : D → Option D
  | .tup false ds => if lineOk (revCut ds lo hi).length = true then some (.tup false (revCut ds lo hi)) else none
  | _ => none
theorem ok_slr {U : Wd} {lo hi : Int} : Ok1 U (rSlR U.K lo hi) (revSlD lo hi) := fun F H x d1 d c1 Q g w1 e k => by
  unfold revSlD at e
  split at e
  · split at e
    · rename_i ds hz
      cases e
      obtain ⟨a, vs, rfl, hq, l, rfl⟩ := tupS0 g w1
      have l2 : RpL U F H (revCut vs lo hi) (revCut ds lo hi) [] := by
        rw [revCut_map, revCut_map, l.len]
        exact l.picks _
      exact ⟨a, vs, rfl, hq, by rw [l2.len]; exact of_decide_eq_true hz, new_tup g l2 k⟩
    · cases e
  · cases e
theorem mv_slr {m : Ox} (he : PE X e (tO (ux X) m)) (hl : PE X elo (tC (.int lo))) (hu : PE X ehi (tC (.int hi))) (hst : PE X est (tC (.int (-1)))) : PE X (.Subscript e (.Slice (some elo) (some ehi) (some est) p2) pos) (tM (ux X) (op1 (revSlD lo hi) m)) :=
  pe_mono (pe_slr he hl hu hst) fun _ _ _ q => op1_reads ok_slr q
end
end MP

/-! Mirror layer, part 24: isinstance of (list, tuple), dicts whose keys are ints and texts. -/
namespace MP
open PySem PySem.Spec L2

/-! ### isinstance(x, (list, tuple)) -/
def IsLT (K : PySem.W.Frag) (H : Hp) (x : V) (b : Bool) : Prop :=
  (∃ t xs, x = .ref t ∧ SqL K H t xs ∧ b = true) ∨ (∃ t xs, x = .ref t ∧ SqT K H t xs ∧ b = true) ∨ (∃ i, x = .int i ∧ b = false) ∨ (∃ z, x = .str z ∧ b = false) ∨ (∃ z, x = .bl z ∧ b = false)
theorem ans_lt_list (a : Addr) : AnswersAll (fun s => s.TypeIs (.ref a) "list") (.ref a) [.type "list", .type "tuple"] [true, false] :=
  ⟨Answers.of_true PySem.F.isi_meta_list PySem.F.sub_list_list, Answers.of_false_list (by decide +kernel) PySem.F.isi_meta_tuple PySem.F.sub_list_tuple, True.intro⟩
theorem ans_lt_tuple (a : Addr) : AnswersAll (fun s => s.TypeIs (.ref a) "tuple") (.ref a) [.type "list", .type "tuple"] [false, true] :=
  ⟨Answers.of_false_tuple (by decide +kernel) PySem.F.isi_meta_list PySem.F.sub_tuple_list, Answers.of_true PySem.F.isi_meta_tuple PySem.F.isi_sub_tuple, True.intro⟩
theorem ans_lt_int (i : Int) (u : Tok) : AnswersAll (fun s => s.TypeIs (.int i u) "int") (.int i u) [.type "list", .type "tuple"] [false, false] :=
  ⟨Answers.of_false_int (by decide +kernel) PySem.F.isi_meta_list PySem.F.sub_int_list, Answers.of_false_int (by decide +kernel) PySem.F.isi_meta_tuple PySem.F.sub_int_tuple, True.intro⟩
theorem ans_lt_str (x : Str) (u : Tok) : AnswersAll (fun s => s.TypeIs (.str x u) "str") (.str x u) [.type "list", .type "tuple"] [false, false] :=
  ⟨Answers.of_false_str (by decide +kernel) PySem.F.isi_meta_list PySem.F.sub_str_list, Answers.of_false_str (by decide +kernel) PySem.F.isi_meta_tuple PySem.F.sub_str_tuple, True.intro⟩
theorem ans_lt_bool (x : Bool) : AnswersAll (fun s => s.TypeIs (.bool x) "bool") (.bool x) [.type "list", .type "tuple"] [false, false] :=
  ⟨Answers.of_false_bool (by decide +kernel) PySem.F.isi_meta_list PySem.F.sub_bool_list, Answers.of_false_bool (by decide +kernel) PySem.F.isi_meta_tuple PySem.F.sub_bool_tuple, True.intro⟩
def tIsLT (K : PySem.W.Frag) (te : TE) : TE := fun σ H Q => te σ H fun x H1 => ∃ b, IsLT K H1 x b ∧ ∀ T, H1 T = none → Q (.bl b) (upd H1 T (.tup [.ty "list", .ty "tuple"]))
section
variable {X : Cx} {p pos tpos : Pos} {e : Expr} {es : List Expr} {te : TE}
theorem pe_isLT {k : Nat} (he : PE X e te) (hg : Gl X "isinstance") (hm : X.mg "isinstance" = none) (hes : PA X es (tCons (tC (.ty "list")) (tCons (tC (.ty "tuple")) tNil)))
    (hs1 : starEach [e, .Tuple es k tpos] X.env = (false, eval e X.env) :: starEach [.Tuple es k tpos] X.env := by rfl) (hs2 : starEach [.Tuple es k tpos] X.env = (false, eval (.Tuple es k tpos) X.env) :: starEach [] X.env := by rfl)
    (hpl : (backTo pos (starEach [.Tuple es k tpos] X.env)).any (·.1) = false := by rfl) :
    PE X (.Call (.Name "isinstance" p) [e, .Tuple es k tpos] [] pos) (tIsLT X.K te) := by
  refine ⟨fun pins s σ H Q I h => ?_⟩
  refine wpAny_Call_Name_kw (ld_blt I hg hm PyProof.Rows.boot_isinstance ?_ (by decide) (by decide))
  refine PyProof.Rows.callWith_builtin1 ?_ hs1 hpl
  rw [hs1]
  show wpAny _ _ (spliced ((false, eval e X.env) :: backTo pos (starEach [.Tuple es k tpos] X.env))) _ _ s
  refine Calls.spliced_cons (thn (he.run pins s σ H _ I h) fun u s1 ⟨x, H1, I1, r1, b, hx, q1⟩ => ?_)
  rw [hs2]
  show wpAny _ _ (spliced ((false, eval (.Tuple es k tpos) X.env) :: backTo pos (starEach [] X.env))) _ _ s1
  refine Calls.spliced_cons (wpAny_Tuple_spliced (thn (hes.run tpos pins s1 σ H1 (fun ys H' => ys = [.ty "list", .ty "tuple"] ∧ H' = H1) I1 ⟨rfl, rfl⟩) fun us s2 ⟨ys, H2, I2, r2, ey, eH⟩ => ?_))
  subst ey eH
  have eu := vals_ty2 r2
  subst eu
  refine ⟨by show 2 ≤ sizeLine; rw [sizeLine_eq]; omega, ?_⟩
  have hf := I2.hok.fresh (Nat.le_refl s2.heap.objs.size)
  have I3 := I2.laid (a := s2.heap.objs.size) (o := .tup [.ty "list", .ty "tuple"]) (h' := s2.heap.push { cls := .type "tuple", data := .seq [Value.type "list", Value.type "tuple"].toArray }) (t' := s2.toks) (fun b u e => Heap.get?_push_of_some _ e) (Nat.le_refl _)
    ⟨by show 2 ≤ sizeLine; rw [sizeLine_eq]; omega, [.type "list", .type "tuple"], r2, ⟨_, Heap.get?_push_size _ rfl, rfl, _, rfl⟩⟩
  refine Calls.spliced_nil ?_
  have fin : ∀ c, b = c → ∀ tk, EP X pins σ Q (.bool c) { s2 with heap := s2.heap.push { cls := .type "tuple", data := .seq [Value.type "list", Value.type "tuple"].toArray }, toks := tk } := fun c e tk => ⟨.bl c, _, I3.tok tk, rfl, e ▸ q1 _ hf⟩
  rcases hx with ⟨t, xs, rfl, hT, eb⟩ | ⟨t, xs, rfl, hT, eb⟩ | ⟨i, rfl, eb⟩ | ⟨z, rfl, eb⟩ | ⟨z, rfl, eb⟩
  · obtain rfl : u = Value.ref t := r1
    obtain ⟨its, r, pl, hz⟩ := I2.list hT
    obtain ⟨o, n, ho, hc, hd, hdat⟩ := pl
    exact call_isinstance (isinstance_tuple (x := .ref t) (Tx := "list") (tp := s2.heap.objs.size) (ans_lt_list t))
      ⟨⟨o, Heap.get?_push_of_some _ ho, hc⟩, Heap.get?_push_size _ rfl, fin true eb⟩
  · obtain rfl : u = Value.ref t := r1
    obtain ⟨its, _, ⟨o, ho, hc, _⟩, _⟩ := I2.tuple hT
    exact call_isinstance (isinstance_tuple (x := .ref t) (Tx := "tuple") (tp := s2.heap.objs.size) (ans_lt_tuple t))
      ⟨⟨o, Heap.get?_push_of_some _ ho, hc⟩, Heap.get?_push_size _ rfl, fin true eb⟩
  · obtain ⟨tk, rfl⟩ := r1
    exact call_isinstance (isinstance_tuple (x := .int i tk) (Tx := "int") (tp := s2.heap.objs.size) (ans_lt_int i tk)) ⟨rfl, Heap.get?_push_size _ rfl, fin false eb⟩
  · obtain ⟨tk, rfl⟩ := r1
    exact call_isinstance (isinstance_tuple (x := .str z tk) (Tx := "str") (tp := s2.heap.objs.size) (ans_lt_str z tk)) ⟨rfl, Heap.get?_push_size _ rfl, fin false eb⟩
  · cases r1
    exact call_isinstance (isinstance_tuple (x := .bool z) (Tx := "bool") (tp := s2.heap.objs.size) (ans_lt_bool z)) ⟨rfl, Heap.get?_push_size _ rfl, fin false eb⟩
end
def isLTD : D → Option D
  | .int _ => some (.bl false)
  | .str _ => some (.bl false)
  | .bl _ => some (.bl false)
  | .tup _ _ => some (.bl true)
  | .lst _ _ => some (.bl true)
  | _ => none
theorem isLT_now {U : Wd} {F H : Hp} {v : V} {d : D} {c : List Addr} {b : Bool} (g : Fle F H) (w : Rp U F H v d c) (e : isLTD d = some (.bl b)) : IsLT U.K H v b := by
  cases d with
  | int i =>
    cases e
    obtain ⟨rfl, _⟩ := rp_int w
    exact .inr (.inr (.inl ⟨i, rfl, rfl⟩))
  | str z =>
    cases e
    obtain ⟨rfl, _⟩ := rp_str w
    exact .inr (.inr (.inr (.inl ⟨z, rfl, rfl⟩)))
  | bl z =>
    cases e
    obtain ⟨rfl, _⟩ := rp_bl w
    exact .inr (.inr (.inr (.inr ⟨z, rfl, rfl⟩)))
  | tup o ds =>
    cases e
    obtain ⟨a, vs, rfl, hq, _⟩ := tup_now g w
    exact .inr (.inl ⟨a, vs, rfl, hq, rfl⟩)
  | lst o ds =>
    cases e
    obtain ⟨a, vs, rfl, hq, _⟩ := lst_now g w
    exact .inl ⟨a, vs, rfl, .inl (.inl hq), rfl⟩
  | non => cases e
  | scr _ => cases e
  | dct _ _ _ => cases e
  | lam _ => cases e
  | fn _ _ _ => cases e
theorem isLTD_bl {d x : D} (e : isLTD d = some x) : ∃ b, x = .bl b := by
  cases d <;> cases e <;> exact ⟨_, rfl⟩
section
variable [LE] [WC] {X : Cx} {p pos tpos pa pb : Pos} {e : Expr} {m : Ox}
theorem mv_isLT {k : Nat} (hg : Gl X "isinstance") (hm : X.mg "isinstance" = none) (hgL : Gl X "list") (hmL : X.mg "list" = none) (hgT : Gl X "tuple") (hmT : X.mg "tuple" = none) (he : PE X e (tO (ux X) m))
    (hs0 : starEach [.Name "list" pa, .Name "tuple" pb] X.env = (false, eval (.Name "list" pa) X.env) :: starEach [.Name "tuple" pb] X.env := by rfl)
    (hs00 : starEach [.Name "tuple" pb] X.env = (false, eval (.Name "tuple" pb) X.env) :: starEach [] X.env := by rfl)
    (hs1 : starEach [e, .Tuple [.Name "list" pa, .Name "tuple" pb] k tpos] X.env = (false, eval e X.env) :: starEach [.Tuple [.Name "list" pa, .Name "tuple" pb] k tpos] X.env := by rfl)
    (hs2 : starEach [.Tuple [.Name "list" pa, .Name "tuple" pb] k tpos] X.env = (false, eval (.Tuple [.Name "list" pa, .Name "tuple" pb] k tpos) X.env) :: starEach [] X.env := by rfl)
    (hpl : (backTo pos (starEach [.Tuple [.Name "list" pa, .Name "tuple" pb] k tpos] X.env)).any (·.1) = false := by rfl) :
    PE X (.Call (.Name "isinstance" p) [e, .Tuple [.Name "list" pa, .Name "tuple" pb] k tpos] [] pos) (tM (ux X) (op1 isLTD m)) :=
  pe_mono (pe_isLT he hg hm (pa_cons (pe_bltn hgL hmL (by decide +kernel) rfl (by decide) (by decide)) (pa_cons (pe_bltn hgT hmT (by decide +kernel) rfl (by decide) (by decide)) pa_nil hs00) hs0) hs1 hs2 hpl) fun σ H Q q => by
    obtain ⟨E, F, as, d, E', g, rE, e, q⟩ := q
    obtain ⟨h1, d1, e1, e3, e5⟩ := op1_inv e
    refine ⟨E, F, as, h1, E', g, rE, e1, fun x F1 H1 c1 as1 s1 r1 q1 => ?_⟩
    obtain ⟨z1, w1⟩ := q1.now r1 e3
    obtain ⟨b, rfl⟩ := isLTD_bl e5
    refine ⟨b, isLT_now s1.good.le w1 e5, fun T hT => ?_⟩
    have t := Step.allocF (o := .tup [.ty "list", .ty "tuple"]) s1.right.good.zero hT
    obtain ⟨s5, r5⟩ := fin s1.right r1 t
    exact q _ _ _ [] as1 s5 r5 (.bl b)
end

/-! ### dicts: keys and values -/
def keyD : D → Option Key
  | .int i => some (.inl i)
  | .str s => some (.inr s)
  | _ => none
theorem keyD_rp {U : Wd} {F H : Hp} {v : V} {d : D} {k : Key} {bs : List Addr} (w : Rp U F H v d bs) (e : keyD d = some k) : v = kV k ∧ bs = [] := by
  unfold keyD at e
  split at e
  · cases e
    obtain ⟨rfl, h⟩ := rp_int w
    exact ⟨rfl, h⟩
  · cases e
    obtain ⟨rfl, h⟩ := rp_str w
    exact ⟨rfl, h⟩
  · cases e
def kD : Key → D
  | .inl i => .int i
  | .inr s => .str s
theorem rp_kD {U : Wd} {F H : Hp} : ∀ k : Key, Rp U F H (kV k) (kD k) []
  | .inl i => .int i
  | .inr s => .str s
def getA : List Key → List D → Key → Option D
  | k' :: ks, d :: ds, k => if k' = k then some d else getA ks ds k
  | _, _, _ => none
def putAll : List Key → List D → Key → D → List D
  | k' :: ks, d :: ds, k, v => (if k' = k then v else d) :: putAll ks ds k v
  | _, _, _, _ => []
def hasK (ks : List Key) (k : Key) : Bool := ks.any fun k' => decide (k' = k)
def putKs (ks : List Key) (k : Key) : List Key := if hasK ks k = true then ks else ks ++ [k]
def putDs (ks : List Key) (ds : List D) (k : Key) (v : D) : List D := if hasK ks k = true then putAll ks ds k v else ds ++ [v]
section
variable {U : Wd} {F H : Hp}
theorem val_at : ∀ {kvs : List (Key × V)} {ds : List D} {as : List Addr} {k : Key} {d : D}, RpL U F H (kvs.map (·.2)) ds as → getA (kvs.map (·.1)) ds k = some d → ∃ v bs, valV kvs k = some v ∧ Rp U F H v d bs
  | [], ds, as, k, d, l, e => by simp [getA] at e
  | p :: kvs, [], as, k, d, l, e => by simp [getA] at e
  | p :: kvs, d0 :: ds, as, k, d, l, e => by
    rw [List.map_cons] at l
    cases l with
    | @cons _ _ _ _ a b w t =>
      rw [List.map_cons, getA] at e
      split at e
      · rename_i hk
        cases e
        exact ⟨p.2, a, valV_pos hk, w⟩
      · rename_i hk
        obtain ⟨v, bs, h1, h2⟩ := val_at t e
        exact ⟨v, bs, by rw [valV_neg hk]; exact h1, h2⟩
theorem has_at (kvs : List (Key × V)) (k : Key) : (valV kvs k).isSome = hasK (kvs.map (·.1)) k := by
  rw [← valV_any]
  unfold hasK
  rw [List.any_map]
  rfl
theorem rpl_putAll : ∀ {kvs : List (Key × V)} {ds : List D} {k : Key} {v : V} {d : D}, RpL U F H (kvs.map (·.2)) ds [] → Rp U F H v d [] → RpL U F H ((kvs.map fun kv => if kv.1 = k then (kv.1, v) else kv).map (·.2)) (putAll (kvs.map (·.1)) ds k d) []
  | [], ds, k, v, d, l, w => by
    cases l
    exact .nil
  | p :: kvs, [], k, v, d, l, w => absurd l.len (by simp)
  | p :: kvs, d0 :: ds, k, v, d, l, w => by
    rw [List.map_cons] at l
    obtain ⟨h, t⟩ := l.uncons0
    rw [List.map_cons, List.map_cons, List.map_cons, putAll]
    have ih := rpl_putAll (k := k) t w
    by_cases e : p.1 = k
    · rw [if_pos e, if_pos e]
      exact .cons0 w ih
    · rw [if_neg e, if_neg e]
      exact .cons0 h ih
theorem put_rel {kvs : List (Key × V)} {ds : List D} {k : Key} {v : V} {d : D} (l : RpL U F H (kvs.map (·.2)) ds []) (w : Rp U F H v d []) :
    (putK kvs k v).map (·.1) = putKs (kvs.map (·.1)) k ∧ RpL U F H ((putK kvs k v).map (·.2)) (putDs (kvs.map (·.1)) ds k d) [] := by
  have ha := has_at kvs k
  unfold putK putKs putDs
  rw [valV_any, ha]
  by_cases h : hasK (kvs.map (·.1)) k = true
  · rw [if_pos h, if_pos h, if_pos h]
    refine ⟨?_, rpl_putAll l w⟩
    rw [List.map_map]
    refine List.map_congr_left fun kv _ => ?_
    show (if kv.1 = k then (kv.1, v) else kv).1 = kv.1
    split <;> rfl
  · rw [if_neg h, if_neg h, if_neg h]
    refine ⟨by rw [List.map_append]; rfl, ?_⟩
    rw [List.map_append]
    exact RpL.app (bs := []) l (.cons0 w .nil)
theorem dct_now {v : V} {o : Bool} {ks : List Key} {ds : List D} {as : List Addr} (g : Fle F H) (w : Rp U F H v (.dct o ks ds) as) : ∃ a kvs bs, v = .ref a ∧ H a = some (.dK kvs) ∧ kvs.map (·.1) = ks ∧ RpL U F H (kvs.map (·.2)) ds bs := by
  cases w with
  | @dctS a kvs _ h l => exact ⟨a, kvs, [], rfl, g _ _ h, rfl, l⟩
  | @dctO a kvs _ as h l => exact ⟨a, kvs, as, rfl, h, rfl, l⟩
end
end MP

/-! Mirror layer, part 25: k in d, d[k], d[k] = v, dict(pairs). -/
namespace MP
open PySem PySem.Spec L2

/-! ### k in d, k not in d, d[k] -/
def rDIn : R2 := fun x y H Q => ∃ a o, y = .ref a ∧ DGet H a x o ∧ Q (.bl o.isSome) H
def rDNi : R2 := fun x y H Q => ∃ a o, y = .ref a ∧ DGet H a x o ∧ Q (.bl (!o.isSome)) H
def rDIx : R2 := fun x y H Q => ∃ a v, x = .ref a ∧ DGet H a y (some v) ∧ Q v H
section
variable {X : Cx}
theorem op_din (hu : X.A.units + 1 < cLine) : OpR X (compareOp .In) rDIn := by
  intro pins s σ H x y v u Q I rx ry h
  obtain ⟨a, o, rfl, g, q⟩ := h
  obtain rfl : u = Value.ref a := ry
  exact d_in hu I g rx fun s3 I3 => ⟨.bl o.isSome, H, I3, rfl, q⟩
theorem op_dni (hu : X.A.units + 1 < cLine) : OpR X (compareOp .NotIn) rDNi := by
  intro pins s σ H x y v u Q I rx ry h
  obtain ⟨a, o, rfl, g, q⟩ := h
  obtain rfl : u = Value.ref a := ry
  exact d_notIn hu I g rx fun s3 I3 => ⟨.bl (!o.isSome), H, I3, rfl, q⟩
theorem ix_dict (hu : X.A.units + 1 < cLine) : IxR X rDIx := by
  intro value slice pins s σ H x y v u Q I rx ry h hs
  obtain ⟨a, z, rfl, g, q⟩ := h
  obtain rfl : v = Value.ref a := rx
  exact PyProof.Rows.tail_any (ops := [.ref a, u]) (dict_typeIs I g) PySem.F.slot_dict_getitem.lookup (d_getItem hu I g ry fun w' s3 I3 rw' => ⟨z, H, I3, rw', q⟩) hs
theorem set_dict (hu : X.A.units + 1 < cLine) : PSet X (fun o i v H Q => ∃ a H', o = .ref a ∧ DPut H a i v H' ∧ Q H') := by
  intro pins s σ H o i v ov iv u Q I ro ri rv h
  obtain ⟨a, H', rfl, g, q⟩ := h
  obtain rfl : ov = Value.ref a := ro
  exact d_setItem hu I g ri rv fun s4 I4 => ⟨H', I4, q⟩
end
def inK : D → D → Option D
  | x, .dct _ ks _ => match keyD x with
    | some k => some (.bl (hasK ks k))
    | none => none
  | _, _ => none
def niK : D → D → Option D
  | x, .dct _ ks _ => match keyD x with
    | some k => some (.bl (!hasK ks k))
    | none => none
  | _, _ => none
def ixK : D → D → Option D
  | .dct _ ks ds, y => match keyD y with
    | some k => match getA ks ds k with
      | some d => if d.frozen = true then some d else none
      | none => none
    | none => none
  | _, _ => none
section
variable {U : Wd}
theorem ok_inK : Ok2 U rDIn inK := fun F H x y d1 d2 d c1 c2 Q g w1 w2 e k => by
  unfold inK at e
  split at e
  · split at e
    · rename_i kk ek
      cases e
      obtain ⟨rfl, _⟩ := keyD_rp w1 ek
      obtain ⟨a, kvs, bs, rfl, h, rfl, l⟩ := dct_now g.le w2
      refine ⟨a, _, rfl, DGet.k h, ?_⟩
      rw [has_at]
      exact same_ g k (.bl _)
    · cases e
  · cases e
theorem ok_niK : Ok2 U rDNi niK := fun F H x y d1 d2 d c1 c2 Q g w1 w2 e k => by
  unfold niK at e
  split at e
  · split at e
    · rename_i kk ek
      cases e
      obtain ⟨rfl, _⟩ := keyD_rp w1 ek
      obtain ⟨a, kvs, bs, rfl, h, rfl, l⟩ := dct_now g.le w2
      refine ⟨a, _, rfl, DGet.k h, ?_⟩
      rw [has_at]
      exact same_ g k (.bl _)
    · cases e
  · cases e
theorem ok_ixK : Ok2 U rDIx ixK := fun F H x y d1 d2 d c1 c2 Q g w1 w2 e k => by
  unfold ixK at e
  split at e
  · split at e
    · rename_i kk ek
      split at e
      · rename_i d0 ed
        split at e
        · rename_i hf
          cases e
          obtain ⟨rfl, _⟩ := keyD_rp w2 ek
          obtain ⟨a, kvs, bs, rfl, h, rfl, l⟩ := dct_now g.le w1
          obtain ⟨v, cs, h1, h2⟩ := val_at l ed
          have := h2.nil_of hf
          subst this
          refine ⟨a, v, rfl, ?_, same_ g k h2⟩
          rw [← h1]
          exact DGet.k h
        · cases e
      · cases e
    · cases e
  · cases e
end
section
variable [LE] [WC] {X : Cx} {a b : Expr} {pos : Pos} {ma mb : Ox} {k : Nat}
theorem units1 (hr : Room k X.A) : X.A.units + 1 < cLine := by have := hr.un; omega
theorem mv_inK (hr : Room k X.A) (ha : PE X a (tO (ux X) ma)) (hb : PE X b (tO (ux X) mb)) (hm : behindInMarks .In b = false := by rfl) : PE X (.Compare a [.In] [b] pos) (tM (ux X) (op2 inK ma mb)) := mv_cmp (op_din (units1 hr)) ok_inK ha hb hm
theorem mt_inK (hr : Room k X.A) (ha : PE X a (tO (ux X) ma)) (hb : PE X b (tO (ux X) mb)) (hm : behindInMarks .In b = false := by rfl) : PT X (.Compare a [.In] [b] pos) (tT (ux X) (toB (op2 inK ma mb))) := mt_cmp (op_din (units1 hr)) ok_inK ha hb hm
theorem mv_niK (hr : Room k X.A) (ha : PE X a (tO (ux X) ma)) (hb : PE X b (tO (ux X) mb)) (hm : behindInMarks .NotIn b = false := by rfl) : PE X (.Compare a [.NotIn] [b] pos) (tM (ux X) (op2 niK ma mb)) := mv_cmp (op_dni (units1 hr)) ok_niK ha hb hm
theorem mt_niK (hr : Room k X.A) (ha : PE X a (tO (ux X) ma)) (hb : PE X b (tO (ux X) mb)) (hm : behindInMarks .NotIn b = false := by rfl) : PT X (.Compare a [.NotIn] [b] pos) (tT (ux X) (toB (op2 niK ma mb))) := mt_cmp (op_dni (units1 hr)) ok_niK ha hb hm
theorem mv_ixK (hr : Room k X.A) (ha : PE X a (tO (ux X) ma)) (hb : PE X b (tO (ux X) mb)) (hs : PlainIx b := by exact fun _ _ => rfl) : PE X (.Subscript a b pos) (tM (ux X) (op2 ixK ma mb)) := mv_ix (ix_dict (units1 hr)) ok_ixK ha hb hs
end

/-! ### d[k] = v -/
def gKy (i : Nat) (mi : Ox) : Gm := fun d E => match E[i]? with
  | some (some (.dct true _ _)) => if d.frozen = true then match mi E with
    | some (h, E1) => match dr E1 h, E1[i]? with
      | some y, some (some (.dct true ks ds)) => match keyD y with
        | some k => if (frozenL ds && lineOk (ds.length + 1)) = true then some (E1.set i (some (.dct true (putKs ks k) (putDs ks ds k d)))) else none
        | none => none
      | _, _ => none
    | none => none
    else none
  | _ => none
theorem gKy_reads {U : Wd} {pin : Pn} {i : Nat} {mi : Ox} {v : V} {σ : Sl} {H : Hp} {Q : Sl → Hp → Prop} (q : tG U pin (gKy i mi) v σ H Q) : gSub (tVar i) (tO U mi) (fun o i v H Q => ∃ a H', o = .ref a ∧ DPut H a i v H' ∧ Q H') v σ H Q := by
  obtain ⟨E, F, bs, as, d, E', g, rE, w, e, q⟩ := q
  unfold gKy at e
  split at e
  · rename_i ks0 ds0 e0
    split at e
    · rename_i hf
      have hb := w.nil_of hf
      subst hb
      split at e
      · rename_i h E1 e1
        split at e
        · rename_i y ks ds e3 e2
          split at e
          · rename_i kk ek
            split at e
            · rename_i hz
              cases e
              simp only [Bool.and_eq_true] at hz
              obtain ⟨v0, a0, rest0, hv, w0, _, _⟩ := rE.take e0
              obtain ⟨a, rfl⟩ : ∃ a, v0 = .ref a := by
                cases w0
                exact ⟨_, rfl⟩
              refine ⟨.ref a, hv, E, F, as, h, E1, g, rE, e1, fun x F1 H1 b1 as1 s1 r1 w1 => ?_⟩
              obtain ⟨c, w1⟩ := w1.now r1 e3
              obtain ⟨rfl, _⟩ := keyD_rp w1 ek
              obtain ⟨v1, a1, rest, h1, w2, p, r2⟩ := r1.take e2
              rw [hv] at h1
              cases h1
              have hi := get_lt e2
              have wv : Rp U F1 H1 v d [] := w.mono0 s1.ext
              cases w2 with
              | @dctO _ kvs _ as2 hd l =>
                have ha2 : as2 = [] := l.frozen.mp hz.1
                subst ha2
                have s2 : Step F H as F1 H1 (a :: rest) := s1.right.perm p
                obtain ⟨k1, k2⟩ := put_rel (k := kk) l wv
                have hlen : kvs.length < sizeLine := by
                  have h3 := l.len
                  rw [List.length_map] at h3
                  have h4 : ds.length + 1 ≤ sizeLine := of_decide_eq_true hz.2
                  omega
                refine ⟨a, upd H1 a (.dK (putK kvs kk v)), rfl, DPut.k hd hlen, ?_⟩
                have t := Step.write (o := .dK (putK kvs kk v)) s2.good
                have nd := List.nodup_cons.mp s2.good.nd
                have r3 : REnv U F1 (upd H1 a (.dK (putK kvs kk v))) σ (E1.set i none) rest := r2.mono (Fle.refl _) fun b z => upd_ne fun e => nd.1 (e ▸ z)
                have w3 : Rp U F1 (upd H1 a (.dK (putK kvs kk v))) (.ref a) (.dct true ((putK kvs kk v).map (·.1)) (putDs (kvs.map (·.1)) ds kk d)) [a] := .dctO upd_same (k2.mono0 (Fle.refl _))
                have r4 := r3.putS (set_none_get hi) hv w3
                rw [List.set_set, k1] at r4
                exact q σ F1 _ _ (s2.trans t) r4 (SameAt.refl _ _)
            · cases e
          · cases e
        · cases e
      · cases e
    · cases e
  · cases e
section
variable [LE] [WC] {X : Cx} {ei : Expr} {x : Str} {px pos : Pos} {i : Nat} {pin : Pn} {mi : Ox} {k : Nat}
theorem mg_ky (hr : Room k X.A) (hv : PE X (.Name x px) (tVar i)) (hi : PE X ei (tO (ux X) mi))
    (ha : ∀ v, assign (.Subscript (.Name x px) ei pos) X.env v = (do
      let ov ← holding [v] (eval (.Name x px) X.env)
      let iv ← holding [v, ov] (eval ei X.env)
      standAt pos
      holding [v, ov, iv] (setItem ov iv v)
      release [v, ov, iv] []) := by intro _; rfl) : PG X (.Subscript (.Name x px) ei pos) (tG (ux X) pin (gKy i mi)) :=
  ⟨fun pins s σ H v u Q I r q => (pg_sub hv hi (set_dict (units1 hr)) ha).run pins s σ H v u Q I r (gKy_reads q)⟩
end

/-! ### dict(pairs) -/
def kvOf : List D → Option (List (Key × D))
  | [] => some []
  | .tup _ [k, v] :: ds => match keyD k, kvOf ds with
    | some k, some r => if v.frozen = true then some ((k, v) :: r) else none
    | _, _ => none
  | _ => none
def mergeA : List (Key × D) → List Key → List D → D
  | [], ks, ds => .dct true ks ds
  | (k, v) :: r, ks, ds => mergeA r (putKs ks k) (putDs ks ds k v)
def dictD : List D → Option D
  | [.lst _ ds] => match kvOf ds with
    | some kvs => some (mergeA kvs [] [])
    | none => none
  | _ => none
section
variable {U : Wd} {F H : Hp}
theorem kv_rows (g : Fle F H) : ∀ {vs : List V} {ds : List D} {as : List Addr} {kds : List (Key × D)}, RpL U F H vs ds as → kvOf ds = some kds → ∃ (ps : List Addr) (kvs : List (Key × V)), vs = ps.map V.ref ∧
    Paired (fun p (kv : Key × V) => SqT U.K H p [kV kv.1, kv.2]) ps kvs ∧ Paired (fun (kv : Key × V) (kd : Key × D) => kv.1 = kd.1 ∧ Rp U F H kv.2 kd.2 []) kvs kds
  | [], ds, as, kds, l, e => by
    cases l
    cases e
    exact ⟨[], [], rfl, .nil, .nil⟩
  | v :: vs, [], as, kds, l, e => absurd l.len (by simp)
  | v :: vs, d :: ds, as, kds, l, e => by
    cases l with
    | @cons _ _ _ _ a b w t =>
      unfold kvOf at e
      split at e
      · rename_i q
        cases q
      · rename_i o k y ds' q
        cases q
        split at e
        · rename_i kk r ek er
          split at e
          · rename_i hf
            cases e
            obtain ⟨ps, kvs, rfl, h1, h2⟩ := kv_rows g t er
            obtain ⟨p, us, rfl, hq, bs, lu⟩ := tup_now g w
            obtain ⟨x, z, b1, b2, rfl, _, w1, w2⟩ := two_view lu
            obtain ⟨rfl, _⟩ := keyD_rp w1 ek
            have := w2.nil_of hf
            subst this
            exact ⟨p :: ps, (kk, z) :: kvs, rfl, .cons hq h1, .cons ⟨rfl, w2⟩ h2⟩
          · cases e
        · cases e
      · cases e
theorem merge_rel : ∀ {more : List (Key × V)} {kds : List (Key × D)} {kvs : List (Key × V)} {ds : List D}, Paired (fun (kv : Key × V) (kd : Key × D) => kv.1 = kd.1 ∧ Rp U F H kv.2 kd.2 []) more kds →
    RpL U F H (kvs.map (·.2)) ds [] → ∃ ks' ds', mergeA kds (kvs.map (·.1)) ds = .dct true ks' ds' ∧ (mergeK kvs more).map (·.1) = ks' ∧ RpL U F H ((mergeK kvs more).map (·.2)) ds' []
  | _, _, kvs, ds, .nil, l => ⟨_, _, rfl, rfl, l⟩
  | _, _, kvs, ds, .cons (a := p) (b := (k, d)) h t, l => by
    obtain ⟨pk, pv⟩ := p
    obtain ⟨h1, h2⟩ := h
    have h1 : pk = k := h1
    subst h1
    obtain ⟨q1, q2⟩ := put_rel (k := pk) l h2
    obtain ⟨ks', ds', e1, e2, e3⟩ := merge_rel t q2
    rw [q1] at e1
    exact ⟨ks', ds', e1, e2, e3⟩
end
def rDict (K : PySem.W.Frag) : List V → Hp → VK → Prop := fun xs H Q => ∃ (a : Addr) (ps : List Addr) (kvs : List (Key × V)), xs = [.ref a] ∧ SqL K H a (ps.map V.ref) ∧ Paired (fun p kv => SqT K H p [kV kv.1, kv.2]) ps kvs ∧
    ∀ p, H p = none → Q (.ref p) (upd H p (.dK (mergeK [] kvs)))
theorem ok_dict {U : Wd} : OkN U (rDict U.K) dictD := fun F H xs ds d Q g w0 e k => by
  unfold dictD at e
  split at e
  · rename_i o es
    split at e
    · rename_i kds ek
      cases e
      obtain ⟨v, c, rfl, w⟩ := p1 w0
      obtain ⟨a, vs, rfl, hq, bs, l⟩ := lst_now g.le w
      obtain ⟨ps, kvs, rfl, h1, h2⟩ := kv_rows g.le l ek
      refine ⟨a, ps, kvs, rfl, .inl (.inl hq), h1, fun p hp => ?_⟩
      obtain ⟨ks', ds', e1, e2, e3⟩ := merge_rel (kvs := []) (ds := []) h2 .nil
      have e1 : mergeA kds [] [] = .dct true ks' ds' := e1
      rw [e1, ← e2] at k
      exact k (.ref p) F _ [p] (Step.alloc g hp) (.dctO upd_same (e3.mono0 (Fle.refl _)))
    · cases e
  · cases e
end MP

/-! Mirror layer, part 26: sorted(d.items()). -/
namespace MP
open PySem PySem.Spec L2
open PyProof.Rows (seqObj)

theorem TupK.keepsT {h h' : Heap} {sh : Nat → Bool} {v : Value} {l : Ky} (k : TupK h sh v l) (kp : ∀ b o, o.cls = .type "tuple" → h.get? b = some o → h'.get? b = some o) : TupK h' sh v l := by
  obtain ⟨t, us, e, ⟨o, ho, hc, r⟩, q⟩ := k
  exact ⟨t, us, e, ⟨o, kp t o hc ho, hc, r⟩, q⟩
/-- sorting a list of tuples in its place -/
theorem sort_rows {prog : Program} {w : World} {A : Around} {s : Shared} {a : Addr} {its : List Value} {n : Nat} {sh : Nat → Bool} {E : Value → Shared → Prop} {R : PySem.Fin → Shared → Prop} (ho : s.heap.get? a = some (seqObj "list" its.toArray n)) (hz : its.length ≤ sizeLine)
    (tm : ∀ v ∈ its, ∃ l, TupK s.heap sh v l)
    (h : R (.done (.ret .none)) { s with heap := PyProof.Rows.sortedHeap s.heap a its (isortB (fun v u => kLt ((PyProof.Rows.tupKey s.heap sh v).getD []) ((PyProof.Rows.tupKey s.heap sh u).getD [])) its).toArray }) :
    wpAny (model prog w) A (Builtin.«list.sort» ⟨[.ref a], []⟩) R E s := by
  let kv : Value → Ky := fun v => (PyProof.Rows.tupKey s.heap sh v).getD []
  have O : SrtO.Swo fun v u => kLt (kv v) (kv u) := kLt_swo kv
  refine SrtO.list_sort_ord (ltv := fun v u => kLt (kv v) (kv u)) O ho hz (fun h2 h' keep => ?_) fun out h1 h2 => ?_
  · have kp : ∀ b o, o.cls = .type "tuple" → s.heap.get? b = some o → h'.get? b = some o := fun b o hc e => keep b o (fun z => by
      subst z
      rw [ho] at e
      have e2 := Option.some.inj e
      rw [← e2] at hc
      have hc2 : (Value.type "list") = (Value.type "tuple") := hc
      exact absurd hc2 (by decide)) e
    refine ⟨PyProof.Rows.tuples' true, fun Q E hq => ?_, fun p q hp hq => ?_⟩
    · obtain ⟨fs, t, hl⟩ := tups_of (h := h') fun v hv => (let ⟨l, k⟩ := tm v hv; ⟨l, k.keepsT kp⟩)
      exact PyProof.Rows.tup_kind (s := { s with heap := h' }) (by omega) t hq
    · obtain ⟨l1, k1⟩ := tm _ hp
      obtain ⟨l2, k2⟩ := tm _ hq
      have e1 : kv p.1 = l1 := by
        show (PyProof.Rows.tupKey s.heap sh p.1).getD [] = l1
        rw [k1.key]
        rfl
      have e2 : kv q.1 = l2 := by
        show (PyProof.Rows.tupKey s.heap sh q.1).getD [] = l2
        rw [k2.key]
        rfl
      obtain ⟨t1, us1, z1, ⟨o1, ho1, hc1, n1, hd1⟩, _, it1⟩ := k1
      obtain ⟨t2, us2, z2, ⟨o2, ho2, hc2, n2, hd2⟩, _, it2⟩ := k2
      show wpAny (model prog w) _ (PyProof.Rows.keyLt' (PyProof.Rows.tuples' true) p.1 q.1) (fun r s' => s' = _ ∧ r = kLt (kv p.1) (kv q.1)) (fun _ _ => False) _
      rw [e1, e2, z1, z2]
      exact PySem.W.kat_lt (kp _ _ hc1 ho1) hd1 (kp _ _ hc2 ho2) hd2 (PyProof.Rows.tup_lex us1.toList us2.toList 0 l1 l2 it1 it2 (by rw [Array.length_toList, Array.length_toList]) ⟨rfl, rfl⟩)
  · have ho : out = isortB (fun v u => kLt (kv v) (kv u)) its := SrtO.stb_uniq O h1 (isortB_srtd O its) (h2.trans ⟨(isortB_stb O its).perm.symm, fun w => ((isortB_stb O its).cls w).symm⟩)
    rw [ho]
    exact h
/-- the tuples of a dict's items tracked -/
theorem tuples_laid [LE] [WC] {X : Cx} {pins : List (Addr × Obj)} {σ : L2.St} {H : Hp} {s : Shared} {h' : Heap} {tk : Nat} {kvs : List (Key × V)} {vs : List (Key × Value)} {as : List Addr} (I : Inv X pins σ H s) (kv : KV kvs vs)
    (hk : ∀ b o, s.heap.get? b = some o → h'.get? b = some o) (hl : as.length = vs.length) (hG : PySem.W.KdxG (mixKind X.prog X.w) vs s.heap.objs.size h' as) :
    ∃ H' : Hp, (∀ b o, H b = some o → H' b = some o) ∧ (∀ t ∈ as, H t = none) ∧ as.Nodup ∧ (∀ b, b ∉ as → H' b = H b) ∧ Paired (fun (t : Addr) (q : Key × V) => H' t = some (.tup [kV q.1, q.2])) as kvs ∧ Inv X pins σ H' { s with heap := h', toks := tk } := by
  have lk : kvs.length = vs.length := Paired.length kv
  have nd : as.Nodup := List.Pairwise.imp (fun {a b} (h : a < b) => Nat.ne_of_lt h) hG.rise
  have new : ∀ t ∈ as, H t = none := fun t ht => I.hok.fresh (Nat.le_of_lt (hG.above t ht))
  have atP := LiI.putT_at as kvs H (by omega) nd
  have off : ∀ b, b ∉ as → LiI.putT H as kvs b = H b := fun b h1 => LiI.putT_off as kvs _ h1
  have low : ∀ b o, s.heap.get? b = some o → b ∉ as := fun b o e z => absurd (Heap.lt_size e) (Nat.not_lt.mpr (Nat.le_of_lt (hG.above b z)))
  have kp : ∀ b u, H b = some u → (LiI.putT H as kvs) b = some u := fun b u e => by
    rw [off b (fun z => by rw [new b z] at e; cases e)]
    exact e
  refine ⟨LiI.putT H as kvs, kp, new, nd, off, atP, ?_⟩
  refine I.call' (ch := []) rfl ⟨fun b o q _ _ _ => hk b o q, fun b o q _ _ _ => ⟨o.slots, hk b o q⟩, fun b o q n _ => ?_, fun b o q _ => ⟨o, hk b o q⟩, fun b xs q => kp b _ q, fun b o u q => kp b _ q, fun b ps q => ⟨#[], by rw [kp b _ q]; simp⟩⟩ (fun b u q => ?_) I.bare fun b z => by simp at z
  · rw [off b (low b o q)]
    exact n
  · by_cases hb : b ∈ as
    · obtain ⟨j, pk, e1, e2, e3⟩ := LiI.paired_ix atP hb
      rw [e3] at q
      cases q
      obtain ⟨key, k, x, f1, f2, f3⟩ := hG.pairs j b e1
      obtain ⟨qv, g1, g2, g3⟩ := LiI.paired_get kv e2
      rw [f1] at g1
      cases g1
      have rk : RelV (kV pk.1) key := by
        rw [g2]
        exact relV_key (show keyIs k key = true from f2)
      exact ⟨by show 2 ≤ sizeLine; decide, [key, x], .cons rk (.cons g3 .nil), ⟨_, f3, rfl, _, rfl⟩⟩
    · rw [off b hb] at q
      exact (I.hok b u q).stay (fun d v _ y => hk d v y) (fun d y => kp d _ y) fun d xs y => kp d _ y
/-- the rows of a dict's items -/
def rSortIt : V → Hp → VK → Prop := fun x H Q => ∃ (d : Addr) (kvs : List (Key × V)) (ls : List Ky) (sh : Nat → Bool), x = .ref d ∧ H d = some (.dK kvs) ∧ Paired (fun (kv : Key × V) l => itemsV sh 0 [kV kv.1, kv.2] = some l) kvs ls ∧
  ∀ (H' : Hp) (p : Addr) (ts : List Addr), (∀ b o, H b = some o → H' b = some o) → H p = none → (∀ t ∈ ts, H t = none) → p ∉ ts → Paired (fun (t : Addr) (q : Key × V) => H' t = some (.tup [kV q.1, q.2])) ts kvs → H' p = some (.lst (sortBy (ts.map V.ref) ls)) → Q (.ref p) H'
section
variable [LE] [WC] {X : Cx} {e : Expr} {te : TE} {p apos cpos pos : Pos}
theorem pe_sortIt (hc : X.calm = true) (he : PE X e te) (hg : Gl X "sorted") (hm : X.mg "sorted" = none) (hbase : attributeBase e "items" X.env (eval e X.env) = eval e X.env := by rfl) (hline : (apos.endLine == cpos.line) = true := by rfl)
    (hs : starEach [.Call (.Attribute e "items" apos) [] [] cpos] X.env = (false, eval (.Call (.Attribute e "items" apos) [] [] cpos) X.env) :: starEach [] X.env := by rfl) (hpl : (backTo pos (starEach [] X.env)).any (·.1) = false := by rfl) :
    PE X (.Call (.Name "sorted" p) [.Call (.Attribute e "items" apos) [] [] cpos] [] pos) (tUn rSortIt te) := by
  refine ⟨fun pins s σ H Q I hq => ?_⟩
  refine wpAny_Call_Name_kw (ld_blt I hg hm (by decide +kernel : bootBuiltins "sorted" = some (.builtin "sorted")) ?_ (by decide) (by decide))
  refine PyProof.Rows.callWith_builtin1 ?_ hs hpl
  rw [hs]
  show wpAny _ _ (spliced ((false, eval (.Call (.Attribute e "items" apos) [] [] cpos) X.env) :: backTo pos (starEach [] X.env))) _ _ s
  refine Calls.spliced_cons ?_
  refine wpAny_Call_method (T := "dict") (id := "dict.items") hbase rfl hline PySem.F.plainAttrs_dict PySem.F.slot_dict_items PySem.F.type_dict_items (thn (he.run pins s σ H _ I hq) fun u s1 ⟨x, H1, I1, rx, d, kvs, ls, sh, ex, hd, hls, q⟩ => ?_)
  subst ex
  obtain rfl : u = Value.ref d := rx
  obtain ⟨hz, hs0, vs, kv, hdo⟩ := I1.hok d _ hd
  obtain ⟨ep, hat⟩ := hdo.dictAt
  have lk : kvs.length = vs.length := Paired.length kv
  have I2 : Inv X pins σ H1 { s1 with heap := s1.heap.push { cls := .type "dict_items", data := .fields #[.ref d] } } := I1.kept (t' := s1.toks) fun b ob q => Heap.get?_push_of_some _ q
  refine ⟨hdo.typeIs, hdo.mapOf.noDict, ?_⟩
  show wpAny _ _ (callWith cpos (.builtin "dict.items") [.ref d] [] []) _ X.xe s1
  refine method_meetsIn PySem.F.slot_dict_items PySem.F.entry_dict_items rfl (PySem.evalArgs_none ⟨rfl, hdo.typeIs, PySem.F.args_dict_items_1 _, _, meets_dict_items (mixKind X.prog X.w) d hs0, ⟨vs, hdo⟩, ?_⟩)
  refine Calls.spliced_nil ?_
  refine Calls.call_function_entry PyProof.Rows.kind_sorted PyProof.Rows.plain_sorted PyProof.Rows.entry_sorted (PyProof.Rows.args_sorted1 _) ?_
  unfold Builtin.«sorted»
  refine wpAny_bind (m := checkCount "sorted" 1 1 _) (wpAny_pure ?_)
  refine wpAny_bind (PySem.W.kdx_collect (A := X.A.in1) (knd := mixKind X.prog X.w) (kvs := vs) (ep := ep) (I1.ok.hd hc) ⟨_, Heap.get?_push_size _ rfl, rfl, rfl⟩ (hat.push _) (by omega) fun h' tk as hk hl hG => ?_)
  obtain ⟨H', k1, k2, k3, k4, k5, J⟩ := tuples_laid (tk := tk) I2 kv hk hl hG
  have hlen : as.length ≤ sizeLine := by omega
  refine wpAny_bind (wpAny_newList ?_ (by rw [List.length_map]; exact hlen))
  have fr := J.hok.fresh (Nat.le_refl h'.objs.size)
  have hpn : h'.objs.size ∉ as := fun z => by
    obtain ⟨j, pk, e1, e2, e3⟩ := LiI.paired_ix k5 z
    have fr2 : H' h'.objs.size = none := fr
    rw [fr2] at e3
    cases e3
  have ob : (h'.push (seqObj "list" (as.map Value.ref).toArray 0)).get? h'.objs.size = some (seqObj "list" (as.map Value.ref).toArray 0) := Heap.get?_push_size _ rfl
  have J2 := J.laid (a := h'.objs.size) (o := .lst (as.map V.ref)) (h' := h'.push (seqObj "list" (as.map Value.ref).toArray 0)) (t' := tk) (fun b u e => Heap.get?_push_of_some _ e) (Nat.le_refl _) ⟨by rw [List.length_map]; exact hlen, as.map Value.ref, 0, LiI.vals_refs as, ob⟩
  have tk2 : Paired (fun u l => TupK (h'.push (seqObj "list" (as.map Value.ref).toArray 0)) sh u l) (as.map Value.ref) ls := by
    have gen : ∀ {bs : List Addr} {kvs : List (Key × V)} {ls : List Ky}, Paired (fun (t : Addr) (q : Key × V) => H' t = some (.tup [kV q.1, q.2])) bs kvs → Paired (fun (kv : Key × V) l => itemsV sh 0 [kV kv.1, kv.2] = some l) kvs ls → Paired (fun u l => TupK (h'.push (seqObj "list" (as.map Value.ref).toArray 0)) sh u l) (bs.map Value.ref) ls := by
      intro bs kvs ls a
      induction a generalizing ls with
      | nil =>
        intro b
        cases b
        exact .nil
      | cons h t ih =>
        intro b
        cases b with
        | cons h2 t2 =>
          refine .cons ?_ (ih t2)
          obtain ⟨_, its, r, ht⟩ := J.hok _ _ h
          refine ⟨_, its.toArray, rfl, ?_, ?_, by simpa using itemsV_tup r h2⟩
          · obtain ⟨o, ho, hc, n, hdd⟩ := ht
            exact ⟨o, Heap.get?_push_of_some _ ho, hc, n, hdd⟩
          · intro z
            have z2 : its = [] := by simpa using z
            subst z2
            cases r
    exact gen k5 hls
  refine wpAny_bind (wpAny_holding (wpAny_call_entry PyProof.Rows.slot_list_sort ⟨_, ob, rfl⟩ PyProof.Rows.entry_list_sort (sort_rows (sh := sh) (its := as.map Value.ref) (n := 0) ob (by rw [List.length_map]; exact hlen) (fun v hv => paired_mem tk2 v hv) ⟨_, rfl, ?_⟩) (PyProof.Rows.args_list_sort _)))
  refine wpAny_pure ⟨_, rfl, ?_⟩
  obtain ⟨ep2, he2⟩ := PyProof.Rows.sortedHeap_at (vs := as.map Value.ref) (out := (isortB (fun v u => kLt ((PyProof.Rows.tupKey (h'.push (seqObj "list" (as.map Value.ref).toArray 0)) sh v).getD []) ((PyProof.Rows.tupKey (h'.push (seqObj "list" (as.map Value.ref).toArray 0)) sh u).getD [])) (as.map Value.ref)).toArray) ob
  have rel : Vals (sortBy (as.map V.ref) ls) (isortB (fun v u => kLt ((PyProof.Rows.tupKey (h'.push (seqObj "list" (as.map Value.ref).toArray 0)) sh v).getD []) ((PyProof.Rows.tupKey (h'.push (seqObj "list" (as.map Value.ref).toArray 0)) sh u).getD [])) (as.map Value.ref)) := by
    refine pair_fst (R := fun u l => TupK (h'.push (seqObj "list" (as.map Value.ref).toArray 0)) sh u l) (isortB_rel (fun p u p' u' r1 r2 => ?_) (pair_up tk2 (LiI.vals_refs as)))
    show kLt p.2 p'.2 = kLt ((PyProof.Rows.tupKey (h'.push (seqObj "list" (as.map Value.ref).toArray 0)) sh u).getD []) ((PyProof.Rows.tupKey (h'.push (seqObj "list" (as.map Value.ref).toArray 0)) sh u').getD [])
    rw [r1.2.key, r2.2.key]
    rfl
  have hlen2 : (sortBy (as.map V.ref) ls).length ≤ sizeLine := by
    rw [rel.length, (isortB_perm _).length_eq, List.length_map]
    exact hlen
  have hfr : upd H' h'.objs.size (.lst (as.map V.ref)) h'.objs.size = some (.lst (as.map V.ref)) := upd_same
  have J3 := J2.write (e := h'.objs.size) (t' := tk) (by rw [hfr]; trivial) (.inl rfl) (fun b u hb hu => by rw [PyProof.Rows.sortedHeap_old hb (Heap.lt_size hu)]; exact hu) ⟨_, he2⟩ (o := .lst (sortBy (as.map V.ref) ls)) ⟨hlen2, _, ep2, rel, he2⟩
  have hn : H1 h'.objs.size = none := by
    cases e : H1 h'.objs.size with
    | none => rfl
    | some o =>
      have := k1 _ _ e
      rw [show H' h'.objs.size = none from fr] at this
      cases this
  refine ⟨.ref h'.objs.size, _, J3, rfl, q _ _ as (fun b o e => ?_) hn k2 hpn (Paired.mapP k5 fun t p e => ?_) upd_same⟩
  · have hb : b ≠ h'.objs.size := fun z => by
      rw [z, hn] at e
      cases e
    rw [upd_ne hb, upd_ne hb]
    exact k1 b o e
  · have hb : t ≠ h'.objs.size := fun z => by
      rw [z, show H' h'.objs.size = none from fr] at e
      cases e
    rw [upd_ne hb, upd_ne hb]
    exact e
end

/-! ### the mirror: a list of pairs, sorted -/
def pairsK (ks : List Key) (ds : List D) : List D := (ks.zip ds).map fun p => .tup false [kD p.1, p.2]
def sortItD : D → Option D
  | .dct _ ks ds => if frozenL ds = true then (if (pairsK ks ds).all (okTup (tupShape (pairsK ks ds))) = true then some (.lst true (isortB ltTD (pairsK ks ds))) else none) else none
  | _ => none
section
variable {U : Wd} {F H : Hp}
theorem step_tups {p : Addr} {ts : List Addr} {xs : List V} {H' : Hp} (g : Good F H []) (k1 : ∀ b o, H b = some o → H' b = some o) (hp : H p = none) (hts : ∀ t ∈ ts, H t = none) (hpt : p ∉ ts) (h1 : ∀ t ∈ ts, ∃ us, H' t = some (.tup us)) (h2 : H' p = some (.lst xs)) :
    Step F H [] (fun b => if b ∈ ts then H' b else F b) H' [p] := by
  have fn : ∀ b, H b = none → F b = none := fun b e => by
    cases q : F b with
    | none => rfl
    | some o => rw [g.le b o q] at e; cases e
  refine ⟨⟨fun a o e => ?_, by simp, fun a z => ?_, fun a z => ?_, fun a ps e => ?_⟩, fun a o e => ?_, fun b o e _ _ => k1 b o e, fun P q h => LamX.TabS.ext h fun b u e => k1 b u e, fun b z => ?_, fun b z => ?_, fun b z => ?_⟩
  · by_cases h : a ∈ ts
    · simpa [h] using e
    · exact k1 a o (g.le a o (by simpa [h] using e))
  · rw [List.mem_singleton] at z
    subst z
    simp only [hpt, if_false]
    exact fn _ hp
  · rw [List.mem_singleton] at z
    subst z
    exact ⟨_, h2, True.intro⟩
  · by_cases h : a ∈ ts
    · obtain ⟨us, e2⟩ := h1 a h
      simp only [h, if_true] at e
      rw [e2] at e
      cases e
    · simp only [h, if_false] at e
      exact g.nt a ps e
  · have h : a ∉ ts := fun z => by
      rw [fn a (hts a z)] at e
      cases e
    simp only [h, if_false]
    exact e
  · cases e : H b with
    | none => exact absurd e z
    | some o =>
      rw [k1 b o e]
      exact fun q => nomatch q
  · by_cases h : b ∈ ts
    · exact .inr (.inr (hts b h))
    · simp only [h, if_false] at z
      exact .inl z
  · rw [List.mem_singleton] at z
    subst z
    exact .inr hp
theorem zip_tups {F' H' : Hp} (hf : Fle F F') {ts : List Addr} {kvs : List (Key × V)} {ds : List D} (l : RpL U F H (kvs.map (·.2)) ds []) (r : Paired (fun (t : Addr) (q : Key × V) => F' t = some (.tup [kV q.1, q.2])) ts kvs) :
    RpL U F' H' (ts.map V.ref) (pairsK (kvs.map (·.1)) ds) [] := by
  induction r generalizing ds with
  | nil =>
    cases l
    exact .nil
  | @cons a q as qs h t ih =>
    cases ds with
    | nil => exact absurd l.len (by simp)
    | cons d ds =>
      rw [List.map_cons] at l
      obtain ⟨w, lt⟩ := l.uncons0
      exact .cons0 (.tupS (.inl (.inl h)) (.cons0 (rp_kD q.1) (.cons0 (w.mono0 hf) .nil))) (ih lt)
theorem keys_rows {sh : Nat → Bool} : ∀ {kvs : List (Key × V)} {ds : List D}, RpL U F H (kvs.map (·.2)) ds [] → (pairsK (kvs.map (·.1)) ds).all (okTup sh) = true → Paired (fun (kv : Key × V) l => itemsV sh 0 [kV kv.1, kv.2] = some l) kvs ((pairsK (kvs.map (·.1)) ds).map keyTD)
  | [], ds, l, h => by
    cases l
    exact .nil
  | q :: kvs, [], l, h => absurd l.len (by simp)
  | q :: kvs, d :: ds, l, h => by
    rw [List.map_cons] at l
    obtain ⟨w, lt⟩ := l.uncons0
    have h : (okTup sh (.tup false [kD q.1, d]) && (pairsK (kvs.map (·.1)) ds).all (okTup sh)) = true := h
    rw [Bool.and_eq_true] at h
    refine .cons ?_ (keys_rows lt h.2)
    have h1 := h.1
    simp only [okTup, Bool.and_eq_true] at h1
    exact (shOk_items (U := U) (F := F) (H := H) (.cons0 (rp_kD q.1) (.cons0 w .nil)) h1.2).1
theorem zip_keys2 : ∀ {vs : List V} {ds : List D}, RpL U F H vs ds [] → Paired (fun (p : V × Ky) d => Rp U F H p.1 d [] ∧ p.2 = keyTD d) (vs.zip (ds.map keyTD)) ds := zip_keys
end
theorem ok_sortIt {U : Wd} : Ok1 U rSortIt sortItD := fun F H x d1 d c1 Q g w1 e k => by
  unfold sortItD at e
  split at e
  · rename_i o ks ds
    split at e
    · rename_i hf
      split at e
      · rename_i hs
        cases e
        obtain ⟨a, kvs, bs, rfl, h, rfl, l⟩ := dct_now g.le w1
        have l0 := l.frozen0 hf
        refine ⟨a, kvs, _, _, rfl, h, keys_rows l0 hs, fun H' p ts k1 hp hts hpt hpr hl => ?_⟩
        have h1 : ∀ t ∈ ts, ∃ us, H' t = some (.tup us) := fun t ht => by
          obtain ⟨j, q, _, _, e3⟩ := LiI.paired_ix hpr ht
          exact ⟨_, e3⟩
        have st := step_tups g k1 hp hts hpt h1 hl
        have hpr2 : Paired (fun (t : Addr) (q : Key × V) => (if t ∈ ts then H' t else F t) = some (.tup [kV q.1, q.2])) ts kvs := by
          have gen : ∀ {bs : List Addr} {qs : List (Key × V)}, Paired (fun (t : Addr) (q : Key × V) => H' t = some (.tup [kV q.1, q.2])) bs qs → (∀ t ∈ bs, t ∈ ts) → Paired (fun (t : Addr) (q : Key × V) => (if t ∈ ts then H' t else F t) = some (.tup [kV q.1, q.2])) bs qs := by
            intro bs qs a
            induction a with
            | nil => intro _; exact .nil
            | cons h t ih =>
              intro m
              refine .cons ?_ (ih fun t ht => m t (List.mem_cons_of_mem _ ht))
              rw [if_pos (m _ List.mem_cons_self)]
              exact h
          exact gen hpr fun t ht => ht
        have lt := zip_tups (U := U) (H := H) (F := F) (F' := fun b => if b ∈ ts then H' b else F b) (H' := H') st.ext l0 hpr2
        refine k (.ref p) _ H' [p] st (.lstO hl (unzip_rp (isortB_rel (fun p d p' d' r1 r2 => ?_) (zip_keys lt))))
        show kLt p.2 p'.2 = kLt (keyTD d) (keyTD d')
        rw [r1.2, r2.2]
      · cases e
    · cases e
  · cases e
section
variable [LE] [WC] {X : Cx} {e : Expr} {p apos cpos pos : Pos} {m : Ox}
theorem mv_sortIt (hc : X.calm = true) (hg : Gl X "sorted") (hm : X.mg "sorted" = none) (he : PE X e (tO (ux X) m)) (hbase : attributeBase e "items" X.env (eval e X.env) = eval e X.env := by rfl) (hline : (apos.endLine == cpos.line) = true := by rfl)
    (hs : starEach [.Call (.Attribute e "items" apos) [] [] cpos] X.env = (false, eval (.Call (.Attribute e "items" apos) [] [] cpos) X.env) :: starEach [] X.env := by rfl) (hpl : (backTo pos (starEach [] X.env)).any (·.1) = false := by rfl) :
    PE X (.Call (.Name "sorted" p) [.Call (.Attribute e "items" apos) [] [] cpos] [] pos) (tM (ux X) (op1 sortItD m)) := pe_mono (pe_sortIt hc he hg hm hbase hline hs hpl) fun _ _ _ q => op1_reads ok_sortIt q
end
end MP

/-! Mirrors by simp: one rule for each form; what isn't reached yet is not looked into. -/
namespace MP
open PySem PySem.Spec L2
section
variable {α β : Type}
/-- a continuation, out of simp's sight -/
class Ct (α β : Type) where
  go : α → Option β
def bndI (x : Option α) [c : Ct α β] : Option β := match x with
  | some a => c.go a
  | none => none
abbrev bnd (x : Option α) (f : α → Option β) : Option β := bndI x (c := ⟨f⟩)
@[simp] theorem bnd_some (a : α) (f : α → Option β) : bndI (some a) (c := ⟨f⟩) = f a := nr rfl
@[simp] theorem bnd_none [c : Ct α β] : bndI (none : Option α) (c := c) = none := nr rfl
/-- two continuations -/
class C2 (β : Type) where
  yes : En → Option β
  no : En → Option β
def tstI (r : Option (Bool × En)) [c : C2 β] : Option β := match r with
  | some (true, E) => c.yes E
  | some (false, E) => c.no E
  | none => none
abbrev tstK (r : Option (Bool × En)) (a b : En → Option β) : Option β := tstI r (c := ⟨a, b⟩)
@[simp] theorem tstK_t (E : En) (a b : En → Option β) : tstI (some (true, E)) (c := ⟨a, b⟩) = a E := nr rfl
@[simp] theorem tstK_f (E : En) (a b : En → Option β) : tstI (some (false, E)) (c := ⟨a, b⟩) = b E := nr rfl
theorem tstK_ite {p : Prop} [Decidable p] (E : En) (a b : En → Option β) : tstK (some (decide p, E)) a b = if p then a E else b E := by
  by_cases h : p
  · rw [if_pos h, decide_eq_true h]
    rfl
  · rw [if_neg h, decide_eq_false h]
    rfl
class Op2 (β : Type) where
  yes : Option β
  no : Option β
def iteI (v : Bool) [c : Op2 β] : Option β := if v = true then c.yes else c.no
abbrev iteK (v : Bool) (a b : Option β) : Option β := iteI v (c := ⟨a, b⟩)
@[simp] theorem iteK_t (a b : Option β) : iteI true (c := ⟨a, b⟩) = a := nr rfl
@[simp] theorem iteK_f (a b : Option β) : iteI false (c := ⟨a, b⟩) = b := nr rfl
end
class Cs where
  go : Sm
def seqI (r : Option (Ctl × En)) [c : Cs] : Option (Ctl × En) := match r with
  | some (.nx, E) => c.go E
  | r => r
abbrev seqK (r : Option (Ctl × En)) (b : Sm) : Option (Ctl × En) := seqI r (c := ⟨b⟩)
@[simp] theorem seqK_nx (E : En) (b : Sm) : seqI (some (.nx, E)) (c := ⟨b⟩) = b E := nr rfl
@[simp] theorem seqK_rt (d : D) (E : En) [c : Cs] : seqI (some (.rt d, E)) (c := c) = some (.rt d, E) := nr rfl
@[simp] theorem seqK_bk (E : En) [c : Cs] : seqI (some (.bk, E)) (c := c) = some (.bk, E) := nr rfl
@[simp] theorem seqK_ct (E : En) [c : Cs] : seqI (some (.ct, E)) (c := c) = some (.ct, E) := nr rfl
def endK (mask : List Bool) (r : Option (Ctl × En)) : Option (D × List (Option D)) := match r with
  | some (.rt d, E) => some (d, finals mask E)
  | some (.nx, E) => some (.non, finals mask E)
  | _ => none
@[simp] theorem endK_rt (mask : List Bool) (d : D) (E : En) : endK mask (some (.rt d, E)) = some (d, finals mask E) := nr rfl
@[simp] theorem endK_nx (mask : List Bool) (E : En) : endK mask (some (.nx, E)) = some (.non, finals mask E) := nr rfl
@[simp] theorem fin_nil (E : En) : finals [] E = [] := by cases E <;> rfl
@[simp] theorem fin_t (bs : List Bool) (x : Option D) (E : En) : finals (true :: bs) (x :: E) = x :: finals bs E := nr rfl
@[simp] theorem fin_f (bs : List Bool) (x : Option D) (E : En) : finals (false :: bs) (x :: E) = none :: finals bs E := nr rfl
theorem ev_fn (n : Nat) (mask : List Bool) (body : Sm) (ds : List D) : fnM n mask body ds = if ds.length = mask.length then endK mask (body (ds.map some ++ List.replicate (n - mask.length) none)) else none := by
  unfold fnM
  split
  · generalize body (ds.map some ++ List.replicate (n - mask.length) none) = z
    cases z with
    | none => rfl
    | some x =>
      obtain ⟨c, E⟩ := x
      cases c <;> rfl
  · rfl
section
variable (E : En) (m a b c : Ex) (o p q : Ox) (f g : D → D → Option D) (t u : Tx) (s r : Sm) (h h' : Hx) (l l' : Lx) (i j k : Nat) (d : D)
@[simp] theorem ev_seq : sSeq s r E = seqK (s E) r := by
  unfold sSeq
  cases s E with
  | none => rfl
  | some x =>
    obtain ⟨v, E1⟩ := x
    cases v <;> rfl
@[simp] theorem ev_skip : sSkip E = some (.nx, E) := nr rfl
@[simp] theorem ev_break : sBreak E = some (.bk, E) := nr rfl
@[simp] theorem ev_cont : sCont E = some (.ct, E) := nr rfl
@[simp] theorem ev_never : sNever E = none := nr rfl
@[simp] theorem ev_drop : sDrop m E = bnd (m E) fun x => some (.nx, x.2) := by
  unfold sDrop
  cases m E <;> rfl
@[simp] theorem ev_ret : sRet m E = bnd (m E) fun x => some (.rt x.1, x.2) := by
  unfold sRet
  cases m E <;> rfl
@[simp] theorem ev_retN : sRetN E = some (.rt .non, E) := nr rfl
@[simp] theorem ev_if : sIf t s r E = tstK (t E) s r := by
  unfold sIf
  cases t E with
  | none => rfl
  | some x =>
    obtain ⟨v, E1⟩ := x
    cases v <;> rfl
@[simp] theorem ev_asg (gm : Gm) : sAsg m gm E = bnd (m E) fun x => bnd (gm x.1 x.2) fun E2 => some (.nx, E2) := by
  unfold sAsg
  cases m E with
  | none => rfl
  | some x =>
    obtain ⟨v, E1⟩ := x
    show (match gm v E1 with | some E2 => some (Ctl.nx, E2) | none => none) = bnd (gm v E1) _
    cases gm v E1 <;> rfl
@[simp] theorem ev_set (v : D) : gSet i v E = if i < E.length then some (E.set i (some v)) else none := nr rfl
@[simp] theorem ev_gno : gNo [] E = some E := nr rfl
@[simp] theorem ev_gone (gm : Gm) (gs : Gs) (v : D) (vs : List D) : gOne gm gs (v :: vs) E = bnd (gm v E) fun E1 => gs vs E1 := by
  show (match gm v E with | some E1 => gs vs E1 | none => none) = _
  cases gm v E <;> rfl
@[simp] theorem ev_gtup (n : Nat) (gs : Gs) (w : Bool) (vs : List D) : gTup' n gs (.tup w vs) E = if vs.length = n then gs vs E else none := nr rfl
@[simp] theorem ev_k (is : List Nat) : sK is s E = s (kill is E) := nr rfl
@[simp] theorem ev_kill0 : kill [] E = E := nr rfl
@[simp] theorem ev_kill (is : List Nat) : kill (i :: is) E = kill is (E.set i none) := nr rfl
@[simp] theorem ev_par : sPar i j l E = bnd (l E) fun x => match x with
    | ([v, w], E1) => if i < E1.length then (if j < E1.length then some (.nx, (E1.set i (some v)).set j (some w)) else none) else none
    | _ => none := by
  unfold sPar
  cases l E with
  | none => rfl
  | some x =>
    obtain ⟨ds, E1⟩ := x
    match ds with
    | [] => rfl
    | [_] => rfl
    | [_, _] => rfl
    | _ :: _ :: _ :: _ => rfl
@[simp] theorem ev_par3 : sPar3 i j k l E = bnd (l E) fun x => match x with
    | ([v, w, z], E1) => if i < E1.length ∧ j < E1.length ∧ k < E1.length then some (.nx, ((E1.set i (some v)).set j (some w)).set k (some z)) else none
    | _ => none := by
  unfold sPar3
  cases l E with
  | none => rfl
  | some x =>
    obtain ⟨ds, E1⟩ := x
    match ds with
    | [] => rfl
    | [_] => rfl
    | [_, _] => rfl
    | [_, _, _] => rfl
    | _ :: _ :: _ :: _ :: _ => rfl
/-! expressions -/
@[simp] theorem ev_c : xC d E = some (d, E) := nr rfl
@[simp] theorem ev_no : xNo E = none := nr rfl
@[simp] theorem ev_oV : oV m E = bnd (m E) fun x => some (.val x.1, x.2) := by
  unfold oV
  cases m E <;> rfl
def slotI {β : Type} (r : Option (Option D)) [c : Ct D β] : Option β := match r with
  | some (some d) => c.go d
  | _ => none
abbrev slotK {β : Type} (r : Option (Option D)) (x : D → Option β) : Option β := slotI r (c := ⟨x⟩)
@[simp] theorem slotK_some {β : Type} (x : D → Option β) : slotI (some (some d)) (c := ⟨x⟩) = x d := nr rfl
@[simp] theorem ev_oN : oN i E = slotK E[i]? fun _ => some (.slot i, E) := by
  unfold oN
  cases E[i]? with
  | none => rfl
  | some o => cases o <;> rfl
@[simp] theorem ev_dr (x : Nat) : dr E (.slot x) = slotK E[x]? some := by
  simp only [dr]
  cases E[x]? with
  | none => rfl
  | some o => cases o <;> rfl
@[simp] theorem ev_drv (v : D) : dr E (.val v) = some v := nr rfl
@[simp] theorem ev_drl0 : drL E [] = some [] := nr rfl
@[simp] theorem ev_drl (x : Hd) (xs : List Hd) : drL E (x :: xs) = bnd (dr E x) fun v => bnd (drL E xs) fun vs => some (v :: vs) := by
  show (match dr E x with | some d => (match drL E xs with | some ds => some (d :: ds) | none => none) | none => none) = _
  cases dr E x with
  | none => rfl
  | some d =>
    show (match drL E xs with | some ds => some (d :: ds) | none => none) = bnd (drL E xs) _
    cases drL E xs <;> rfl
@[simp] theorem ev_tk : xTk i E = slotK E[i]? fun d => iteK d.frozen (some (d, E)) (some (d, E.set i none)) := by
  unfold xTk
  cases E[i]? with
  | none => rfl
  | some o => cases o <;> rfl
@[simp] theorem ev_sh : xSh i E = slotK E[i]? fun d => iteK d.frozen (some (d, E)) (some (d.frz, E.set i (some d.frz))) := by
  unfold xSh
  cases E[i]? with
  | none => rfl
  | some o => cases o <;> rfl
@[simp] theorem ev_op2 : op2 f o p E = bnd (o E) fun x => bnd (p x.2) fun y => bnd (dr y.2 x.1) fun v => bnd (dr y.2 y.1) fun w => bnd (f v w) fun z => some (z, y.2) := by
  unfold op2
  cases o E with
  | none => rfl
  | some x =>
    obtain ⟨h1, E1⟩ := x
    show _ = bnd (p E1) _
    cases e0 : p E1 with
    | none => simp only [e0]; rfl
    | some y =>
      obtain ⟨h2, E2⟩ := y
      simp only [e0]
      show _ = bnd (dr E2 h1) _
      cases e1 : dr E2 h1 with
      | none => rfl
      | some v =>
        show _ = bnd (dr E2 h2) _
        cases e2 : dr E2 h2 with
        | none => rfl
        | some w =>
          show _ = bnd (f v w) _
          simp only
          cases f v w <;> rfl
@[simp] theorem ev_op1 (f : D → Option D) : op1 f o E = bnd (o E) fun x => bnd (dr x.2 x.1) fun v => bnd (f v) fun z => some (z, x.2) := by
  unfold op1
  cases o E with
  | none => rfl
  | some x =>
    obtain ⟨h1, E1⟩ := x
    show _ = bnd (dr E1 h1) _
    simp only
    cases e1 : dr E1 h1 with
    | none => rfl
    | some v =>
      show _ = bnd (f v) _
      simp only
      cases f v <;> rfl
def blI {β : Type} (r : Option (D × En)) [c : Ct (Bool × En) β] : Option β := match r with
  | some (.bl v, E) => c.go (v, E)
  | _ => none
abbrev blK {β : Type} (r : Option (D × En)) (x : Bool → En → Option β) : Option β := blI r (c := ⟨fun y => x y.1 y.2⟩)
@[simp] theorem blK_some {β : Type} (v : Bool) (x : Bool × En → Option β) : blI (some (.bl v, E)) (c := ⟨x⟩) = x (v, E) := nr rfl
@[simp] theorem ev_toB : toB m E = blK (m E) fun v E' => some (v, E') := by
  unfold toB
  cases m E with
  | none => rfl
  | some x =>
    obtain ⟨v, E1⟩ := x
    cases v <;> rfl
@[simp] theorem ev_andT : andT t u E = tstK (t E) u fun E1 => some (false, E1) := by
  unfold andT
  cases t E with
  | none => rfl
  | some x =>
    obtain ⟨v, E1⟩ := x
    cases v <;> rfl
@[simp] theorem ev_orT : orT t u E = tstK (t E) (fun E1 => some (true, E1)) u := by
  unfold orT
  cases t E with
  | none => rfl
  | some x =>
    obtain ⟨v, E1⟩ := x
    cases v <;> rfl
@[simp] theorem ev_notT : notT t E = bnd (t E) fun x => some (!x.1, x.2) := by
  unfold notT
  cases t E <;> rfl
@[simp] theorem ev_andX : andX a b E = blK (a E) fun v E1 => tstK (some (v, E1)) b fun E1 => some (.bl false, E1) := by
  unfold andX
  cases a E with
  | none => rfl
  | some x =>
    obtain ⟨v, E1⟩ := x
    cases v <;> try rfl
    rename_i v
    cases v <;> rfl
@[simp] theorem ev_orX : orX a b E = blK (a E) fun v E1 => tstK (some (v, E1)) (fun E1 => some (.bl true, E1)) b := by
  unfold orX
  cases a E with
  | none => rfl
  | some x =>
    obtain ⟨v, E1⟩ := x
    cases v <;> try rfl
    rename_i v
    cases v <;> rfl
@[simp] theorem ev_notX : notX a E = blK (a E) fun v E1 => some (.bl (!v), E1) := by
  unfold notX
  cases a E with
  | none => rfl
  | some x =>
    obtain ⟨v, E1⟩ := x
    cases v <;> rfl
@[simp] theorem ev_ifX : ifX t a b E = tstK (t E) a b := by
  unfold ifX
  cases t E with
  | none => rfl
  | some x =>
    obtain ⟨v, E1⟩ := x
    cases v <;> rfl
def altI (r : Option (D × En)) [c : Ct En (D × En)] (E : En) : Option (D × En) := match r with
  | some x => some x
  | none => c.go E
abbrev altK (r : Option (D × En)) (b : Ex) (E : En) : Option (D × En) := altI r (c := ⟨b⟩) E
@[simp] theorem altK_some (x : D × En) [c : Ct En (D × En)] : altI (some x) (c := c) E = some x := nr rfl
@[simp] theorem altK_none : altI none (c := ⟨b⟩) E = b E := nr rfl
@[simp] theorem ev_alt : altX a b E = altK (a E) b E := by
  unfold altX
  cases a E <;> rfl
@[simp] theorem ev_ixOwn : ixOwn m o E = bnd (m E) fun x => bnd (o x.2) fun y => bnd (partsD x.1) fun ds => bnd (dr y.2 y.1) fun v => match v with
    | .int z => bnd (atI ds z) fun r => some (r, y.2)
    | _ => none := by
  unfold ixOwn
  cases m E with
  | none => rfl
  | some x =>
    obtain ⟨d1, E1⟩ := x
    show _ = bnd (o E1) _
    simp only
    cases e0 : o E1 with
    | none => rfl
    | some y =>
      obtain ⟨h2, E2⟩ := y
      show _ = bnd (partsD d1) _
      simp only
      cases e1 : partsD d1 with
      | none => rfl
      | some ds =>
        show _ = bnd (dr E2 h2) _
        cases e2 : dr E2 h2 with
        | none => rfl
        | some w =>
          cases w <;> try rfl
          rename_i z
          show _ = bnd (atI ds z) _
          simp only
          cases atI ds z <;> rfl
@[simp] theorem ev_xnil : xNil E = some ([], E) := nr rfl
@[simp] theorem ev_hnil : hNil E = some ([], E) := nr rfl
@[simp] theorem ev_xcons : xCons m l E = bnd (m E) fun x => bnd (l x.2) fun y => some (x.1 :: y.1, y.2) := by
  unfold xCons
  cases m E with
  | none => rfl
  | some x =>
    obtain ⟨d1, E1⟩ := x
    show _ = bnd (l E1) _
    simp only
    cases l E1 <;> rfl
@[simp] theorem ev_hcons : hCons o h E = bnd (o E) fun x => bnd (h x.2) fun y => some (x.1 :: y.1, y.2) := by
  unfold hCons
  cases o E with
  | none => rfl
  | some x =>
    obtain ⟨d1, E1⟩ := x
    show _ = bnd (h E1) _
    simp only
    cases h E1 <;> rfl
@[simp] theorem ev_lst : dLst l E = bnd (l E) fun x => iteK (lineOk x.1.length) (some (.lst true x.1, x.2)) none := by
  unfold dLst
  cases l E <;> rfl
@[simp] theorem ev_tup : dTup l E = bnd (l E) fun x => iteK (lineOk x.1.length) (some (mkTup x.1, x.2)) none := by
  unfold dTup
  cases l E <;> rfl
@[simp] theorem ev_opN (f : List D → Option D) : opN f h E = bnd (h E) fun x => bnd (drL x.2 x.1) fun ds => bnd (f ds) fun z => some (z, x.2) := by
  unfold opN
  cases h E with
  | none => rfl
  | some x =>
    obtain ⟨hs, E1⟩ := x
    show _ = bnd (drL E1 hs) _
    simp only
    cases drL E1 hs with
    | none => rfl
    | some ds =>
      show _ = bnd (f ds) _
      simp only
      cases f ds <;> rfl
@[simp] theorem ev_take0 : takeL [] E = some ([], E) := nr rfl
@[simp] theorem ev_takev (v : D) (hs : List Hd) : takeL (.val v :: hs) E = bnd (takeL hs E) fun x => some (v :: x.1, x.2) := by
  show (match takeL hs E with | some (ds, E1) => some (v :: ds, E1) | none => none) = _
  cases takeL hs E <;> rfl
@[simp] theorem ev_takes (hs : List Hd) : takeL (.slot i :: hs) E = slotK E[i]? fun d => bnd (takeL hs (if d.frozen = true then E else E.set i none)) fun x => some (d :: x.1, x.2) := by
  show (match E[i]? with | some (some d) => (match takeL hs (if d.frozen = true then E else E.set i none) with | some (ds, E1) => some (d :: ds, E1) | none => none) | _ => none) = _
  cases E[i]? with
  | none => rfl
  | some o =>
    cases o with
    | none => rfl
    | some d =>
      show _ = bnd (takeL hs (if d.frozen = true then E else E.set i none)) _
      simp only
      cases takeL hs (if d.frozen = true then E else E.set i none) <;> rfl
@[simp] theorem ev_put0 (ds : List D) (fs : List (Option D)) : putL [] ds fs E = E := by unfold putL; rfl
@[simp] theorem ev_putv (v w : D) (x : Option D) (hs : List Hd) (ds : List D) (fs : List (Option D)) : putL (.val v :: hs) (w :: ds) (x :: fs) E = putL hs ds fs E := nr rfl
@[simp] theorem ev_puts (w : D) (x : Option D) (hs : List Hd) (ds : List D) (fs : List (Option D)) : putL (.slot i :: hs) (w :: ds) (x :: fs) E = putL hs ds fs (if w.frozen = true then E else E.set i x) := nr rfl
@[simp] theorem ev_call (mf : Fm) : xCall mf h E = bnd (h E) fun x => bnd (takeL x.1 x.2) fun y => bnd (mf y.1) fun z => some (z.1, putL x.1 y.1 z.2 y.2) := by
  unfold xCall
  cases h E with
  | none => rfl
  | some x =>
    obtain ⟨hs, E1⟩ := x
    show _ = bnd (takeL hs E1) _
    simp only
    cases takeL hs E1 with
    | none => rfl
    | some y =>
      obtain ⟨ds, E2⟩ := y
      show _ = bnd (mf ds) _
      simp only
      cases mf ds <;> rfl
@[simp] theorem ev_pick (n z : Nat) (pm : List Nat) : hPick n z pm h h' E = bnd (h E) fun x => bnd (h' x.2) fun y => iteK (x.1.length == n && y.1.length == z && pm.isPerm (List.range (x.1 ++ y.1).length)) (some (pick pm (x.1 ++ y.1), y.2)) none := by
  unfold hPick
  cases h E with
  | none => rfl
  | some x =>
    obtain ⟨hs, E1⟩ := x
    show _ = bnd (h' E1) _
    simp only
    cases h' E1 <;> rfl
@[simp] theorem ev_repr : reprL h E = bnd (h E) fun x => bnd (drL x.2 x.1) fun ds => iteK (lineOk ds.length && okShow (.lst true ds)) (some (.str (D.lst true ds).toP.shown, x.2)) none := by
  unfold reprL
  cases h E with
  | none => rfl
  | some x =>
    obtain ⟨hs, E1⟩ := x
    show _ = bnd (drL E1 hs) _
    simp only
    cases drL E1 hs with
    | none => rfl
    | some ds =>
      show _ = iteK _ _ _
      simp only
      cases lineOk ds.length <;> cases okShow (.lst true ds) <;> rfl
@[simp] theorem ev_meth (T : String) (f : D → List D → Option D) : opM T f o h E = bnd (o E) fun x => bnd (dr x.2 x.1) fun v => iteK (tyName v == T) (bnd (h x.2) fun y => bnd (dr y.2 x.1) fun w => bnd (drL y.2 y.1) fun ds => bnd (f w ds) fun z => some (z, y.2)) none := by
  unfold opM
  cases o E with
  | none => rfl
  | some x =>
    obtain ⟨h1, E1⟩ := x
    show _ = bnd (dr E1 h1) _
    simp only
    cases e1 : dr E1 h1 with
    | none => rfl
    | some v =>
      show _ = iteK (tyName v == T) _ _
      simp only
      by_cases ht : tyName v = T
      · rw [if_pos ht, beq_iff_eq.mpr ht]
        show _ = bnd (h E1) _
        cases h E1 with
        | none => rfl
        | some y =>
          obtain ⟨hs, E2⟩ := y
          show _ = bnd (dr E2 h1) _
          simp only
          cases e2 : dr E2 h1 with
          | none => rfl
          | some w =>
            show _ = bnd (drL E2 hs) _
            cases e3 : drL E2 hs with
            | none => rfl
            | some ds =>
              show _ = bnd (f w ds) _
              simp only
              cases f w ds <;> rfl
      · have hb : (tyName v == T) = false := by simpa using ht
        rw [if_neg ht, hb]
        rfl
@[simp] theorem ev_append : xAppend i l E = iteK (isLst E i) (bnd (l E) fun x => match x.1 with
    | [v] => bnd (lstAt x.2 i) fun ds => iteK (lineOk (ds.length + 1)) (some (.non, x.2.set i (some (.lst true (ds ++ [v]))))) none
    | _ => none) none := by
  unfold xAppend
  cases isLst E i with
  | false => rfl
  | true =>
    show (match l E with | some ([d], E1) => (match lstAt E1 i with | some ds => if lineOk (ds.length + 1) = true then some (D.non, E1.set i (some (.lst true (ds ++ [d])))) else none | none => none) | _ => none) = bnd (l E) _
    cases l E with
    | none => rfl
    | some x =>
      obtain ⟨ds, E1⟩ := x
      match ds with
      | [] => rfl
      | [v] =>
        show (match lstAt E1 i with | some ds => if lineOk (ds.length + 1) = true then some (D.non, E1.set i (some (.lst true (ds ++ [v])))) else none | none => none) = bnd (lstAt E1 i) _
        cases lstAt E1 i <;> rfl
      | _ :: _ :: _ => rfl
/-! slices -/
@[simp] theorem ev_now : intNow o E = bnd (o E) fun x => bnd (dr x.2 x.1) fun v => match v with
    | .int z => some (.val (.int z), x.2)
    | _ => none := by
  unfold intNow
  cases o E with
  | none => rfl
  | some x =>
    obtain ⟨h1, E1⟩ := x
    show _ = bnd (dr E1 h1) _
    simp only
    cases e1 : dr E1 h1 with
    | none => rfl
    | some v => cases v <;> rfl
@[simp] theorem ev_part0 : oPart none E = some (none, E) := nr rfl
@[simp] theorem ev_part : oPart (some o) E = bnd (o E) fun x => some (some x.1, x.2) := by
  show (match o E with | some (h, E1) => some (some h, E1) | none => none) = _
  cases o E <;> rfl
@[simp] theorem ev_drp0 : drPart E none = some none := nr rfl
@[simp] theorem ev_drp (z : Int) : drPart E (some (.val (.int z))) = some (some z) := nr rfl
@[simp] theorem ev_sl (f : D → Option Int → Option Int → Option D) (lo hi : Option Ox) : opSl f o lo hi E = bnd (o E) fun x => bnd (oPart lo x.2) fun y => bnd (oPart hi y.2) fun z => bnd (dr z.2 x.1) fun v => bnd (drPart z.2 y.1) fun a => bnd (drPart z.2 z.1) fun b => bnd (f v a b) fun r => some (r, z.2) := by
  unfold opSl
  cases o E with
  | none => rfl
  | some x =>
    obtain ⟨h1, E1⟩ := x
    show _ = bnd (oPart lo E1) _
    simp only
    cases oPart lo E1 with
    | none => rfl
    | some y =>
      obtain ⟨h2, E2⟩ := y
      show _ = bnd (oPart hi E2) _
      simp only
      cases oPart hi E2 with
      | none => rfl
      | some z =>
        obtain ⟨h3, E3⟩ := z
        show _ = bnd (dr E3 h1) _
        simp only
        cases dr E3 h1 with
        | none => rfl
        | some v =>
          show _ = bnd (drPart E3 h2) _
          cases drPart E3 h2 with
          | none => rfl
          | some a =>
            show _ = bnd (drPart E3 h3) _
            cases drPart E3 h3 with
            | none => rfl
            | some b =>
              show _ = bnd (f v a b) _
              simp only
              cases f v a b <;> rfl
/-! stores into lists -/
def isL : Option (Option D) → Bool
  | some (some (.lst _ _)) => true
  | _ => false
@[simp] theorem isL_lst (w : Bool) (ds : List D) : isL (some (some (.lst w ds))) = true := nr rfl
@[simp] theorem ev_isLst : isLst E i = isL E[i]? := by
  unfold isLst
  cases E[i]? with
  | none => rfl
  | some o =>
    cases o with
    | none => rfl
    | some d => cases d <;> rfl
def ownL : D → Option (List D)
  | .lst true ds => some ds
  | _ => none
@[simp] theorem ownL_lst (ds : List D) : ownL (.lst true ds) = some ds := nr rfl
@[simp] theorem ev_lstAt : lstAt E i = slotK E[i]? ownL := by
  unfold lstAt
  cases E[i]? with
  | none => rfl
  | some x =>
    cases x with
    | none => rfl
    | some v =>
      cases v <;> try rfl
      rename_i w ds
      cases w <;> rfl
@[simp] theorem ev_gix (v : D) : gIx i o v E = bnd (lstAt E i) fun _ => bnd (o E) fun x => bnd (dr x.2 x.1) fun w => match w with
    | .int z => bnd (lstAt x.2 i) fun ds => bnd (ixN ds.length z) fun j => some (x.2.set i (some (.lst true (ds.set j v))))
    | _ => none := by
  unfold gIx
  cases lstAt E i with
  | none => rfl
  | some _ =>
    show _ = bnd (o E) _
    simp only
    cases o E with
    | none => rfl
    | some x =>
      obtain ⟨h1, E1⟩ := x
      show _ = bnd (dr E1 h1) _
      simp only
      cases e1 : dr E1 h1 with
      | none => rfl
      | some w =>
        cases w <;> try rfl
        rename_i z
        show _ = bnd (lstAt E1 i) _
        cases lstAt E1 i with
        | none => rfl
        | some ds =>
          show _ = bnd (ixN ds.length z) _
          simp only
          cases ixN ds.length z <;> rfl
@[simp] theorem ev_pop : xPop i E = bnd (lstAt E i) fun ds => bnd ds.getLast? fun v => some (v, E.set i (some (.lst true ds.dropLast))) := by
  unfold xPop
  cases lstAt E i with
  | none => rfl
  | some ds =>
    show _ = bnd ds.getLast? _
    simp only
    cases ds.getLast? <;> rfl
@[simp] theorem ev_extend : xExtend i h E = iteK (isLst E i) (bnd (h E) fun x => match x.1 with
    | [y] => bnd (dr x.2 y) fun v => bnd (lstAt x.2 i) fun ds => match v with
      | .lst _ es => iteK (frozenL es && lineOk (ds.length + es.length)) (some (.non, x.2.set i (some (.lst true (ds ++ es))))) none
      | _ => none
    | _ => none) none := by
  unfold xExtend
  cases isLst E i with
  | false => rfl
  | true =>
    show _ = bnd (h E) _
    rw [if_pos rfl]
    cases h E with
    | none => rfl
    | some x =>
      obtain ⟨hs, E1⟩ := x
      match hs with
      | [] => rfl
      | [y] =>
        show _ = bnd (dr E1 y) _
        simp only
        cases e1 : dr E1 y with
        | none => rfl
        | some v =>
          show _ = bnd (lstAt E1 i) _
          cases e2 : lstAt E1 i with
          | none => cases v <;> rfl
          | some ds => cases v <;> rfl
      | _ :: _ :: _ => rfl
/-! a < b < c -/
@[simp] theorem ev_ch : chT f g o p q E = bnd (o E) fun x => bnd (p x.2) fun y => bnd (dr y.2 x.1) fun v => bnd (dr y.2 y.1) fun w => blK (bnd (f v w) fun r => some (r, y.2)) fun t E2 => tstK (some (t, E2)) (fun E2 => bnd (q E2) fun z => bnd (dr z.2 y.1) fun w => bnd (dr z.2 z.1) fun u => bnd (g w u) fun r => some (r, z.2)) fun E2 => some (.bl false, E2) := by
  unfold chT
  cases o E with
  | none => rfl
  | some x =>
    obtain ⟨h1, E1⟩ := x
    show _ = bnd (p E1) _
    simp only
    cases p E1 with
    | none => rfl
    | some y =>
      obtain ⟨h2, E2⟩ := y
      show _ = bnd (dr E2 h1) _
      simp only
      cases e1 : dr E2 h1 with
      | none => rfl
      | some v =>
        show _ = bnd (dr E2 h2) _
        cases e2 : dr E2 h2 with
        | none => rfl
        | some w =>
          rw [show (bnd (some w) fun w => blK (bnd (f v w) fun r => some (r, E2)) fun t E2 => tstK (some (t, E2)) (fun E2 => bnd (q E2) fun z => bnd (dr z.2 h2) fun w => bnd (dr z.2 z.1) fun u => bnd (g w u) fun r => some (r, z.2)) fun E2 => some (.bl false, E2)) = blK (bnd (f v w) fun r => some (r, E2)) fun t E2 => tstK (some (t, E2)) (fun E2 => bnd (q E2) fun z => bnd (dr z.2 h2) fun w => bnd (dr z.2 z.1) fun u => bnd (g w u) fun r => some (r, z.2)) fun E2 => some (.bl false, E2) from rfl]
          simp only
          cases e3 : f v w with
          | none => rfl
          | some r =>
            cases r <;> try rfl
            rename_i b
            cases b with
            | false => rfl
            | true =>
              show _ = bnd (q E2) _
              simp only
              cases q E2 with
              | none => rfl
              | some z =>
                obtain ⟨h3, E3⟩ := z
                show _ = bnd (dr E3 h2) _
                simp only
                cases e4 : dr E3 h2 with
                | none => rfl
                | some w' =>
                  show _ = bnd (dr E3 h3) _
                  cases e5 : dr E3 h3 with
                  | none => rfl
                  | some u =>
                    show _ = bnd (g w' u) _
                    simp only
                    cases g w' u <;> rfl
/-! loops -/
def loopI (r : Option (Ctl × En)) (dead : List Nat) [c : Cs] : Option (Ctl × En) := match r with
  | some (.nx, E) => c.go (kill dead E)
  | some (.ct, E) => c.go (kill dead E)
  | some (.bk, E) => some (.nx, E)
  | some (.rt d, E) => some (.rt d, E)
  | some (.rs n ks xs, E) => some (.rs n ks xs, E)
  | none => none
abbrev loopK (r : Option (Ctl × En)) (dead : List Nat) (x : Sm) : Option (Ctl × En) := loopI r dead (c := ⟨x⟩)
@[simp] theorem loopK_nx (dead : List Nat) : loopI (some (.nx, E)) dead (c := ⟨s⟩) = s (kill dead E) := nr rfl
@[simp] theorem loopK_ct (dead : List Nat) : loopI (some (.ct, E)) dead (c := ⟨s⟩) = s (kill dead E) := nr rfl
@[simp] theorem loopK_bk (dead : List Nat) : loopI (some (.bk, E)) dead (c := ⟨s⟩) = some (.nx, E) := nr rfl
@[simp] theorem loopK_rt (dead : List Nat) : loopI (some (.rt d, E)) dead (c := ⟨s⟩) = some (.rt d, E) := nr rfl
@[simp] theorem loopK_rs (dead : List Nat) (n : Str) (ks : List Str) (xs : List D) : loopI (some (.rs n ks xs, E)) dead (c := ⟨s⟩) = some (.rs n ks xs, E) := nr rfl
theorem ev_while (dead : List Nat) (n : Nat) : sWhile t s dead (n + 1) E = tstK (t E) (fun E1 => loopK (s E1) dead (sWhile t s dead n)) fun E1 => some (.nx, E1) := by
  show (match t E with | some (false, E1) => some (Ctl.nx, E1) | some (true, E1) => (match s E1 with | some (.nx, E2) => sWhile t s dead n (kill dead E2) | some (.ct, E2) => sWhile t s dead n (kill dead E2) | some (.bk, E2) => some (.nx, E2) | some (.rt d, E2) => some (.rt d, E2) | some (.rs n ks xs, E2) => some (.rs n ks xs, E2) | none => none) | none => none) = _
  cases t E with
  | none => rfl
  | some x =>
    obtain ⟨v, E1⟩ := x
    cases v with
    | false => rfl
    | true =>
      show _ = loopK (s E1) dead _
      simp only
      cases s E1 with
      | none => rfl
      | some y =>
        obtain ⟨c, E2⟩ := y
        cases c <;> rfl
theorem ev_for0 (gm : Gm) (dead : List Nat) : sForL gm s dead [] E = some (.nx, E) := rfl
theorem ev_for1 (gm : Gm) (dead : List Nat) (x : D) (xs : List D) : sForL gm s dead (x :: xs) E = bnd (gm x E) fun E1 => loopK (s E1) dead (sForL gm s dead xs) := by
  show (match gm x E with | some E1 => (match s E1 with | some (.nx, E2) => sForL gm s dead xs (kill dead E2) | some (.ct, E2) => sForL gm s dead xs (kill dead E2) | some (.bk, E2) => some (.nx, E2) | some (.rt d, E2) => some (.rt d, E2) | some (.rs n ks xs, E2) => some (.rs n ks xs, E2) | none => none) | none => none) = _
  cases gm x E with
  | none => rfl
  | some E1 =>
    show _ = loopK (s E1) dead _
    simp only
    cases s E1 with
    | none => rfl
    | some y =>
      obtain ⟨c, E2⟩ := y
      cases c <;> rfl
@[simp] theorem ev_for (mk : Mk) (gm : Gm) (dead : List Nat) : sFor h mk gm s dead E = bnd (h E) fun x => bnd (takeL x.1 x.2) fun y => bnd (mk y.1) fun items => bnd (sForL gm s dead items y.2) fun z => some (z.1, putL x.1 y.1 (y.1.map some) z.2) := by
  unfold sFor
  cases h E with
  | none => rfl
  | some x =>
    obtain ⟨hs, E1⟩ := x
    show _ = bnd (takeL hs E1) _
    simp only
    cases takeL hs E1 with
    | none => rfl
    | some y =>
      obtain ⟨ds, E2⟩ := y
      show _ = bnd (mk ds) _
      simp only
      cases mk ds with
      | none => rfl
      | some items =>
        show _ = bnd (sForL gm s dead items E2) _
        simp only
        cases sForL gm s dead items E2 <;> rfl
/-! comprehensions -/
theorem ev_cl0 (gm : Gm) (own : List Nat) : cL gm t m own [] E = some ([], E) := rfl
theorem ev_cl1 (gm : Gm) (own : List Nat) (x : D) (xs : List D) : cL gm t m own (x :: xs) E = bnd (gm x E) fun E1 => tstK (t E1) (fun E2 => bnd (m E2) fun y => bnd (cL gm t m own xs (kill own y.2)) fun z => some (y.1 :: z.1, z.2)) fun E2 => cL gm t m own xs (kill own E2) := by
  show (match gm x E with | some E1 => (match t E1 with | some (true, E2) => (match m E2 with | some (d, E3) => (match cL gm t m own xs (kill own E3) with | some (ds, E4) => some (d :: ds, E4) | none => none) | none => none) | some (false, E2) => cL gm t m own xs (kill own E2) | none => none) | none => none) = _
  cases gm x E with
  | none => rfl
  | some E1 =>
    show _ = tstK (t E1) _ _
    simp only
    cases t E1 with
    | none => rfl
    | some y =>
      obtain ⟨v, E2⟩ := y
      cases v with
      | false => rfl
      | true =>
        show _ = bnd (m E2) _
        simp only
        cases m E2 with
        | none => rfl
        | some z =>
          obtain ⟨d, E3⟩ := z
          show _ = bnd (cL gm t m own xs (kill own E3)) _
          simp only
          cases cL gm t m own xs (kill own E3) <;> rfl
@[simp] theorem ev_yes : tYesT E = some (true, E) := nr rfl
@[simp] theorem ev_comp (mk : Mk) (own : List Nat) (gm : Gm) : xComp h mk own gm t m E = bnd (h E) fun x => bnd (takeL x.1 x.2) fun y => bnd (mk y.1) fun items => bnd (cL gm t m own items (kill own y.2)) fun z => iteK (lineOk z.1.length) (some (.lst true z.1, putL x.1 y.1 (y.1.map some) (backF own y.2 z.2))) none := by
  unfold xComp
  cases h E with
  | none => rfl
  | some x =>
    obtain ⟨hs, E1⟩ := x
    show _ = bnd (takeL hs E1) _
    simp only
    cases takeL hs E1 with
    | none => rfl
    | some y =>
      obtain ⟨ds, E2⟩ := y
      show _ = bnd (mk ds) _
      simp only
      cases mk ds with
      | none => rfl
      | some items =>
        show _ = bnd (cL gm t m own items (kill own E2)) _
        simp only
        cases cL gm t m own items (kill own E2) <;> rfl
end
end MP

/-! Operators on plain data, by simp. -/
namespace MP
open PySem PySem.Spec L2
@[simp] theorem lineOk_dec (n : Nat) : lineOk n = decide (n ≤ 16777216) := nr rfl
@[simp] theorem fz_non : D.frozen .non = true := nr rfl
@[simp] theorem fz_bl (b : Bool) : D.frozen (.bl b) = true := nr rfl
@[simp] theorem fz_int (b : Int) : D.frozen (.int b) = true := nr rfl
@[simp] theorem fz_str (b : Str) : D.frozen (.str b) = true := nr rfl
@[simp] theorem fz_scr (b : List Int) : D.frozen (.scr b) = true := nr rfl
@[simp] theorem fz_tup (o : Bool) (ds : List D) : D.frozen (.tup o ds) = (!o && frozenL ds) := by rw [D.frozen]
@[simp] theorem fz_lst (o : Bool) (ds : List D) : D.frozen (.lst o ds) = (!o && frozenL ds) := by rw [D.frozen]
@[simp] theorem fzL_nil : frozenL [] = true := nr rfl
@[simp] theorem fzL_cons (d : D) (ds : List D) : frozenL (d :: ds) = (d.frozen && frozenL ds) := by rw [frozenL]
@[simp] theorem fzL_app (ds es : List D) : frozenL (ds ++ es) = (frozenL ds && frozenL es) := by rw [frozenL_all, frozenL_all, frozenL_all, List.all_append]
@[simp] theorem rz_non : D.frz .non = .non := nr rfl
@[simp] theorem rz_bl (b : Bool) : D.frz (.bl b) = .bl b := nr rfl
@[simp] theorem rz_int (b : Int) : D.frz (.int b) = .int b := nr rfl
@[simp] theorem rz_str (b : Str) : D.frz (.str b) = .str b := nr rfl
@[simp] theorem rz_tup (o : Bool) (ds : List D) : D.frz (.tup o ds) = .tup false (frzL ds) := by rw [D.frz]
@[simp] theorem rz_lst (o : Bool) (ds : List D) : D.frz (.lst o ds) = .lst false (frzL ds) := by rw [D.frz]
@[simp] theorem rzL_nil : frzL [] = [] := nr rfl
@[simp] theorem rzL_cons (d : D) (ds : List D) : frzL (d :: ds) = d.frz :: frzL ds := by rw [frzL]
@[simp] theorem mkTup_eq (ds : List D) : mkTup ds = .tup (!frozenL ds) ds := nr rfl
@[simp] theorem add_int (i j : Int) : addD (.int i) (.int j) = some (.int (i + j)) := nr rfl
@[simp] theorem add_str (a b : Str) : addD (.str a) (.str b) = iteK (lineOk (a.length + b.length)) (some (.str (a ++ b))) none := nr rfl
@[simp] theorem add_lst (o p : Bool) (a b : List D) : addD (.lst o a) (.lst p b) = iteK (frozenL a && frozenL b && lineOk (a.length + b.length)) (some (.lst true (a ++ b))) none := nr rfl
@[simp] theorem add_tup (a b : List D) : addD (.tup false a) (.tup false b) = iteK (lineOk (a.length + b.length)) (some (.tup false (a ++ b))) none := nr rfl
@[simp] theorem sub_int (i j : Int) : subD (.int i) (.int j) = some (.int (i - j)) := nr rfl
@[simp] theorem mul_int' (i j : Int) : mulD (.int i) (.int j) = if (in64 i || in64 j) = true then some (.int (i * j)) else none := nr rfl
@[simp] theorem mod_int (i j : Int) : modD (.int i) (.int j) = if 0 < j then some (.int (i % j)) else none := nr rfl
@[simp] theorem div_int (i j : Int) : divD (.int i) (.int j) = if 0 < j ∧ j < 1073741824 then some (.int (i / j)) else none := nr rfl
@[simp] theorem pow_int (i j : Int) : powD (.int i) (.int j) = if powOk i j = true then some (.int (i ^ j.toNat)) else none := nr rfl
@[simp] theorem neg_int' (i : Int) : negD (.int i) = some (.int (-i)) := nr rfl
@[simp] theorem lt_int' (i j : Int) : ltD (.int i) (.int j) = some (.bl (decide (i < j))) := nr rfl
@[simp] theorem le_int' (i j : Int) : leD (.int i) (.int j) = some (.bl (decide (i ≤ j))) := nr rfl
@[simp] theorem gt_int' (i j : Int) : gtD (.int i) (.int j) = some (.bl (decide (j < i))) := nr rfl
@[simp] theorem ge_int' (i j : Int) : geD (.int i) (.int j) = some (.bl (decide (j ≤ i))) := nr rfl
theorem lt_str' (a b : Str) : ltD (.str a) (.str b) = some (.bl (decide (a.cps.toList < b.cps.toList))) := rfl
theorem le_str' (a b : Str) : leD (.str a) (.str b) = some (.bl (!decide (b.cps.toList < a.cps.toList))) := rfl
@[simp] theorem eq_int' (i j : Int) : eqE (.int i) (.int j) = some (.bl (i == j)) := nr rfl
@[simp] theorem eq_str' (i j : Str) : eqE (.str i) (.str j) = some (.bl (i == j)) := nr rfl
@[simp] theorem eq_bl' (i j : Bool) : eqE (.bl i) (.bl j) = some (.bl (i == j)) := nr rfl
@[simp] theorem eq_non' : eqE .non .non = some (.bl true) := nr rfl
@[simp] theorem ne_int' (i j : Int) : neE (.int i) (.int j) = some (.bl (!(i == j))) := nr rfl
@[simp] theorem ne_str' (i j : Str) : neE (.str i) (.str j) = some (.bl (!(i == j))) := nr rfl
@[simp] theorem ne_bl' (i j : Bool) : neE (.bl i) (.bl j) = some (.bl (!(i == j))) := nr rfl
@[simp] theorem isn_non : isNon .non .non = some (.bl true) := nr rfl
@[simp] theorem isn_int (i : Int) : isNon (.int i) .non = some (.bl false) := nr rfl
@[simp] theorem isn_str (i : Str) : isNon (.str i) .non = some (.bl false) := nr rfl
@[simp] theorem isn_tup (o : Bool) (ds : List D) : isNon (.tup o ds) .non = some (.bl false) := nr rfl
@[simp] theorem isn_lst (o : Bool) (ds : List D) : isNon (.lst o ds) .non = some (.bl false) := nr rfl
@[simp] theorem ntn_non : notNon .non .non = some (.bl false) := nr rfl
@[simp] theorem ntn_int (i : Int) : notNon (.int i) .non = some (.bl true) := nr rfl
@[simp] theorem ntn_str (i : Str) : notNon (.str i) .non = some (.bl true) := nr rfl
@[simp] theorem ntn_tup (o : Bool) (ds : List D) : notNon (.tup o ds) .non = some (.bl true) := nr rfl
@[simp] theorem ntn_lst (o : Bool) (ds : List D) : notNon (.lst o ds) .non = some (.bl true) := nr rfl
@[simp] theorem len_lst (o : Bool) (ds : List D) : lenD [.lst o ds] = some (.int ds.length) := nr rfl
@[simp] theorem len_tup (o : Bool) (ds : List D) : lenD [.tup o ds] = some (.int ds.length) := nr rfl
@[simp] theorem len_scr (ns : List Int) : lenD [.scr ns] = some (.int ns.length) := nr rfl
@[simp] theorem len_str (s : Str) : lenD [.str s] = if lineOk s.length = true then some (.int s.length) else none := nr rfl
@[simp] theorem abs_int' (i : Int) : absD [.int i] = some (.int (if i < 0 then -i else i)) := nr rfl
@[simp] theorem max_int' (i j : Int) : maxD [.int i, .int j] = some (.int (if j > i then j else i)) := nr rfl
@[simp] theorem min_int' (i j : Int) : minD [.int i, .int j] = some (.int (if j < i then j else i)) := nr rfl
@[simp] theorem int_int' (i : Int) : intD [.int i] = some (.int i) := nr rfl
@[simp] theorem divmod_int' (i j : Int) : divmodD [.int i, .int j] = if 0 < j ∧ j < 1073741824 then some (.tup false [.int (i / j), .int (i % j)]) else none := nr rfl
@[simp] theorem ix_lst (o : Bool) (ds : List D) (i : Int) : ixD (.lst o ds) (.int i) = bnd (atI ds i) fun d => iteK d.frozen (some d) none := by
  show (match atI ds i with | some d => if d.frozen = true then some d else none | none => none) = _
  cases atI ds i <;> rfl
@[simp] theorem ix_tup' (o : Bool) (ds : List D) (i : Int) : ixD (.tup o ds) (.int i) = bnd (atI ds i) fun d => iteK d.frozen (some d) none := by
  show (match atI ds i with | some d => if d.frozen = true then some d else none | none => none) = _
  cases atI ds i <;> rfl
@[simp] theorem ix_scr (ns : List Int) (i : Int) : ixD (.scr ns) (.int i) = bnd (atI ns i) fun n => some (.int n) := by
  show (match atI ns i with | some n => some (D.int n) | none => none) = _
  cases atI ns i <;> rfl
@[simp] theorem ix_str (s : Str) (i : Int) : ixD (.str s) (.int i) = iteK (lineOk s.length) (bnd (atI s.cps.toList i) fun c => some (signD c)) none := by
  show (if lineOk s.length = true then (match atI s.cps.toList i with | some c => some (signD c) | none => none) else none) = _
  cases h : lineOk s.length
  · rfl
  · rw [if_pos rfl]
    cases atI s.cps.toList i <;> rfl
theorem lt_one (c d : Nat) : ([c] < [d]) ↔ c < d := by
  rw [List.cons_lt_cons_iff]
  simp
@[simp] theorem parts_lst (o : Bool) (ds : List D) : partsD (.lst o ds) = some ds := nr rfl
@[simp] theorem parts_tup (o : Bool) (ds : List D) : partsD (.tup o ds) = some ds := nr rfl
@[simp] theorem parts_str (s : Str) : partsD (.str s) = none := nr rfl
@[simp] theorem parts_scr (s : List Int) : partsD (.scr s) = none := nr rfl
@[simp] theorem sl_str' (s : Str) (lo hi : Option Int) : slD (.str s) lo hi = if lineOk s.length = true then some (.str (cutS s lo hi)) else none := nr rfl
@[simp] theorem sl_lst' (o : Bool) (ds : List D) (lo hi : Option Int) : slD (.lst o ds) lo hi = if frozenL ds = true then some (.lst true (cutD ds lo hi)) else none := nr rfl
@[simp] theorem sl_tup' (ds : List D) (lo hi : Option Int) : slD (.tup false ds) lo hi = some (.tup false (cutD ds lo hi)) := nr rfl
@[simp] theorem ty_str (s : Str) : tyName (.str s) = "str" := nr rfl
@[simp] theorem rng1 (n : Int) : mkRng1 [.int n] = if smallI n = true then some (rngD 0 n.toNat) else none := nr rfl
@[simp] theorem any_lst (o : Bool) (ds : List D) : mkAny [.lst o ds] = if frozenL ds = true then some ds else none := nr rfl
@[simp] theorem any_tup (o : Bool) (ds : List D) : mkAny [.tup o ds] = if frozenL ds = true then some ds else none := nr rfl
@[simp] theorem any_str (s : Str) : mkAny [.str s] = some (s.cps.toList.map signD) := nr rfl
@[simp] theorem ixN_nat (n i : Nat) : ixN n (i : Int) = if i < n then some i else none := by
  unfold ixN
  rw [if_pos (Int.natCast_nonneg i)]
  by_cases h : i < n
  · rw [if_pos h, if_pos (by omega), Int.toNat_natCast]
  · rw [if_neg h, if_neg (by omega)]
theorem atI_nat' {α : Type} (xs : List α) (i : Nat) : atI xs (i : Int) = xs[i]? := by
  unfold atI
  rw [ixN_nat]
  split
  · rfl
  · rw [List.getElem?_eq_none_iff.mpr (by omega)]
    rfl
@[simp] theorem atI_0 {α : Type} (xs : List α) : atI xs 0 = xs[0]? := atI_nat' xs 0
@[simp] theorem atI_1 {α : Type} (xs : List α) : atI xs 1 = xs[1]? := atI_nat' xs 1
@[simp] theorem atI_2 {α : Type} (xs : List α) : atI xs 2 = xs[2]? := atI_nat' xs 2
@[simp] theorem atI_3 {α : Type} (xs : List α) : atI xs 3 = xs[3]? := atI_nat' xs 3
@[simp] theorem atI_4 {α : Type} (xs : List α) : atI xs 4 = xs[4]? := atI_nat' xs 4
@[simp] theorem atI_5 {α : Type} (xs : List α) : atI xs 5 = xs[5]? := atI_nat' xs 5
@[simp] theorem atI_6 {α : Type} (xs : List α) : atI xs 6 = xs[6]? := atI_nat' xs 6
@[simp] theorem atI_7 {α : Type} (xs : List α) : atI xs 7 = xs[7]? := atI_nat' xs 7
@[simp] theorem ixN_0 (n : Nat) : ixN n 0 = if 0 < n then some 0 else none := ixN_nat n 0
@[simp] theorem ixN_1 (n : Nat) : ixN n 1 = if 1 < n then some 1 else none := ixN_nat n 1
@[simp] theorem ixN_2 (n : Nat) : ixN n 2 = if 2 < n then some 2 else none := ixN_nat n 2
@[simp] theorem ixN_3 (n : Nat) : ixN n 3 = if 3 < n then some 3 else none := ixN_nat n 3
@[simp] theorem ixN_4 (n : Nat) : ixN n 4 = if 4 < n then some 4 else none := ixN_nat n 4
@[simp] theorem ixN_5 (n : Nat) : ixN n 5 = if 5 < n then some 5 else none := ixN_nat n 5
@[simp] theorem ixN_6 (n : Nat) : ixN n 6 = if 6 < n then some 6 else none := ixN_nat n 6
@[simp] theorem ixN_7 (n : Nat) : ixN n 7 = if 7 < n then some 7 else none := ixN_nat n 7
/-! texts by their codes -/
@[simp] theorem S_list (l : List Nat) : (S l).cps.toList = l := by simp [S]
@[simp] theorem signD_S (c : Nat) : signD c = .str (S [c]) := nr rfl
@[simp] theorem in_sign (c : Nat) (z : List Nat) : inD (.str (S [c])) (.str (S z)) = some (.bl (decide (c ∈ z))) := by
  show some (D.bl (decide (c ∈ (S z).cps.toList))) = _
  rw [S_list]
@[simp] theorem ni_sign (c : Nat) (z : List Nat) : notInD (.str (S [c])) (.str (S z)) = some (.bl (!decide (c ∈ z))) := by
  unfold notInD
  rw [in_sign]
@[simp] theorem cnt_str (a b : Str) : countD (.str a) [.str b] = some (.int (Txt.count a b)) := nr rfl
@[simp] theorem rf_str (a b : Str) : rfindD (.str a) [.str b] = some (.int (Txt.rfind a b)) := nr rfl
@[simp] theorem isd_str (s : Str) : isD "str" (.str s) = some (.bl true) := nr rfl
@[simp] theorem S_len (l : List Nat) : (S l).length = l.length := by
  show l.toArray.size = _
  simp
@[simp] theorem S_app (a b : List Nat) : S a ++ S b = S (a ++ b) := by
  show (⟨a.toArray ++ b.toArray⟩ : Str) = _
  simp [S]
@[simp] theorem S_inj (a b : List Nat) : S a = S b ↔ a = b := ⟨fun e => by simpa using congrArg (fun s : Str => s.cps.toList) e, fun e => by rw [e]⟩
theorem S_surj (s : Str) : ∃ l, s = S l := ⟨s.cps.toList, by simp [S]⟩
@[simp] theorem le_sign (a b : Nat) : leD (.str (S [a])) (.str (S [b])) = some (.bl (decide (a ≤ b))) := by
  rw [le_str', S_list, S_list]
  congr 2
  rw [Bool.eq_iff_iff, Bool.not_eq_true', decide_eq_false_iff_not, decide_eq_true_eq, lt_one]
  omega
@[simp] theorem lt_sign (a b : Nat) : ltD (.str (S [a])) (.str (S [b])) = some (.bl (decide (a < b))) := by
  rw [lt_str', S_list, S_list]
  congr 2
  rw [Bool.eq_iff_iff, decide_eq_true_eq, decide_eq_true_eq, lt_one]
@[simp] theorem cut_S (l : List Nat) (lo hi : Option Int) : cutS (S l) lo hi = S ((l.drop (HT.sIx l.length 0 lo)).take (HT.sIx l.length l.length hi - HT.sIx l.length 0 lo)) := by
  unfold cutS
  rw [S_list, S_len]
  rfl
@[simp] theorem six_n (n d : Nat) : HT.sIx n d none = d := nr rfl
@[simp] theorem six_nat (n d k : Nat) : HT.sIx n d (some (k : Int)) = min k n := HT.sIx_nat n d k
@[simp] theorem S_eq (a b : List Nat) : ((S a == S b) : Bool) = (a == b) := by
  by_cases h : a = b
  · subst h
    simp
  · have : S a ≠ S b := fun e => h (by simpa using congrArg (fun s : Str => s.cps.toList) e)
    rw [beq_eq_false_iff_ne.mpr h, beq_eq_false_iff_ne.mpr this]
@[simp] theorem in_strs2 (a b c : List Nat) (o : Bool) : inD (.str (S a)) (.tup o [.str (S b), .str (S c)]) = some (.bl (a == b || a == c)) := by
  show some (D.bl (inF (.str (S a)) [.str (S b), .str (S c)])) = _
  congr 2
  unfold inF
  simp [L2.inV, D.toV, L2.eqV, S_eq]
  rw [Bool.beq_comm (a := b), Bool.beq_comm (a := c)]
@[simp] theorem ni_strs2 (a b c : List Nat) (o : Bool) : notInD (.str (S a)) (.tup o [.str (S b), .str (S c)]) = some (.bl (!(a == b || a == c))) := by
  unfold notInD
  rw [in_strs2]
end MP

/-! Operators of Mp17 to Mp21 on plain data, by simp; comprehensions step by step. -/
namespace MP
open PySem PySem.Spec L2

section
variable {m m' : Ex} {E : En} {d : D} {g : Gm} {t : Tx} {own : List Nat} {b : Sm} {dead : List Nat}
@[simp] theorem ev_frz (m : Ex) (E : En) : xFrz m E = bnd (m E) fun x => some (x.1.frz, x.2) := by
  unfold xFrz
  cases m E <;> rfl
@[simp] theorem mulT_int (i j : Int) : mulDT (.int i) (.int j) = if (in64 i || in64 j) = true then some (.int (i * j)) else none := nr rfl
@[simp] theorem mulT_str (s : Str) (j : Int) : mulDT (.str s) (.int j) = mulD (.str s) (.int j) := nr rfl
@[simp] theorem mulT_lst (o : Bool) (xs : List D) (n : Int) : mulDT (.lst o xs) (.int n) = if (frozenL xs && decide (-(2 ^ 63) ≤ n ∧ n < 2 ^ 63) && lineOk (xs.length * n.toNat)) = true then some (.lst true (List.replicate n.toNat xs).flatten) else none := nr rfl
@[simp] theorem mulT_tup (o : Bool) (xs : List D) (n : Int) : mulDT (.tup o xs) (.int n) = if (frozenL xs && !xs.isEmpty && decide (2 ≤ n ∧ n ≤ 1000) && decide (xs.length ≤ 1000)) = true then some (.tup false (List.replicate n.toNat xs).flatten) else none := nr rfl
@[simp] theorem isDD_bl (a b : Bool) : isDD (.bl a) (.bl b) = some (.bl (decide (a = b))) := nr rfl
@[simp] theorem max3_int (i j k : Int) : max3D [.int i, .int j, .int k] = some (.int (if (if i < j then j else i) < k then k else (if i < j then j else i))) := nr rfl
@[simp] theorem isd_non (T : String) : isD T .non = some (.bl (isB "NoneType" T)) := nr rfl
@[simp] theorem isd_bl (T : String) (b : Bool) : isD T (.bl b) = some (.bl (isB "bool" T)) := nr rfl
@[simp] theorem isd_int (T : String) (b : Int) : isD T (.int b) = some (.bl (isB "int" T)) := nr rfl
@[simp] theorem isd_strT (T : String) (b : Str) : isD T (.str b) = some (.bl (isB "str" T)) := nr rfl
@[simp] theorem isd_tup (T : String) (o : Bool) (b : List D) : isD T (.tup o b) = some (.bl (isB "tuple" T)) := nr rfl
@[simp] theorem isd_lst (T : String) (o : Bool) (b : List D) : isD T (.lst o b) = some (.bl (isB "list" T)) := nr rfl
@[simp] theorem lenSet_strs (o : Bool) (xs : List Str) : lenSetD (.lst o (xs.map D.str)) = if xs.length < 4000 then some (.int (ded xs).length) else none := by
  show (match txtsOf (xs.map D.str) with | some xs => if xs.length < 4000 then some (D.int (ded xs).length) else none | none => none) = _
  rw [txtsOf_map]
@[simp] theorem enA_lst (o : Bool) (ds : List D) : mkEnumA [.lst o ds] = if frozenL ds = true then some (enumD 0 ds) else none := nr rfl
@[simp] theorem enA_tup (o : Bool) (ds : List D) : mkEnumA [.tup o ds] = if frozenL ds = true then some (enumD 0 ds) else none := nr rfl
@[simp] theorem zpA_lst (o p : Bool) (ds es : List D) : mkZipA [.lst o ds, .lst p es] = if frozenL ds = true then (if frozenL es = true then some (zipD ds es) else none) else none := nr rfl
@[simp] theorem zpA_tup (o p : Bool) (ds es : List D) : mkZipA [.tup o ds, .tup p es] = if frozenL ds = true then (if frozenL es = true then some (zipD ds es) else none) else none := nr rfl
@[simp] theorem ezA_tup (o p : Bool) (ds es : List D) (h1 : frozenL ds = true) (h2 : frozenL es = true) : mkEzA [.tup o ds, .tup p es] = some (enumD 0 (zipD ds es)) := by
  unfold mkEzA
  rw [zpA_tup, if_pos h1, if_pos h2]
theorem bools_map (bs : List Bool) : boolsOf (bs.map D.bl) = some bs := by
  induction bs with
  | nil => rfl
  | cons b bs ih =>
    rw [List.map_cons, boolsOf, ih]
@[simp] theorem all_bls (o : Bool) (bs : List Bool) : allD [.lst o (bs.map D.bl)] = some (.bl (bs.all id)) := by
  show (match boolsOf (bs.map D.bl) with | some bs => some (D.bl (bs.all id)) | none => none) = _
  rw [bools_map]
/-! ### == by shape -/
theorem eq_shape {d e : D} (h1 : okP d = true) (h2 : okP e = true) : ∃ b, eqE d e = some (.bl b) := by
  unfold eqE
  split <;> first | exact ⟨_, rfl⟩ | (rw [h1, h2]; exact ⟨_, rfl⟩)
theorem ne_shape {d e : D} {b : Bool} (h : eqE d e = some (.bl b)) : neE d e = some (.bl (!b)) := by
  unfold neE
  rw [h]
theorem okP_tup (o o' : Bool) (ds : List D) : okP (.tup o ds) = okP (.tup o' ds) := rfl
/-- plain data of small depth, short texts -/
structure EP (n : Nat) (d : D) : Prop where
  pl : d.plain = true
  can : d.toP.canLay0 = true
  dep : d.toP.depth ≤ n
structure EPL (n : Nat) (ds : List D) : Prop where
  pl : plainL ds = true
  can : PyData.canLayAll0 (toPL ds) = true
  dep : PyData.depthAll (toPL ds) ≤ n
theorem EP.ok {n : Nat} {d : D} (h : EP n d) (hn : n ≤ 64) : okP d = true := by
  unfold okP SeqAt.shaped
  rw [h.pl, h.can, decide_eq_true (Nat.le_trans h.dep hn)]
  rfl
theorem EP.non {n : Nat} : EP n .non := ⟨rfl, by simp [D.toP, PyData.canLay0], Nat.zero_le _⟩
theorem EP.bl {n : Nat} (b : Bool) : EP n (.bl b) := ⟨rfl, by simp [D.toP, PyData.canLay0], Nat.zero_le _⟩
theorem EP.int {n : Nat} (b : Int) : EP n (.int b) := ⟨rfl, by simp [D.toP, PyData.canLay0], Nat.zero_le _⟩
theorem EP.str {n : Nat} (l : List Nat) (h : ∀ c ∈ l, c < 1114112) : EP n (.str (S l)) := ⟨rfl, by
  rw [D.toP, PyData.canLay0]
  unfold PyData.strOk S
  simpa using h, Nat.zero_le _⟩
theorem EPL.nil {n : Nat} : EPL n [] := ⟨rfl, by simp [toPL, PyData.canLayAll0], Nat.zero_le _⟩
theorem EPL.cons {n : Nat} {d : D} {ds : List D} (h : EP n d) (t : EPL n ds) : EPL n (d :: ds) := by
  refine ⟨?_, ?_, ?_⟩
  · rw [plainL, h.pl, t.pl]
    rfl
  · rw [toPL, PyData.canLayAll0, h.can, t.can]
    rfl
  · rw [toPL, PyData.depthAll]
    have := h.dep
    have := t.dep
    omega
theorem EP.tup {n : Nat} {o : Bool} {ds : List D} (h : EPL n ds) : EP (n + 1) (.tup o ds) := by
  refine ⟨by rw [D.plain]; exact h.pl, by rw [D.toP, PyData.canLay0]; exact h.can, ?_⟩
  rw [D.toP, PyData.depth]
  have := h.dep
  omega
theorem EP.lst {n : Nat} {o : Bool} {ds : List D} (h : EPL n ds) : EP (n + 1) (.lst o ds) := by
  refine ⟨by rw [D.plain]; exact h.pl, by rw [D.toP, PyData.canLay0]; exact h.can, ?_⟩
  rw [D.toP, PyData.depth]
  have := h.dep
  omega
theorem EPL.all {n : Nat} : ∀ {ds : List D}, (∀ d ∈ ds, EP n d) → EPL n ds
  | [], _ => .nil
  | d :: ds, h => .cons (h d (.head _)) (EPL.all fun e z => h e (.tail _ z))
theorem eq_lst {o p : Bool} {ds es : List D} {n : Nat} (h1 : EPL n ds) (h2 : EPL n es) (hn : n ≤ 63) : eqE (.lst o ds) (.lst p es) = some (.bl (PyData.eqvAll (toPL ds) (toPL es))) := by
  show (if (okP (.lst o ds) && okP (.lst p es)) = true then some (D.bl (PyData.eqv (D.toP (.lst o ds)) (D.toP (.lst p es)))) else none) = _
  rw [(EP.lst (o := o) h1).ok (by omega), (EP.lst (o := p) h2).ok (by omega), D.toP, D.toP, PyData.eqv]
  rfl
theorem eq_tup {o p : Bool} {ds es : List D} {n : Nat} (h1 : EPL n ds) (h2 : EPL n es) (hn : n ≤ 63) : eqE (.tup o ds) (.tup p es) = some (.bl (PyData.eqvAll (toPL ds) (toPL es))) := by
  show (if (okP (.tup o ds) && okP (.tup p es)) = true then some (D.bl (PyData.eqv (D.toP (.tup o ds)) (D.toP (.tup p es)))) else none) = _
  rw [(EP.tup (o := o) h1).ok (by omega), (EP.tup (o := p) h2).ok (by omega), D.toP, D.toP, PyData.eqv]
  rfl
/-! ### one step of a comprehension -/
def stepC (g : Gm) (t : Tx) (e : Ex) (own : List Nat) (x : D) (E : En) : Option (Option D × En) := bnd (g x E) fun E1 => tstK (t E1) (fun E2 => bnd (e E2) fun y => some (some y.1, kill own y.2)) fun E2 => some (none, kill own E2)
theorem cL_step (g : Gm) (t : Tx) (e : Ex) (own : List Nat) (x : D) (xs : List D) (E : En) : cL g t e own (x :: xs) E = bnd (stepC g t e own x E) fun z => bnd (cL g t e own xs z.2) fun y => some ((match z.1 with | some d => d :: y.1 | none => y.1), y.2) := by
  rw [ev_cl1]
  unfold stepC
  cases g x E with
  | none => rfl
  | some E1 =>
    show tstK (t E1) _ _ = bnd (tstK (t E1) _ _) _
    cases t E1 with
    | none => rfl
    | some z =>
      obtain ⟨b, E2⟩ := z
      cases b with
      | true =>
        show bnd (e E2) _ = bnd (bnd (e E2) _) _
        cases e E2 with
        | none => rfl
        | some y => rfl
      | false =>
        show cL g t e own xs (kill own E2) = bnd (cL g t e own xs (kill own E2)) fun y => some (y.1, y.2)
        cases cL g t e own xs (kill own E2) <;> rfl
/-- each item is looked at by itself -/
theorem cL_fm {g : Gm} {t : Tx} {e : Ex} {own : List Nat} {E : En} (f : D → Option D) : ∀ (xs : List D), (∀ x ∈ xs, stepC g t e own x E = some (f x, E)) → cL g t e own xs E = some (xs.filterMap f, E)
  | [], _ => rfl
  | x :: xs, h => by
    rw [cL_step, h x (.head _)]
    show bnd (cL g t e own xs E) _ = _
    rw [cL_fm f xs fun y z => h y (.tail _ z), List.filterMap_cons]
    show some _ = some _
    cases f x <;> rfl
theorem cL_map {g : Gm} {t : Tx} {e : Ex} {own : List Nat} {E : En} (f : D → D) (xs : List D) (h : ∀ x ∈ xs, stepC g t e own x E = some (some (f x), E)) : cL g t e own xs E = some (xs.map f, E) := by
  rw [cL_fm (fun x => some (f x)) xs h]
  simp
/-- .. of what the items stand for -/
theorem cL_of {α : Type} {g : Gm} {t : Tx} {e : Ex} {own : List Nat} {E : En} (r : α → D) (f : α → D) (xs : List α) (h : ∀ x ∈ xs, stepC g t e own (r x) E = some (some (f x), E)) : cL g t e own (xs.map r) E = some (xs.map f, E) := by
  induction xs with
  | nil => rfl
  | cons x xs ih =>
    rw [List.map_cons, cL_step, h x (.head _)]
    show bnd (cL g t e own (xs.map r) E) _ = _
    rw [ih fun y z => h y (.tail _ z)]
    rfl
theorem cL_fo {α : Type} {g : Gm} {t : Tx} {e : Ex} {own : List Nat} {E : En} (r : α → D) (f : α → Option D) (xs : List α) (h : ∀ x ∈ xs, stepC g t e own (r x) E = some (f x, E)) : cL g t e own (xs.map r) E = some (xs.filterMap f, E) := by
  induction xs with
  | nil => rfl
  | cons x xs ih =>
    rw [List.map_cons, cL_step, h x (.head _)]
    show bnd (cL g t e own (xs.map r) E) _ = _
    rw [ih fun y z => h y (.tail _ z), List.filterMap_cons]
    show some _ = some _
    cases f x <;> rfl
end
end MP

/-! Simp rules of Mp22 to Mp26. -/
namespace MP
open PySem PySem.Spec L2
section
variable {i : Nat} {l : Lx} {m : Ex} {o : Ox} {E : En}
@[simp] theorem ev_popAt : xPopAt i l E = iteK (isLst E i) (bnd (l E) fun x => match x.1 with
    | [.int k] => bnd (lstAt x.2 i) fun ds => iteK (lineOk ds.length) (bnd (ixN ds.length k) fun j => bnd ds[j]? fun d => some (d, x.2.set i (some (.lst true (ds.eraseIdx j))))) none
    | _ => none) none := by
  unfold xPopAt
  cases isLst E i with
  | false => rfl
  | true =>
    rw [if_pos rfl]
    show _ = bnd (l E) _
    rcases l E with _ | ⟨ds, E1⟩
    · rfl
    · rcases ds with _ | ⟨v, _ | ⟨u, t⟩⟩
      · rfl
      · cases v with
        | int k =>
          show _ = bnd (lstAt E1 i) _
          dsimp only
          cases lstAt E1 i with
          | none => rfl
          | some ds =>
            show _ = iteK (lineOk ds.length) _ _
            dsimp only
            cases lineOk ds.length with
            | false => rfl
            | true =>
              rw [if_pos rfl]
              show _ = bnd (ixN ds.length k) _
              cases ixN ds.length k with
              | none => rfl
              | some j =>
                show _ = bnd ds[j]? _
                dsimp only
                cases ds[j]? <;> rfl
        | _ => rfl
      · cases v <;> rfl
@[simp] theorem ev_appT : xAppT m l E = bnd (m E) fun x => match x.1 with
    | .lst true ds => bnd (l x.2) fun y => match y.1 with
      | [_] => iteK (lineOk (ds.length + 1)) (some (.non, y.2)) none
      | _ => none
    | _ => none := by
  unfold xAppT
  rcases m E with _ | ⟨d, E1⟩
  · rfl
  · cases d with
    | lst b ds =>
      cases b with
      | false => rfl
      | true =>
        show _ = bnd (l E1) _
        dsimp only
        rcases l E1 with _ | ⟨es, E2⟩
        · rfl
        · rcases es with _ | ⟨v, _ | ⟨u, t⟩⟩
          · rfl
          · show _ = iteK (lineOk (ds.length + 1)) _ _
            dsimp only
            cases lineOk (ds.length + 1) <;> rfl
          · rfl
    | _ => rfl
def dctK : Option (Option D) → Option (List Key × List D)
  | some (some (.dct true ks ds)) => some (ks, ds)
  | _ => none
@[simp] theorem dctK_some (ks : List Key) (ds : List D) : dctK (some (some (.dct true ks ds))) = some (ks, ds) := rfl
@[simp] theorem ev_gKy (v : D) : gKy i o v E = bnd (dctK E[i]?) fun _ => iteK v.frozen (bnd (o E) fun x => bnd (dr x.2 x.1) fun y => bnd (dctK x.2[i]?) fun z => bnd (keyD y) fun k => iteK (frozenL z.2 && lineOk (z.2.length + 1)) (some (x.2.set i (some (.dct true (putKs z.1 k) (putDs z.1 z.2 k v))))) none) none := by
  unfold gKy
  have cs : ∀ q : Option (Option D), (∃ ks ds, q = some (some (.dct true ks ds))) ∨ dctK q = none := fun q => by
    rcases q with _ | _ | d
    · exact .inr rfl
    · exact .inr rfl
    · cases d with
      | dct b ks ds =>
        cases b with
        | true => exact .inl ⟨_, _, rfl⟩
        | false => exact .inr rfl
      | _ => exact .inr rfl
  rcases cs E[i]? with ⟨ks0, ds0, e⟩ | e
  · rw [e]
    show _ = iteK v.frozen _ _
    dsimp only
    cases v.frozen with
    | false => rfl
    | true =>
      rw [if_pos rfl]
      show _ = bnd (o E) _
      rcases o E with _ | ⟨h, E1⟩
      · rfl
      · show _ = bnd (dr E1 h) _
        dsimp only
        cases dr E1 h with
        | none => rfl
        | some y =>
          rcases cs E1[i]? with ⟨ks, ds, e2⟩ | e2
          · rw [e2]
            show _ = bnd (keyD y) _
            dsimp only
            cases keyD y with
            | none => rfl
            | some k =>
              show _ = iteK (frozenL ds && lineOk (ds.length + 1)) _ _
              dsimp only
              cases (frozenL ds && lineOk (ds.length + 1)) <;> rfl
          · show _ = bnd (dctK E1[i]?) _
            rw [e2]
            rcases q : E1[i]? with _ | _ | d
            · rfl
            · rfl
            · rw [q] at e2
              cases d with
              | dct b ks ds =>
                cases b with
                | true => cases e2
                | false => rfl
              | _ => rfl
  · rw [e]
    rcases q : E[i]? with _ | _ | d
    · rfl
    · rfl
    · rw [q] at e
      cases d with
      | dct b ks ds =>
        cases b with
        | true => cases e
        | false => rfl
      | _ => rfl
@[simp] theorem isLT_lst (b : Bool) (ds : List D) : isLTD (.lst b ds) = some (.bl true) := rfl
@[simp] theorem isLT_tup (b : Bool) (ds : List D) : isLTD (.tup b ds) = some (.bl true) := rfl
@[simp] theorem keyD_int (k : Int) : keyD (.int k) = some (.inl k) := rfl
@[simp] theorem keyD_str (k : Str) : keyD (.str k) = some (.inr k) := rfl
@[simp] theorem fz_dct (b : Bool) (ks : List Key) (ds : List D) : (D.dct b ks ds).frozen = (!b && frozenL ds) := rfl
@[simp] theorem niK_int (k : Int) (b : Bool) (ks : List Key) (ds : List D) : niK (.int k) (.dct b ks ds) = some (.bl (!hasK ks (.inl k))) := rfl
@[simp] theorem inK_int (k : Int) (b : Bool) (ks : List Key) (ds : List D) : inK (.int k) (.dct b ks ds) = some (.bl (hasK ks (.inl k))) := rfl
end
end MP

/-! What repr needs of plain data: small leaves, small depth, small bulk. -/
namespace MP
open PySem PySem.Spec L2
structure Fine (n w : Nat) (d : D) : Prop where
  plain : d.plain = true
  show_ : d.toP.showable = true
  depth : d.toP.depth ≤ n
  leaves : d.toP.leavesShort 13 = true
  bulk : d.toP.bulk ≤ w
structure FineL (n w : Nat) (ds : List D) : Prop where
  plain : plainL ds = true
  show_ : PyData.showableAll (toPL ds) = true
  depth : PyData.depthAll (toPL ds) ≤ n
  leaves : PyData.leavesShortAll 13 (toPL ds) = true
  bulk : PyData.bulkAll (toPL ds) ≤ w
theorem Fine.mono {n n' w w' : Nat} {d : D} (h : Fine n w d) (hn : n ≤ n') (hw : w ≤ w') : Fine n' w' d := ⟨h.plain, h.show_, Nat.le_trans h.depth hn, h.leaves, Nat.le_trans h.bulk hw⟩
theorem FineL.mono {n n' w w' : Nat} {d : List D} (h : FineL n w d) (hn : n ≤ n') (hw : w ≤ w') : FineL n' w' d := ⟨h.plain, h.show_, Nat.le_trans h.depth hn, h.leaves, Nat.le_trans h.bulk hw⟩
theorem Fine.non {n w : Nat} : Fine n w .non := ⟨rfl, rfl, Nat.zero_le _, rfl, Nat.zero_le _⟩
theorem Fine.bl {n w : Nat} (b : Bool) : Fine n w (.bl b) := ⟨rfl, rfl, Nat.zero_le _, rfl, Nat.zero_le _⟩
theorem Fine.int {n w : Nat} (i : Int) (h : i.natAbs < 10 ^ 12) : Fine n w (.int i) := by
  refine ⟨rfl, ?_, Nat.zero_le _, ?_, Nat.zero_le _⟩
  · show decide (i.natAbs.log2 < 1920) = true
    rw [decide_eq_true_eq]
    by_cases h0 : i.natAbs = 0
    · rw [h0]
      decide
    · rw [Nat.log2_lt h0]
      exact Nat.lt_trans h (by decide +kernel)
  · show decide ((PyData.shown (.int i)).length ≤ 13) = true
    rw [decide_eq_true_eq]
    exact PyData.shown_int_le h
theorem Fine.str {n : Nat} (l : List Nat) (h : ∀ c ∈ l, c < 16 ^ 8) : Fine n l.length (.str (S l)) := by
  refine ⟨rfl, rfl, Nat.zero_le _, ?_, ?_⟩
  · show (S l).cps.toList.all (fun c => decide (c < 16 ^ 8)) = true
    rw [S_list, List.all_eq_true]
    exact fun c hc => decide_eq_true (h c hc)
  · show (S l).cps.size ≤ l.length
    simp [S]
theorem FineL.nil {n w : Nat} : FineL n w [] := ⟨rfl, rfl, Nat.zero_le _, rfl, Nat.zero_le _⟩
theorem FineL.cons {n w w' : Nat} {d : D} {ds : List D} (h : Fine n w d) (t : FineL n w' ds) : FineL n (w + 1 + w') (d :: ds) := by
  refine ⟨?_, ?_, ?_, ?_, ?_⟩
  · rw [plainL, h.plain, t.plain]
    rfl
  · rw [toPL, PyData.showableAll, h.show_, t.show_]
    rfl
  · rw [toPL, PyData.depthAll]
    have := h.depth
    have := t.depth
    omega
  · rw [toPL, PyData.leavesShortAll, h.leaves, t.leaves]
    rfl
  · rw [toPL, PyData.bulkAll]
    have := h.bulk
    have := t.bulk
    omega
theorem Fine.lst {n w : Nat} {o : Bool} {ds : List D} (h : FineL n w ds) : Fine (n + 1) w (.lst o ds) := by
  refine ⟨?_, ?_, ?_, ?_, ?_⟩
  · rw [D.plain]
    exact h.plain
  · rw [D.toP, PyData.showable]
    exact h.show_
  · rw [D.toP, PyData.depth]
    have := h.depth
    omega
  · rw [D.toP, PyData.leavesShort]
    exact h.leaves
  · rw [D.toP, PyData.bulk]
    exact h.bulk
theorem Fine.tup {n w : Nat} {o : Bool} {ds : List D} (h : FineL n w ds) : Fine (n + 1) w (.tup o ds) := by
  refine ⟨?_, ?_, ?_, ?_, ?_⟩
  · rw [D.plain]
    exact h.plain
  · rw [D.toP, PyData.showable]
    exact h.show_
  · rw [D.toP, PyData.depth]
    have := h.depth
    omega
  · rw [D.toP, PyData.leavesShort]
    exact h.leaves
  · rw [D.toP, PyData.bulk]
    exact h.bulk
theorem Fine.ok {d : D} {w : Nat} (h : Fine 60 w d) (hw : w ≤ 1118000) : okShow d = true := by
  unfold okShow
  have := PyData.shown_le_bulk 13 (by decide) d.toP h.leaves
  have hb := h.bulk
  have hs : d.toP.shown.length ≤ sizeLine := Nat.le_trans this (by show _ ≤ 16777216; omega)
  rw [h.plain, h.show_, decide_eq_true h.depth, decide_eq_true hs]
  rfl
end MP

namespace K71
open PySem PySem.Spec L2 MP
def topS (i : Nat) : Stmt := PySem.Challenge.rw_lowland_k71_whole_levels_hour_by_hour.prog.main.body.getD i (.Pass ⟨0, 0, 0, 0⟩)
def kc0 : List Nat := [97, 98, 99, 100, 101, 102, 103, 104, 105, 106, 107, 108]
theorem ks0 : Str.ofString "abcdefghijkl" = (S kc0) := by decide +kernel
theorem ks1 : Str.ofString "field" = (S [102, 105, 101, 108, 100]) := by decide +kernel
theorem ks2 : Str.ofString "stretch" = (S [115, 116, 114, 101, 116, 99, 104]) := by decide +kernel
theorem ks3 : Str.ofString "land" = (S [108, 97, 110, 100]) := by decide +kernel
theorem ks4 : Str.ofString "gone" = (S [103, 111, 110, 101]) := by decide +kernel
theorem ks5 : Str.ofString "hour" = (S [104, 111, 117, 114]) := by decide +kernel
theorem ks6 : Str.ofString "ground" = (S [103, 114, 111, 117, 110, 100]) := by decide +kernel
theorem ks7 : Str.ofString "houses" = (S [104, 111, 117, 115, 101, 115]) := by decide +kernel
theorem ks8 : Str.ofString "wall" = (S [119, 97, 108, 108]) := by decide +kernel
theorem ks9 : Str.ofString "to" = (S [116, 111]) := by decide +kernel
theorem ks10 : Str.ofString "crest" = (S [99, 114, 101, 115, 116]) := by decide +kernel
theorem ks11 : Str.ofString "above" = (S [97, 98, 111, 118, 101]) := by decide +kernel
theorem ks12 : Str.ofString "like" = (S [108, 105, 107, 101]) := by decide +kernel
theorem ks13 : Str.ofString "raise" = (S [114, 97, 105, 115, 101]) := by decide +kernel
theorem ks14 : Str.ofString "times" = (S [116, 105, 109, 101, 115]) := by decide +kernel
theorem ks15 : Str.ofString "each" = (S [101, 97, 99, 104]) := by decide +kernel
theorem ks16 : Str.ofString "gauge" = (S [103, 97, 117, 103, 101]) := by decide +kernel
theorem ks17 : Str.ofString "sea" = (S [115, 101, 97]) := by decide +kernel
def kc18 : List Nat := [97, 98, 99, 100, 101, 102, 103, 104, 105, 106, 107, 108, 109, 110, 111, 112, 113, 114, 115, 116, 117, 118, 119, 120, 121, 122]
theorem ks18 : Str.ofString "abcdefghijklmnopqrstuvwxyz" = (S kc18) := by decide +kernel
abbrev s__law_pot : Stmt := topS 58
def b__law_pot : Sm := (sSeq (sAsg (ifX (toB (op2 ltD (oN 1) (oV (opN lenD (hCons (oN 0) hNil))))) (opN absD (hCons (oV (op2 ixD (oN 0) (oN 1))) hNil)) (op2 addD (oV (op2 mulDT (oV (xC (.int (2267)))) (oN 1))) (oV (xC (.int (1979)))))) (gSet 2))
  (sRet (dLst (xCons (opN maxD (hCons (oV (xC (.int (0)))) (hCons (oV (op2 subD (oN 2) (oV (op2 powD (oV (xC (.int (10)))) (oV (xC (.int (18)))))))) hNil))) (xCons (op2 addD (oV (op2 modD (oV (opN intD (hCons (oV (op2 addD (oV (op2 addD (oV (op2 mulDT (oV (op2 modD (oV (opN intD (hCons (oN 2) hNil))) (oV (xC (.int (2147483549)))))) (oV (xC (.int (40014)))))) (oV (op2 mulDT (oV (xC (.int (3631)))) (oN 1))))) (oV (xC (.int (2969)))))) hNil))) (oV (xC (.int (2147483563)))))) (oV (xC (.int (1))))) xNil)))))
def m__law_pot : Fm := fnM 3 [true, true] b__law_pot
theorem sc__law_pot : FnScope ["script", "k", "cell"] ["script", "k"] (defScope s__law_pot) := ⟨rfl, rfl, rfl, by decide +kernel, rfl, by decide +kernel, by decide +kernel⟩
theorem bd__law_pot {K : PySem.W.Frag} {f : Addr} {fd : FuncData} (F : Fun K "_law_pot" "_law_pot" s__law_pot f fd) : Binds K fd ["script", "k"] [] := F.binds fun _ _ _ _ _ _ us hl => match us, hl with | [_, _], _ => rfl
abbrev s__law_draw : Stmt := topS 59
def b__law_draw : Sm := (sSeq (sIf (toB (op2 gtD (oV (op2 ixD (oN 0) (oV (xC (.int (0)))))) (oV (xC (.int (0)))))) (sSeq (sAsg (opN divmodD (hCons (oV (op2 ixD (oN 0) (oV (xC (.int (0)))))) (hCons (oN 1) hNil))) (gTup' 2 (gOne (gIx 0 (oV (xC (.int (0))))) (gOne (gSet 2) gNo))))
  (sRet (xTk 2))) sSkip)
  (sSeq (sAsg (op2 modD (oV (opN intD (hCons (oV (op2 addD (oV (op2 mulDT (oV (op2 ixD (oN 0) (oV (xC (.int (1)))))) (oV (xC (.int (40692)))))) (oV (xC (.int (3631)))))) hNil))) (oV (xC (.int (2147483563))))) (gIx 0 (oV (xC (.int (1))))))
  (sRet (op2 modD (oV (opN intD (hCons (oV (op2 divD (oV (op2 modD (oV (opN intD (hCons (oV (op2 mulDT (oV (op2 ixD (oN 0) (oV (xC (.int (1)))))) (oV (op2 ixD (oN 0) (oV (xC (.int (1)))))))) hNil))) (oV (xC (.int (2147483549)))))) (oV (xC (.int (43)))))) hNil))) (oN 1)))))
def m__law_draw : Fm := fnM 3 [true, true] b__law_draw
theorem sc__law_draw : FnScope ["pot", "many", "digit"] ["pot", "many"] (defScope s__law_draw) := ⟨rfl, rfl, rfl, by decide +kernel, rfl, by decide +kernel, by decide +kernel⟩
theorem bd__law_draw {K : PySem.W.Frag} {f : Addr} {fd : FuncData} (F : Fun K "_law_draw" "_law_draw" s__law_draw f fd) : Binds K fd ["pot", "many"] [] := F.binds fun _ _ _ _ _ _ us hl => match us, hl with | [_, _], _ => rfl
abbrev s__law_land : Stmt := topS 62
def wg1__law_land : Gm := (gSet 7)
theorem e_wg1__law_land (v : D) (E : En) : wg1__law_land v E = (gSet 7) v E := nr rfl
def wb1__law_land : Sm := (sSeq (sAsg (ifX (orT (toB (op2 eqE (oN 7) (oV (op2 subD (oN 4) (oV (xC (.int (1)))))))) (toB (op2 eqE (oV (xCall m__law_draw (hCons (oN 0) (hCons (oV (xC (.int (4)))) hNil)))) (oV (xC (.int (0))))))) (op2 addD (oV (xC (.int (1)))) (oV (xCall m__law_draw (hCons (oN 0) (hCons (oV (xC (.int (9)))) hNil))))) (xC (.int (0)))) (gSet 8))
  (sDrop (xAppend 5 (xCons (dTup (xCons (xC (.str (S [102, 105, 101, 108, 100]))) (xCons (altX (ixOwn (xC (.str (S kc0))) (oN 7)) (op2 ixD (oV (xC (.str (S kc0)))) (oN 7))) (xCons (xCall m__law_draw (hCons (oN 0) (hCons (oV (xC (.int (4)))) hNil))) (xCons (xTk 8) xNil))))) xNil))))
theorem e_wb1__law_land (E : En) : wb1__law_land E = (sSeq (sAsg (ifX (orT (toB (op2 eqE (oN 7) (oV (op2 subD (oN 4) (oV (xC (.int (1)))))))) (toB (op2 eqE (oV (xCall m__law_draw (hCons (oN 0) (hCons (oV (xC (.int (4)))) hNil)))) (oV (xC (.int (0))))))) (op2 addD (oV (xC (.int (1)))) (oV (xCall m__law_draw (hCons (oN 0) (hCons (oV (xC (.int (9)))) hNil))))) (xC (.int (0)))) (gSet 8))
  (sDrop (xAppend 5 (xCons (dTup (xCons (xC (.str (S [102, 105, 101, 108, 100]))) (xCons (altX (ixOwn (xC (.str (S kc0))) (oN 7)) (op2 ixD (oV (xC (.str (S kc0)))) (oN 7))) (xCons (xCall m__law_draw (hCons (oN 0) (hCons (oV (xC (.int (4)))) hNil))) (xCons (xTk 8) xNil))))) xNil)))) E := nr rfl
def wg2__law_land : Gm := (gSet 7)
theorem e_wg2__law_land (v : D) (E : En) : wg2__law_land v E = (gSet 7) v E := nr rfl
def wb2__law_land : Sm := (sSeq (sPar 9 10 (xCons (xCall m__law_draw (hCons (oN 0) (hCons (oV (op2 addD (oN 4) (oV (xC (.int (1)))))) hNil))) (xCons (xCall m__law_draw (hCons (oN 0) (hCons (oV (op2 addD (oN 4) (oV (xC (.int (1)))))) hNil))) xNil)))
  (sSeq (sIf (andT (toB (op2 ltD (oN 7) (oN 4))) (toB (op2 gtD (oV (xCall m__law_draw (hCons (oN 0) (hCons (oV (xC (.int (3)))) hNil)))) (oV (xC (.int (0))))))) (sPar 9 10 (xCons (xCall m__law_draw (hCons (oN 0) (hCons (oV (op2 addD (oN 7) (oV (xC (.int (1)))))) hNil))) (xCons (op2 addD (oN 7) (oV (xC (.int (1))))) xNil))) sSkip)
  (sIf (toB (op2 neE (oN 9) (oN 10))) (sSeq (sAsg (ifX (toB (op2 eqE (oV (xCall m__law_draw (hCons (oN 0) (hCons (oV (xC (.int (7)))) hNil)))) (oV (xC (.int (0)))))) (xC .non) (xCall m__law_draw (hCons (oN 0) (hCons (oV (op2 addD (oN 3) (oV (xC (.int (1)))))) hNil)))) (gSet 11))
  (sDrop (xAppend 6 (xCons (dTup (xCons (xC (.str (S [115, 116, 114, 101, 116, 99, 104]))) (xCons (opN minD (hCons (oN 9) (hCons (oN 10) hNil))) (xCons (opN maxD (hCons (oN 9) (hCons (oN 10) hNil))) (xCons (xCall m__law_draw (hCons (oN 0) (hCons (oV (xC (.int (8)))) hNil))) (xCons (xTk 11) xNil)))))) xNil)))) sSkip)))
theorem e_wb2__law_land (E : En) : wb2__law_land E = (sSeq (sPar 9 10 (xCons (xCall m__law_draw (hCons (oN 0) (hCons (oV (op2 addD (oN 4) (oV (xC (.int (1)))))) hNil))) (xCons (xCall m__law_draw (hCons (oN 0) (hCons (oV (op2 addD (oN 4) (oV (xC (.int (1)))))) hNil))) xNil)))
  (sSeq (sIf (andT (toB (op2 ltD (oN 7) (oN 4))) (toB (op2 gtD (oV (xCall m__law_draw (hCons (oN 0) (hCons (oV (xC (.int (3)))) hNil)))) (oV (xC (.int (0))))))) (sPar 9 10 (xCons (xCall m__law_draw (hCons (oN 0) (hCons (oV (op2 addD (oN 7) (oV (xC (.int (1)))))) hNil))) (xCons (op2 addD (oN 7) (oV (xC (.int (1))))) xNil))) sSkip)
  (sIf (toB (op2 neE (oN 9) (oN 10))) (sSeq (sAsg (ifX (toB (op2 eqE (oV (xCall m__law_draw (hCons (oN 0) (hCons (oV (xC (.int (7)))) hNil)))) (oV (xC (.int (0)))))) (xC .non) (xCall m__law_draw (hCons (oN 0) (hCons (oV (op2 addD (oN 3) (oV (xC (.int (1)))))) hNil)))) (gSet 11))
  (sDrop (xAppend 6 (xCons (dTup (xCons (xC (.str (S [115, 116, 114, 101, 116, 99, 104]))) (xCons (opN minD (hCons (oN 9) (hCons (oN 10) hNil))) (xCons (opN maxD (hCons (oN 9) (hCons (oN 10) hNil))) (xCons (xCall m__law_draw (hCons (oN 0) (hCons (oV (xC (.int (8)))) hNil))) (xCons (xTk 11) xNil)))))) xNil)))) sSkip))) E := nr rfl
def b__law_land : Sm := (sSeq (sPar3 4 5 6 (xCons (op2 addD (oV (xC (.int (1)))) (oV (xCall m__law_draw (hCons (oN 0) (hCons (oN 1) hNil))))) (xCons (dLst xNil) (xCons (dLst xNil) xNil))))
  (sSeq (sK [7, 8] (sFor (hCons (oN 4) hNil) mkRng1 wg1__law_land wb1__law_land [7, 8]))
  (sSeq (sK [7, 9, 10, 11] (sFor (hCons (oV (op2 addD (oN 4) (oV (xCall m__law_draw (hCons (oN 0) (hCons (oV (op2 addD (oN 2) (oV (xC (.int (1)))))) hNil)))))) hNil) mkRng1 wg2__law_land wb2__law_land [7, 9, 10, 11]))
  (sRet (dTup (xCons (xC (.str (S [108, 97, 110, 100]))) (xCons (opN tupleD (hCons (oN 5) hNil)) (xCons (opN tupleD (hCons (oN 6) hNil)) xNil))))))))
def m__law_land : Fm := fnM 12 [true, true, true, true] b__law_land
theorem sc__law_land : FnScope ["pot", "most", "more", "prices", "many", "fields", "stretches", "at", "houses", "one", "other", "price"] ["pot", "most", "more", "prices"] (defScope s__law_land) := ⟨rfl, rfl, rfl, by decide +kernel, rfl, by decide +kernel, by decide +kernel⟩
theorem bd__law_land {K : PySem.W.Frag} {f : Addr} {fd : FuncData} (F : Fun K "_law_land" "_law_land" s__law_land f fd) : Binds K fd ["pot", "most", "more", "prices"] [] := F.binds fun _ _ _ _ _ _ us hl => match us, hl with | [_, _, _, _], _ => rfl
abbrev s__law_plan : Stmt := topS 64
def cg1__law_plan : Gm := (gTup' 2 (gOne (gSet 2) (gOne (gSet 3) gNo)))
theorem e_cg1__law_plan (v : D) (E : En) : cg1__law_plan v E = (gTup' 2 (gOne (gSet 2) (gOne (gSet 3) gNo))) v E := nr rfl
def ct1__law_plan : Tx := (andT (toB (op2 notNon (oV (op2 ixD (oN 3) (oV (xC (.int (4)))))) (oV (xC .non)))) (toB (op2 gtD (oV (xCall m__law_draw (hCons (oN 0) (hCons (oV (xC (.int (4)))) hNil)))) (oV (xC (.int (0)))))))
theorem e_ct1__law_plan (E : En) : ct1__law_plan E = (andT (toB (op2 notNon (oV (op2 ixD (oN 3) (oV (xC (.int (4)))))) (oV (xC .non)))) (toB (op2 gtD (oV (xCall m__law_draw (hCons (oN 0) (hCons (oV (xC (.int (4)))) hNil)))) (oV (xC (.int (0))))))) E := nr rfl
def ce1__law_plan : Ex := (xTk 2)
theorem e_ce1__law_plan (E : En) : ce1__law_plan E = (xTk 2) E := nr rfl
def b__law_plan : Sm := (sRet (opN tupleD (hCons (oV (xComp (hCons (oV (op2 ixD (oN 1) (oV (xC (.int (2)))))) hNil) mkEnumA [2, 3] cg1__law_plan ct1__law_plan ce1__law_plan)) hNil)))
def m__law_plan : Fm := fnM 4 [true, true] b__law_plan
theorem sc__law_plan : FnScope ["pot", "land", "at", "one"] ["pot", "land"] (defScope s__law_plan) := ⟨rfl, rfl, rfl, by decide +kernel, rfl, by decide +kernel, by decide +kernel⟩
theorem bd__law_plan {K : PySem.W.Frag} {f : Addr} {fd : FuncData} (F : Fun K "_law_plan" "_law_plan" s__law_plan f fd) : Binds K fd ["pot", "land"] [] := F.binds fun _ _ _ _ _ _ us hl => match us, hl with | [_, _], _ => rfl
abbrev s__law_storm : Stmt := topS 65
def wg1__law_storm : Gm := (gSet 7)
theorem e_wg1__law_storm (v : D) (E : En) : wg1__law_storm v E = (gSet 7) v E := nr rfl
def wb1__law_storm : Sm := (sDrop (xAppend 3 (xCons (dTup (xCons (xC (.str (S [103, 111, 110, 101]))) (xCons (xPopAt 4 (xCons (xCall m__law_draw (hCons (oN 0) (hCons (oV (opN lenD (hCons (oN 4) hNil))) hNil))) xNil)) xNil))) xNil)))
theorem e_wb1__law_storm (E : En) : wb1__law_storm E = (sDrop (xAppend 3 (xCons (dTup (xCons (xC (.str (S [103, 111, 110, 101]))) (xCons (xPopAt 4 (xCons (xCall m__law_draw (hCons (oN 0) (hCons (oV (opN lenD (hCons (oN 4) hNil))) hNil))) xNil)) xNil))) xNil))) E := nr rfl
def wg2__law_storm : Gm := (gSet 5)
theorem e_wg2__law_storm (v : D) (E : En) : wg2__law_storm v E = (gSet 5) v E := nr rfl
def wb2__law_storm : Sm := (sSeq (sAsg (ifX (toB (op2 neE (oN 4) (oV (dLst xNil)))) (xCall m__law_draw (hCons (oN 0) (hCons (oV (xC (.int (2)))) hNil))) (xC (.int (0)))) (gSet 6))
  (sSeq (sK [7] (sFor (hCons (oN 6) hNil) mkRng1 wg1__law_storm wb1__law_storm [7]))
  (sDrop (xAppend 3 (xCons (dTup (xCons (xC (.str (S [104, 111, 117, 114]))) (xCons (xCall m__law_draw (hCons (oN 0) (hCons (oV (xC (.int (11)))) hNil))) xNil))) xNil)))))
theorem e_wb2__law_storm (E : En) : wb2__law_storm E = (sSeq (sAsg (ifX (toB (op2 neE (oN 4) (oV (dLst xNil)))) (xCall m__law_draw (hCons (oN 0) (hCons (oV (xC (.int (2)))) hNil))) (xC (.int (0)))) (gSet 6))
  (sSeq (sK [7] (sFor (hCons (oN 6) hNil) mkRng1 wg1__law_storm wb1__law_storm [7]))
  (sDrop (xAppend 3 (xCons (dTup (xCons (xC (.str (S [104, 111, 117, 114]))) (xCons (xCall m__law_draw (hCons (oN 0) (hCons (oV (xC (.int (11)))) hNil))) xNil))) xNil))))) E := nr rfl
def b__law_storm : Sm := (sSeq (sPar 3 4 (xCons (dLst xNil) (xCons (opN listD (hCons (oN 1) hNil)) xNil)))
  (sSeq (sK [5, 6, 7] (sFor (hCons (oN 2) hNil) mkRng1 wg2__law_storm wb2__law_storm [5, 6, 7]))
  (sRet (xTk 3))))
def m__law_storm : Fm := fnM 8 [true, true, true] b__law_storm
theorem sc__law_storm : FnScope ["pot", "plan", "hours", "found", "left", "turn", "while_gone", "step"] ["pot", "plan", "hours"] (defScope s__law_storm) := ⟨rfl, rfl, rfl, by decide +kernel, rfl, by decide +kernel, by decide +kernel⟩
theorem bd__law_storm {K : PySem.W.Frag} {f : Addr} {fd : FuncData} (F : Fun K "_law_storm" "_law_storm" s__law_storm f fd) : Binds K fd ["pot", "plan", "hours"] [] := F.binds fun _ _ _ _ _ _ us hl => match us, hl with | [_, _, _], _ => rfl
abbrev s__law_sill : Stmt := topS 63
def cg1__law_sill : Gm := (gSet 4)
theorem e_cg1__law_sill (v : D) (E : En) : cg1__law_sill v E = (gSet 4) v E := nr rfl
def ct1__law_sill : Tx := tYesT
theorem e_ct1__law_sill (E : En) : ct1__law_sill E = tYesT E := nr rfl
def ce1__law_sill : Ex := (op2 ixD (oN 4) (oV (xC (.int (2)))))
theorem e_ce1__law_sill (E : En) : ce1__law_sill E = (op2 ixD (oN 4) (oV (xC (.int (2))))) E := nr rfl
def b__law_sill : Sm := (sSeq (sPar 2 3 (xCons (altX (ixOwn (op2 ixD (oN 0) (oV (xC (.int (2))))) (oN 1)) (op2 ixD (oV (op2 ixD (oN 0) (oV (xC (.int (2)))))) (oN 1))) (xCons (op2 addD (oV (dLst (xCons (xC (.int (0))) xNil))) (oV (xComp (hCons (oV (op2 ixD (oN 0) (oV (xC (.int (1)))))) hNil) mkAny [4] cg1__law_sill ct1__law_sill ce1__law_sill))) xNil)))
  (sRet (opN max3D (hCons (oV (op2 ixD (oN 2) (oV (xC (.int (3)))))) (hCons (oV (op2 ixD (oN 3) (oV (op2 ixD (oN 2) (oV (xC (.int (1)))))))) (hCons (oV (op2 ixD (oN 3) (oV (op2 ixD (oN 2) (oV (xC (.int (2)))))))) hNil))))))
def m__law_sill : Fm := fnM 5 [true, true] b__law_sill
theorem sc__law_sill : FnScope ["land", "at", "stretch", "grounds", "field"] ["land", "at"] (defScope s__law_sill) := ⟨rfl, rfl, rfl, by decide +kernel, rfl, by decide +kernel, by decide +kernel⟩
theorem bd__law_sill {K : PySem.W.Frag} {f : Addr} {fd : FuncData} (F : Fun K "_law_sill" "_law_sill" s__law_sill f fd) : Binds K fd ["land", "at"] [] := F.binds fun _ _ _ _ _ _ us hl => match us, hl with | [_, _], _ => rfl
abbrev s__law_levels : Stmt := topS 68
def cg1__law_levels : Gm := (gSet 9)
theorem e_cg1__law_levels (v : D) (E : En) : cg1__law_levels v E = (gSet 9) v E := nr rfl
def ct1__law_levels : Tx := tYesT
theorem e_ct1__law_levels (E : En) : ct1__law_levels E = tYesT E := nr rfl
def ce1__law_levels : Ex := (xCall m__law_sill (hCons (oN 0) (hCons (oN 9) hNil)))
theorem e_ce1__law_levels (E : En) : ce1__law_levels E = (xCall m__law_sill (hCons (oN 0) (hCons (oN 9) hNil))) E := nr rfl
def wg2__law_levels : Gm := (gTup' 2 (gOne (gSet 11) (gOne (gSet 12) gNo)))
theorem e_wg2__law_levels (v : D) (E : En) : wg2__law_levels v E = (gTup' 2 (gOne (gSet 11) (gOne (gSet 12) gNo))) v E := nr rfl
def wb2__law_levels : Sm := (sIf (andT (toB (op2 leD (oV (op2 ixD (oN 2) (oN 9))) (oN 6))) (andT (toB (op2 gtD (oN 12) (oV (xC (.int (0)))))) (andT (toB (op2 notNon (oV (op2 ixD (oN 5) (oN 11))) (oV (xC .non)))) (andT (toB (op2 gtD (oV (op2 ixD (oN 5) (oN 11))) (oV (op2 ixD (oN 3) (oN 9))))) (orT (toB (op2 isNon (oV (op2 ixD (oN 5) (oN 12))) (oV (xC .non)))) (toB (op2 ltD (oV (op2 ixD (oN 5) (oN 12))) (oV (op2 ixD (oN 5) (oN 11)))))))))) (sAsg (dTup (xCons (op2 ixD (oN 5) (oN 11)) (xCons (xC (.bl true)) xNil))) (gTup' 2 (gOne (gIx 5 (oN 12)) (gOne (gSet 8) gNo)))) sSkip)
theorem e_wb2__law_levels (E : En) : wb2__law_levels E = (sIf (andT (toB (op2 leD (oV (op2 ixD (oN 2) (oN 9))) (oN 6))) (andT (toB (op2 gtD (oN 12) (oV (xC (.int (0)))))) (andT (toB (op2 notNon (oV (op2 ixD (oN 5) (oN 11))) (oV (xC .non)))) (andT (toB (op2 gtD (oV (op2 ixD (oN 5) (oN 11))) (oV (op2 ixD (oN 3) (oN 9))))) (orT (toB (op2 isNon (oV (op2 ixD (oN 5) (oN 12))) (oV (xC .non)))) (toB (op2 ltD (oV (op2 ixD (oN 5) (oN 12))) (oV (op2 ixD (oN 5) (oN 11)))))))))) (sAsg (dTup (xCons (op2 ixD (oN 5) (oN 11)) (xCons (xC (.bl true)) xNil))) (gTup' 2 (gOne (gIx 5 (oN 12)) (gOne (gSet 8) gNo)))) sSkip) E := nr rfl
def wg3__law_levels : Gm := (gTup' 2 (gOne (gSet 9) (gOne (gSet 10) gNo)))
theorem e_wg3__law_levels (v : D) (E : En) : wg3__law_levels v E = (gTup' 2 (gOne (gSet 9) (gOne (gSet 10) gNo))) v E := nr rfl
def wb3__law_levels : Sm := (sK [11, 12] (sFor (hCons (oV (dTup (xCons (opSl slD (oN 10) (some (intNow (oV (xC (.int (1)))))) (some (intNow (oV (xC (.int (3))))))) (xCons (op1 (revSlD (2) (0)) (oN 10)) xNil)))) hNil) mkAny wg2__law_levels wb2__law_levels [11, 12]))
theorem e_wb3__law_levels (E : En) : wb3__law_levels E = (sK [11, 12] (sFor (hCons (oV (dTup (xCons (opSl slD (oN 10) (some (intNow (oV (xC (.int (1)))))) (some (intNow (oV (xC (.int (3))))))) (xCons (op1 (revSlD (2) (0)) (oN 10)) xNil)))) hNil) mkAny wg2__law_levels wb2__law_levels [11, 12])) E := nr rfl
def wc4__law_levels : Tx := (toB (xTk 8))
theorem e_wc4__law_levels (E : En) : wc4__law_levels E = (toB (xTk 8)) E := nr rfl
def wb4__law_levels : Sm := (sSeq (sAsg (xC (.bl false)) (gSet 8))
  (sK [9, 10, 11, 12] (sFor (hCons (oV (op2 ixD (oN 0) (oV (xC (.int (2)))))) hNil) mkEnumA wg3__law_levels wb3__law_levels [9, 10, 11, 12])))
theorem e_wb4__law_levels (E : En) : wb4__law_levels E = (sSeq (sAsg (xC (.bl false)) (gSet 8))
  (sK [9, 10, 11, 12] (sFor (hCons (oV (op2 ixD (oN 0) (oV (xC (.int (2)))))) hNil) mkEnumA wg3__law_levels wb3__law_levels [9, 10, 11, 12]))) E := nr rfl
def wg5__law_levels : Gm := (gTup' 2 (gOne (gSet 6) (gOne (gSet 7) gNo)))
theorem e_wg5__law_levels (v : D) (E : En) : wg5__law_levels v E = (gTup' 2 (gOne (gSet 6) (gOne (gSet 7) gNo))) v E := nr rfl
def wb5__law_levels : Sm := (sSeq (sAsg (dTup (xCons (xTk 7) (xCons (xC (.bl true)) xNil))) (gTup' 2 (gOne (gIx 5 (oV (xC (.int (0))))) (gOne (gSet 8) gNo))))
  (sSeq (sK [9, 10, 11, 12] (sWhile wc4__law_levels wb4__law_levels [9, 10, 11, 12] fu))
  (sDrop (xAppend 4 (xCons (opN tupleD (hCons (oV (opSl slD (oN 5) (some (intNow (oV (xC (.int (1)))))) none)) hNil)) xNil)))))
theorem e_wb5__law_levels (E : En) : wb5__law_levels E = (sSeq (sAsg (dTup (xCons (xTk 7) (xCons (xC (.bl true)) xNil))) (gTup' 2 (gOne (gIx 5 (oV (xC (.int (0))))) (gOne (gSet 8) gNo))))
  (sSeq (sK [9, 10, 11, 12] (sWhile wc4__law_levels wb4__law_levels [9, 10, 11, 12] fu))
  (sDrop (xAppend 4 (xCons (opN tupleD (hCons (oV (opSl slD (oN 5) (some (intNow (oV (xC (.int (1)))))) none)) hNil)) xNil))))) E := nr rfl
def b__law_levels : Sm := (sSeq (sPar3 3 4 5 (xCons (xComp (hCons (oV (opN lenD (hCons (oV (op2 ixD (oN 0) (oV (xC (.int (2)))))) hNil))) hNil) mkRng1 [9] cg1__law_levels ct1__law_levels ce1__law_levels) (xCons (dLst xNil) (xCons (op2 mulDT (oV (dLst (xCons (xC .non) xNil))) (oV (op2 addD (oV (opN lenD (hCons (oV (op2 ixD (oN 0) (oV (xC (.int (1)))))) hNil))) (oV (xC (.int (1))))))) xNil))))
  (sSeq (sK [6, 7, 8, 9, 10, 11, 12] (sFor (hCons (oN 1) hNil) mkEnumA wg5__law_levels wb5__law_levels [6, 7, 8, 9, 10, 11, 12]))
  (sRet (xTk 4))))
def m__law_levels : Fm := fnM 13 [true, true, true] b__law_levels
theorem sc__law_levels : FnScope ["land", "heights", "gone", "sills", "found", "here", "hour", "height", "is_new", "at", "stretch", "one", "other"] ["land", "heights", "gone"] (defScope s__law_levels) := ⟨rfl, rfl, rfl, by decide +kernel, rfl, by decide +kernel, by decide +kernel⟩
theorem bd__law_levels {K : PySem.W.Frag} {f : Addr} {fd : FuncData} (F : Fun K "_law_levels" "_law_levels" s__law_levels f fd) : Binds K fd ["land", "heights", "gone"] [] := F.binds fun _ _ _ _ _ _ us hl => match us, hl with | [_, _, _], _ => rfl
abbrev s_is_integer : Stmt := topS 5
def b_is_integer : Sm := (sRet (andX (op1 (isD "int") (oN 0)) (notX (op1 (isD "bool") (oN 0)))))
def m_is_integer : Fm := fnM 1 [true] b_is_integer
theorem sc_is_integer : FnScope ["value"] ["value"] (defScope s_is_integer) := ⟨rfl, rfl, rfl, by decide +kernel, rfl, by decide +kernel, by decide +kernel⟩
theorem bd_is_integer {K : PySem.W.Frag} {f : Addr} {fd : FuncData} (F : Fun K "is_integer" "is_integer" s_is_integer f fd) : Binds K fd ["value"] [] := F.binds fun _ _ _ _ _ _ us hl => match us, hl with | [_], _ => rfl
abbrev s_is_between : Stmt := topS 6
def b_is_between : Sm := (sRet (andX (xCall m_is_integer (hCons (oN 0) hNil)) (chT leD leD (oN 1) (oN 0) (oN 2))))
def m_is_between : Fm := fnM 3 [true, true, true] b_is_between
theorem sc_is_between : FnScope ["value", "low", "high"] ["value", "low", "high"] (defScope s_is_between) := ⟨rfl, rfl, rfl, by decide +kernel, rfl, by decide +kernel, by decide +kernel⟩
theorem bd_is_between {K : PySem.W.Frag} {f : Addr} {fd : FuncData} (F : Fun K "is_between" "is_between" s_is_between f fd) : Binds K fd ["value", "low", "high"] [] := F.binds fun _ _ _ _ _ _ us hl => match us, hl with | [_, _, _], _ => rfl
abbrev s_is_count : Stmt := topS 7
def b_is_count : Sm := (sRet (andX (xCall m_is_integer (hCons (oN 0) hNil)) (op2 geD (oN 0) (oV (xC (.int (0)))))))
def m_is_count : Fm := fnM 1 [true] b_is_count
theorem sc_is_count : FnScope ["value"] ["value"] (defScope s_is_count) := ⟨rfl, rfl, rfl, by decide +kernel, rfl, by decide +kernel, by decide +kernel⟩
theorem bd_is_count {K : PySem.W.Frag} {f : Addr} {fd : FuncData} (F : Fun K "is_count" "is_count" s_is_count f fd) : Binds K fd ["value"] [] := F.binds fun _ _ _ _ _ _ us hl => match us, hl with | [_], _ => rfl
abbrev s_is_position : Stmt := topS 8
def b_is_position : Sm := (sRet (andX (xCall m_is_count (hCons (oN 0) hNil)) (op2 ltD (oN 0) (oN 1))))
def m_is_position : Fm := fnM 2 [true, true] b_is_position
theorem sc_is_position : FnScope ["value", "many"] ["value", "many"] (defScope s_is_position) := ⟨rfl, rfl, rfl, by decide +kernel, rfl, by decide +kernel, by decide +kernel⟩
theorem bd_is_position {K : PySem.W.Frag} {f : Addr} {fd : FuncData} (F : Fun K "is_position" "is_position" s_is_position f fd) : Binds K fd ["value", "many"] [] := F.binds fun _ _ _ _ _ _ us hl => match us, hl with | [_, _], _ => rfl
abbrev s_is_stretch : Stmt := topS 27
def b_is_stretch : Sm := (sSeq (sIf (orT (notT (toB (op1 (isD "tuple") (oN 0)))) (orT (toB (op2 neE (oV (opN lenD (hCons (oN 0) hNil))) (oV (xC (.int (5)))))) (orT (notT (toB (op1 (isD "str") (oV (op2 ixD (oN 0) (oV (xC (.int (0))))))))) (toB (op2 neE (oV (op2 ixD (oN 0) (oV (xC (.int (0)))))) (oV (xC (.str (S [115, 116, 114, 101, 116, 99, 104]))))))))) (sRet (xC (.bl false))) sSkip)
  (sSeq (sIf (orT (notT (toB (xCall m_is_position (hCons (oV (op2 ixD (oN 0) (oV (xC (.int (1)))))) (hCons (oN 1) hNil))))) (orT (notT (toB (xCall m_is_position (hCons (oV (op2 ixD (oN 0) (oV (xC (.int (2)))))) (hCons (oN 1) hNil))))) (toB (op2 geD (oV (op2 ixD (oN 0) (oV (xC (.int (1)))))) (oV (op2 ixD (oN 0) (oV (xC (.int (2)))))))))) (sRet (xC (.bl false))) sSkip)
  (sRet (andX (xCall m_is_between (hCons (oV (op2 ixD (oN 0) (oV (xC (.int (3)))))) (hCons (oV (xC (.int (0)))) (hCons (oV (xC (.int (999)))) hNil)))) (orX (op2 isNon (oV (op2 ixD (oN 0) (oV (xC (.int (4)))))) (oV (xC .non))) (xCall m_is_between (hCons (oV (op2 ixD (oN 0) (oV (xC (.int (4)))))) (hCons (oV (xC (.int (0)))) (hCons (oV (xC (.int (1000000)))) hNil)))))))))
def m_is_stretch : Fm := fnM 2 [true, true] b_is_stretch
theorem sc_is_stretch : FnScope ["value", "many"] ["value", "many"] (defScope s_is_stretch) := ⟨rfl, rfl, rfl, by decide +kernel, rfl, by decide +kernel, by decide +kernel⟩
theorem bd_is_stretch {K : PySem.W.Frag} {f : Addr} {fd : FuncData} (F : Fun K "is_stretch" "is_stretch" s_is_stretch f fd) : Binds K fd ["value", "many"] [] := F.binds fun _ _ _ _ _ _ us hl => match us, hl with | [_, _], _ => rfl
abbrev s_is_name : Stmt := topS 10
def cg1_is_name : Gm := (gSet 1)
theorem e_cg1_is_name (v : D) (E : En) : cg1_is_name v E = (gSet 1) v E := nr rfl
def ct1_is_name : Tx := tYesT
theorem e_ct1_is_name (E : En) : ct1_is_name E = tYesT E := nr rfl
def ce1_is_name : Ex := (op2 inD (oN 1) (oV (xC (.str (S kc18)))))
theorem e_ce1_is_name (E : En) : ce1_is_name E = (op2 inD (oN 1) (oV (xC (.str (S kc18))))) E := nr rfl
def b_is_name : Sm := (sSeq (sIf (orT (notT (toB (op1 (isD "str") (oN 0)))) (orT (notT (toB (chT leD leD (oV (xC (.int (1)))) (oV (opN lenD (hCons (oN 0) hNil))) (oV (xC (.int (8))))))) (toB (op2 inD (oN 0) (oV (xC (.tup false [(.str (S [102, 105, 101, 108, 100])), (.str (S [103, 114, 111, 117, 110, 100])), (.str (S [104, 111, 117, 115, 101, 115])), (.str (S [119, 97, 108, 108])), (.str (S [116, 111])), (.str (S [99, 114, 101, 115, 116])), (.str (S [97, 98, 111, 118, 101])), (.str (S [108, 105, 107, 101])), (.str (S [114, 97, 105, 115, 101])), (.str (S [116, 105, 109, 101, 115])), (.str (S [101, 97, 99, 104])), (.str (S [103, 97, 117, 103, 101])), (.str (S [115, 101, 97]))]))))))) (sRet (xC (.bl false))) sSkip)
  (sRet (opN allD (hCons (oV (xComp (hCons (oN 0) hNil) mkAny [1] cg1_is_name ct1_is_name ce1_is_name)) hNil))))
def m_is_name : Fm := fnM 2 [true] b_is_name
theorem sc_is_name : FnScope ["value", "sign"] ["value"] (defScope s_is_name) := ⟨rfl, rfl, rfl, by decide +kernel, rfl, by decide +kernel, by decide +kernel⟩
theorem bd_is_name {K : PySem.W.Frag} {f : Addr} {fd : FuncData} (F : Fun K "is_name" "is_name" s_is_name f fd) : Binds K fd ["value"] [] := F.binds fun _ _ _ _ _ _ us hl => match us, hl with | [_], _ => rfl
abbrev s_is_field : Stmt := topS 26
def b_is_field : Sm := (sSeq (sIf (orT (notT (toB (op1 (isD "tuple") (oN 0)))) (orT (toB (op2 neE (oV (opN lenD (hCons (oN 0) hNil))) (oV (xC (.int (4)))))) (orT (notT (toB (op1 (isD "str") (oV (op2 ixD (oN 0) (oV (xC (.int (0))))))))) (toB (op2 neE (oV (op2 ixD (oN 0) (oV (xC (.int (0)))))) (oV (xC (.str (S [102, 105, 101, 108, 100]))))))))) (sRet (xC (.bl false))) sSkip)
  (sRet (andX (xCall m_is_name (hCons (oV (op2 ixD (oN 0) (oV (xC (.int (1)))))) hNil)) (andX (xCall m_is_between (hCons (oV (op2 ixD (oN 0) (oV (xC (.int (2)))))) (hCons (oV (xC (.int (0)))) (hCons (oV (xC (.int (999)))) hNil)))) (xCall m_is_between (hCons (oV (op2 ixD (oN 0) (oV (xC (.int (3)))))) (hCons (oV (xC (.int (0)))) (hCons (oV (xC (.int (99)))) hNil))))))))
def m_is_field : Fm := fnM 1 [true] b_is_field
theorem sc_is_field : FnScope ["value"] ["value"] (defScope s_is_field) := ⟨rfl, rfl, rfl, by decide +kernel, rfl, by decide +kernel, by decide +kernel⟩
theorem bd_is_field {K : PySem.W.Frag} {f : Addr} {fd : FuncData} (F : Fun K "is_field" "is_field" s_is_field f fd) : Binds K fd ["value"] [] := F.binds fun _ _ _ _ _ _ us hl => match us, hl with | [_], _ => rfl
abbrev s_is_land : Stmt := topS 28
def cg1_is_land : Gm := (gSet 3)
theorem e_cg1_is_land (v : D) (E : En) : cg1_is_land v E = (gSet 3) v E := nr rfl
def ct1_is_land : Tx := tYesT
theorem e_ct1_is_land (E : En) : ct1_is_land E = tYesT E := nr rfl
def ce1_is_land : Ex := (op2 ixD (oN 3) (oV (xC (.int (1)))))
theorem e_ce1_is_land (E : En) : ce1_is_land E = (op2 ixD (oN 3) (oV (xC (.int (1))))) E := nr rfl
def cg2_is_land : Gm := (gSet 3)
theorem e_cg2_is_land (v : D) (E : En) : cg2_is_land v E = (gSet 3) v E := nr rfl
def ct2_is_land : Tx := tYesT
theorem e_ct2_is_land (E : En) : ct2_is_land E = tYesT E := nr rfl
def ce2_is_land : Ex := (xCall m_is_field (hCons (oN 3) hNil))
theorem e_ce2_is_land (E : En) : ce2_is_land E = (xCall m_is_field (hCons (oN 3) hNil)) E := nr rfl
def cg3_is_land : Gm := (gSet 3)
theorem e_cg3_is_land (v : D) (E : En) : cg3_is_land v E = (gSet 3) v E := nr rfl
def ct3_is_land : Tx := tYesT
theorem e_ct3_is_land (E : En) : ct3_is_land E = tYesT E := nr rfl
def ce3_is_land : Ex := (xCall m_is_stretch (hCons (oN 3) (hCons (oV (op2 addD (oV (opN lenD (hCons (oN 1) hNil))) (oV (xC (.int (1)))))) hNil)))
theorem e_ce3_is_land (E : En) : ce3_is_land E = (xCall m_is_stretch (hCons (oN 3) (hCons (oV (op2 addD (oV (opN lenD (hCons (oN 1) hNil))) (oV (xC (.int (1)))))) hNil))) E := nr rfl
def b_is_land : Sm := (sSeq (sIf (orT (notT (toB (op1 (isD "tuple") (oN 0)))) (orT (toB (op2 neE (oV (opN lenD (hCons (oN 0) hNil))) (oV (xC (.int (3)))))) (orT (notT (toB (op1 (isD "str") (oV (op2 ixD (oN 0) (oV (xC (.int (0))))))))) (toB (op2 neE (oV (op2 ixD (oN 0) (oV (xC (.int (0)))))) (oV (xC (.str (S [108, 97, 110, 100]))))))))) (sRet (xC (.bl false))) sSkip)
  (sSeq (sAsg (opSl slD (oN 0) (some (intNow (oV (xC (.int (1)))))) none) (gTup' 2 (gOne (gSet 1) (gOne (gSet 2) gNo))))
  (sSeq (sIf (orT (notT (toB (op1 (isD "tuple") (oN 1)))) (orT (notT (toB (op1 (isD "tuple") (oN 2)))) (notT (toB (chT leD leD (oV (xC (.int (1)))) (oV (opN lenD (hCons (oN 1) hNil))) (oV (xC (.int (12))))))))) (sRet (xC (.bl false))) sSkip)
  (sSeq (sIf (orT (notT (toB (opN allD (hCons (oV (xComp (hCons (oN 1) hNil) mkAny [3] cg2_is_land ct2_is_land ce2_is_land)) hNil)))) (toB (op2 ltD (oV (altX (op1 lenSetD (oV (xComp (hCons (oN 1) hNil) mkAny [3] cg1_is_land ct1_is_land ce1_is_land))) (op1 lenSetI (oV (xComp (hCons (oN 1) hNil) mkAny [3] cg1_is_land ct1_is_land ce1_is_land))))) (oV (opN lenD (hCons (oN 1) hNil)))))) (sRet (xC (.bl false))) sSkip)
  (sRet (andX (op2 leD (oV (opN lenD (hCons (oN 2) hNil))) (oV (xC (.int (30))))) (opN allD (hCons (oV (xComp (hCons (oN 2) hNil) mkAny [3] cg3_is_land ct3_is_land ce3_is_land)) hNil))))))))
def m_is_land : Fm := fnM 4 [true] b_is_land
theorem sc_is_land : FnScope ["value", "fields", "stretches", "one"] ["value"] (defScope s_is_land) := ⟨rfl, rfl, rfl, by decide +kernel, rfl, by decide +kernel, by decide +kernel⟩
theorem bd_is_land {K : PySem.W.Frag} {f : Addr} {fd : FuncData} (F : Fun K "is_land" "is_land" s_is_land f fd) : Binds K fd ["value"] [] := F.binds fun _ _ _ _ _ _ us hl => match us, hl with | [_], _ => rfl
abbrev s_check_land : Stmt := topS 30
def b_check_land : Sm := (sIf (notT (toB (xCall m_is_land (hCons (oN 0) hNil)))) sNever sSkip)
def m_check_land : Fm := fnM 1 [true] b_check_land
theorem sc_check_land : FnScope ["land"] ["land"] (defScope s_check_land) := ⟨rfl, rfl, rfl, by decide +kernel, rfl, by decide +kernel, by decide +kernel⟩
theorem bd_check_land {K : PySem.W.Frag} {f : Addr} {fd : FuncData} (F : Fun K "check_land" "check_land" s_check_land f fd) : Binds K fd ["land"] [] := F.binds fun _ _ _ _ _ _ us hl => match us, hl with | [_], _ => rfl
abbrev s_is_rising : Stmt := topS 9
def cg1_is_rising : Gm := (gSet 2)
theorem e_cg1_is_rising (v : D) (E : En) : cg1_is_rising v E = (gSet 2) v E := nr rfl
def ct1_is_rising : Tx := tYesT
theorem e_ct1_is_rising (E : En) : ct1_is_rising E = tYesT E := nr rfl
def ce1_is_rising : Ex := (xCall m_is_position (hCons (oN 2) (hCons (oN 1) hNil)))
theorem e_ce1_is_rising (E : En) : ce1_is_rising E = (xCall m_is_position (hCons (oN 2) (hCons (oN 1) hNil))) E := nr rfl
def cg2_is_rising : Gm := (gTup' 2 (gOne (gSet 2) (gOne (gSet 3) gNo)))
theorem e_cg2_is_rising (v : D) (E : En) : cg2_is_rising v E = (gTup' 2 (gOne (gSet 2) (gOne (gSet 3) gNo))) v E := nr rfl
def ct2_is_rising : Tx := tYesT
theorem e_ct2_is_rising (E : En) : ct2_is_rising E = tYesT E := nr rfl
def ce2_is_rising : Ex := (op2 ltD (oN 2) (oN 3))
theorem e_ce2_is_rising (E : En) : ce2_is_rising E = (op2 ltD (oN 2) (oN 3)) E := nr rfl
def b_is_rising : Sm := (sSeq (sIf (orT (notT (toB (op1 (isD "tuple") (oN 0)))) (notT (toB (opN allD (hCons (oV (xComp (hCons (oN 0) hNil) mkAny [2] cg1_is_rising ct1_is_rising ce1_is_rising)) hNil))))) (sRet (xC (.bl false))) sSkip)
  (sRet (opN allD (hCons (oV (xComp (hCons (oN 0) (hCons (oV (opSl slD (oN 0) (some (intNow (oV (xC (.int (1)))))) none)) hNil)) mkZipA [2, 3] cg2_is_rising ct2_is_rising ce2_is_rising)) hNil))))
def m_is_rising : Fm := fnM 4 [true, true] b_is_rising
theorem sc_is_rising : FnScope ["value", "many", "one", "other"] ["value", "many"] (defScope s_is_rising) := ⟨rfl, rfl, rfl, by decide +kernel, rfl, by decide +kernel, by decide +kernel⟩
theorem bd_is_rising {K : PySem.W.Frag} {f : Addr} {fd : FuncData} (F : Fun K "is_rising" "is_rising" s_is_rising f fd) : Binds K fd ["value", "many"] [] := F.binds fun _ _ _ _ _ _ us hl => match us, hl with | [_, _], _ => rfl
abbrev s_is_plan_of : Stmt := topS 29
def cg1_is_plan_of : Gm := (gSet 2)
theorem e_cg1_is_plan_of (v : D) (E : En) : cg1_is_plan_of v E = (gSet 2) v E := nr rfl
def ct1_is_plan_of : Tx := tYesT
theorem e_ct1_is_plan_of (E : En) : ct1_is_plan_of E = tYesT E := nr rfl
def ce1_is_plan_of : Ex := (op2 notNon (oV (altX (ixOwn (altX (ixOwn (op2 ixD (oN 0) (oV (xC (.int (2))))) (oN 2)) (op2 ixD (oV (op2 ixD (oN 0) (oV (xC (.int (2)))))) (oN 2))) (oV (xC (.int (4))))) (op2 ixD (oV (altX (ixOwn (op2 ixD (oN 0) (oV (xC (.int (2))))) (oN 2)) (op2 ixD (oV (op2 ixD (oN 0) (oV (xC (.int (2)))))) (oN 2)))) (oV (xC (.int (4))))))) (oV (xC .non)))
theorem e_ce1_is_plan_of (E : En) : ce1_is_plan_of E = (op2 notNon (oV (altX (ixOwn (altX (ixOwn (op2 ixD (oN 0) (oV (xC (.int (2))))) (oN 2)) (op2 ixD (oV (op2 ixD (oN 0) (oV (xC (.int (2)))))) (oN 2))) (oV (xC (.int (4))))) (op2 ixD (oV (altX (ixOwn (op2 ixD (oN 0) (oV (xC (.int (2))))) (oN 2)) (op2 ixD (oV (op2 ixD (oN 0) (oV (xC (.int (2)))))) (oN 2)))) (oV (xC (.int (4))))))) (oV (xC .non))) E := nr rfl
def b_is_plan_of : Sm := (sRet (andX (xCall m_is_rising (hCons (oN 1) (hCons (oV (opN lenD (hCons (oV (op2 ixD (oN 0) (oV (xC (.int (2)))))) hNil))) hNil))) (opN allD (hCons (oV (xComp (hCons (oN 1) hNil) mkAny [2] cg1_is_plan_of ct1_is_plan_of ce1_is_plan_of)) hNil))))
def m_is_plan_of : Fm := fnM 3 [true, true] b_is_plan_of
theorem sc_is_plan_of : FnScope ["land", "value", "one"] ["land", "value"] (defScope s_is_plan_of) := ⟨rfl, rfl, rfl, by decide +kernel, rfl, by decide +kernel, by decide +kernel⟩
theorem bd_is_plan_of {K : PySem.W.Frag} {f : Addr} {fd : FuncData} (F : Fun K "is_plan_of" "is_plan_of" s_is_plan_of f fd) : Binds K fd ["land", "value"] [] := F.binds fun _ _ _ _ _ _ us hl => match us, hl with | [_, _], _ => rfl
abbrev s_check_plan : Stmt := topS 32
def b_check_plan : Sm := (sIf (notT (toB (xCall m_is_plan_of (hCons (oN 0) (hCons (oN 1) hNil))))) sNever sSkip)
def m_check_plan : Fm := fnM 2 [true, true] b_check_plan
theorem sc_check_plan : FnScope ["land", "plan"] ["land", "plan"] (defScope s_check_plan) := ⟨rfl, rfl, rfl, by decide +kernel, rfl, by decide +kernel, by decide +kernel⟩
theorem bd_check_plan {K : PySem.W.Frag} {f : Addr} {fd : FuncData} (F : Fun K "check_plan" "check_plan" s_check_plan f fd) : Binds K fd ["land", "plan"] [] := F.binds fun _ _ _ _ _ _ us hl => match us, hl with | [_, _], _ => rfl
abbrev s_is_list : Stmt := topS 4
def b_is_list : Sm := (sRet (op1 isLTD (oN 0)))
def m_is_list : Fm := fnM 1 [true] b_is_list
theorem sc_is_list : FnScope ["value"] ["value"] (defScope s_is_list) := ⟨rfl, rfl, rfl, by decide +kernel, rfl, by decide +kernel, by decide +kernel⟩
theorem bd_is_list {K : PySem.W.Frag} {f : Addr} {fd : FuncData} (F : Fun K "is_list" "is_list" s_is_list f fd) : Binds K fd ["value"] [] := F.binds fun _ _ _ _ _ _ us hl => match us, hl with | [_], _ => rfl
abbrev s_is_step : Stmt := topS 40
def b_is_step : Sm := (sSeq (sIf (orT (notT (toB (op1 (isD "tuple") (oN 1)))) (orT (toB (op2 neE (oV (opN lenD (hCons (oN 1) hNil))) (oV (xC (.int (2)))))) (notT (toB (op1 (isD "str") (oV (op2 ixD (oN 1) (oV (xC (.int (0))))))))))) (sRet (xC (.bl false))) sSkip)
  (sSeq (sIf (toB (op2 eqE (oV (op2 ixD (oN 1) (oV (xC (.int (0)))))) (oV (xC (.str (S [104, 111, 117, 114])))))) (sRet (xCall m_is_between (hCons (oV (op2 ixD (oN 1) (oV (xC (.int (1)))))) (hCons (oV (xC (.int (0)))) (hCons (oV (xC (.int (1000)))) hNil))))) sSkip)
  (sRet (andX (op2 eqE (oV (op2 ixD (oN 1) (oV (xC (.int (0)))))) (oV (xC (.str (S [103, 111, 110, 101]))))) (andX (xCall m_is_position (hCons (oV (op2 ixD (oN 1) (oV (xC (.int (1)))))) (hCons (oV (xC (.int (1000)))) hNil))) (op2 inD (oV (op2 ixD (oN 1) (oV (xC (.int (1)))))) (oN 0)))))))
def m_is_step : Fm := fnM 2 [true, true] b_is_step
theorem sc_is_step : FnScope ["plan", "value"] ["plan", "value"] (defScope s_is_step) := ⟨rfl, rfl, rfl, by decide +kernel, rfl, by decide +kernel, by decide +kernel⟩
theorem bd_is_step {K : PySem.W.Frag} {f : Addr} {fd : FuncData} (F : Fun K "is_step" "is_step" s_is_step f fd) : Binds K fd ["plan", "value"] [] := F.binds fun _ _ _ _ _ _ us hl => match us, hl with | [_, _], _ => rfl
abbrev s_is_storm : Stmt := topS 41
def cg1_is_storm : Gm := (gSet 3)
theorem e_cg1_is_storm (v : D) (E : En) : cg1_is_storm v E = (gSet 3) v E := nr rfl
def ct1_is_storm : Tx := tYesT
theorem e_ct1_is_storm (E : En) : ct1_is_storm E = tYesT E := nr rfl
def ce1_is_storm : Ex := (xCall m_is_step (hCons (oN 0) (hCons (oN 3) hNil)))
theorem e_ce1_is_storm (E : En) : ce1_is_storm E = (xCall m_is_step (hCons (oN 0) (hCons (oN 3) hNil))) E := nr rfl
def cg2_is_storm : Gm := (gSet 3)
theorem e_cg2_is_storm (v : D) (E : En) : cg2_is_storm v E = (gSet 3) v E := nr rfl
def ct2_is_storm : Tx := (toB (op2 eqE (oV (op2 ixD (oN 3) (oV (xC (.int (0)))))) (oV (xC (.str (S [103, 111, 110, 101]))))))
theorem e_ct2_is_storm (E : En) : ct2_is_storm E = (toB (op2 eqE (oV (op2 ixD (oN 3) (oV (xC (.int (0)))))) (oV (xC (.str (S [103, 111, 110, 101])))))) E := nr rfl
def ce2_is_storm : Ex := (op2 ixD (oN 3) (oV (xC (.int (1)))))
theorem e_ce2_is_storm (E : En) : ce2_is_storm E = (op2 ixD (oN 3) (oV (xC (.int (1))))) E := nr rfl
def b_is_storm : Sm := (sSeq (sIf (orT (notT (toB (xCall m_is_list (hCons (oN 1) hNil)))) (orT (toB (op2 gtD (oV (opN lenD (hCons (oN 1) hNil))) (oV (xC (.int (100)))))) (notT (toB (opN allD (hCons (oV (xComp (hCons (oN 1) hNil) mkAny [3] cg1_is_storm ct1_is_storm ce1_is_storm)) hNil)))))) (sRet (xC (.bl false))) sSkip)
  (sSeq (sAsg (xComp (hCons (oN 1) hNil) mkAny [3] cg2_is_storm ct2_is_storm ce2_is_storm) (gSet 2))
  (sRet (andX (op2 eqE (oV (altX (op1 lenSetD (oN 2)) (op1 lenSetI (oN 2)))) (oV (opN lenD (hCons (oN 2) hNil)))) (op2 leD (oV (op2 subD (oV (opN lenD (hCons (oN 1) hNil))) (oV (opN lenD (hCons (oN 2) hNil))))) (oV (xC (.int (48)))))))))
def m_is_storm : Fm := fnM 4 [true, true] b_is_storm
theorem sc_is_storm : FnScope ["plan", "value", "gone", "one"] ["plan", "value"] (defScope s_is_storm) := ⟨rfl, rfl, rfl, by decide +kernel, rfl, by decide +kernel, by decide +kernel⟩
theorem bd_is_storm {K : PySem.W.Frag} {f : Addr} {fd : FuncData} (F : Fun K "is_storm" "is_storm" s_is_storm f fd) : Binds K fd ["plan", "value"] [] := F.binds fun _ _ _ _ _ _ us hl => match us, hl with | [_, _], _ => rfl
abbrev s_check_storm : Stmt := topS 49
def b_check_storm : Sm := (sSeq (sDrop (xCall m_check_land (hCons (oN 0) hNil)))
  (sSeq (sDrop (xCall m_check_plan (hCons (oN 0) (hCons (oN 1) hNil))))
  (sIf (notT (toB (xCall m_is_storm (hCons (oN 1) (hCons (oN 2) hNil))))) sNever sSkip)))
def m_check_storm : Fm := fnM 3 [true, true, true] b_check_storm
theorem sc_check_storm : FnScope ["land", "plan", "storm"] ["land", "plan", "storm"] (defScope s_check_storm) := ⟨rfl, rfl, rfl, by decide +kernel, rfl, by decide +kernel, by decide +kernel⟩
theorem bd_check_storm {K : PySem.W.Frag} {f : Addr} {fd : FuncData} (F : Fun K "check_storm" "check_storm" s_check_storm f fd) : Binds K fd ["land", "plan", "storm"] [] := F.binds fun _ _ _ _ _ _ us hl => match us, hl with | [_, _, _], _ => rfl
abbrev s_ends_of : Stmt := topS 36
def b_ends_of : Sm := (sRet (dTup (xCons (altX (ixOwn (altX (ixOwn (op2 ixD (oN 0) (oV (xC (.int (2))))) (oN 1)) (op2 ixD (oV (op2 ixD (oN 0) (oV (xC (.int (2)))))) (oN 1))) (oV (xC (.int (1))))) (op2 ixD (oV (altX (ixOwn (op2 ixD (oN 0) (oV (xC (.int (2))))) (oN 1)) (op2 ixD (oV (op2 ixD (oN 0) (oV (xC (.int (2)))))) (oN 1)))) (oV (xC (.int (1)))))) (xCons (altX (ixOwn (altX (ixOwn (op2 ixD (oN 0) (oV (xC (.int (2))))) (oN 1)) (op2 ixD (oV (op2 ixD (oN 0) (oV (xC (.int (2)))))) (oN 1))) (oV (xC (.int (2))))) (op2 ixD (oV (altX (ixOwn (op2 ixD (oN 0) (oV (xC (.int (2))))) (oN 1)) (op2 ixD (oV (op2 ixD (oN 0) (oV (xC (.int (2)))))) (oN 1)))) (oV (xC (.int (2)))))) xNil))))
def m_ends_of : Fm := fnM 2 [true, true] b_ends_of
theorem sc_ends_of : FnScope ["land", "stretch"] ["land", "stretch"] (defScope s_ends_of) := ⟨rfl, rfl, rfl, by decide +kernel, rfl, by decide +kernel, by decide +kernel⟩
theorem bd_ends_of {K : PySem.W.Frag} {f : Addr} {fd : FuncData} (F : Fun K "ends_of" "ends_of" s_ends_of f fd) : Binds K fd ["land", "stretch"] [] := F.binds fun _ _ _ _ _ _ us hl => match us, hl with | [_, _], _ => rfl
abbrev s_is_less : Stmt := topS 45
def b_is_less : Sm := (sRet (andX (op2 notNon (oN 1) (oV (xC .non))) (orX (op2 isNon (oN 0) (oV (xC .non))) (op2 ltD (oN 0) (oN 1)))))
def m_is_less : Fm := fnM 2 [true, true] b_is_less
theorem sc_is_less : FnScope ["one", "other"] ["one", "other"] (defScope s_is_less) := ⟨rfl, rfl, rfl, by decide +kernel, rfl, by decide +kernel, by decide +kernel⟩
theorem bd_is_less {K : PySem.W.Frag} {f : Addr} {fd : FuncData} (F : Fun K "is_less" "is_less" s_is_less f fd) : Binds K fd ["one", "other"] [] := F.binds fun _ _ _ _ _ _ us hl => match us, hl with | [_, _], _ => rfl
abbrev s_ground_of : Stmt := topS 34
def b_ground_of : Sm := (sRet (ifX (toB (op2 gtD (oN 1) (oV (xC (.int (0)))))) (altX (ixOwn (altX (ixOwn (op2 ixD (oN 0) (oV (xC (.int (1))))) (oV (op2 subD (oN 1) (oV (xC (.int (1))))))) (op2 ixD (oV (op2 ixD (oN 0) (oV (xC (.int (1)))))) (oV (op2 subD (oN 1) (oV (xC (.int (1)))))))) (oV (xC (.int (2))))) (op2 ixD (oV (altX (ixOwn (op2 ixD (oN 0) (oV (xC (.int (1))))) (oV (op2 subD (oN 1) (oV (xC (.int (1))))))) (op2 ixD (oV (op2 ixD (oN 0) (oV (xC (.int (1)))))) (oV (op2 subD (oN 1) (oV (xC (.int (1))))))))) (oV (xC (.int (2)))))) (xC (.int (0)))))
def m_ground_of : Fm := fnM 2 [true, true] b_ground_of
theorem sc_ground_of : FnScope ["land", "place"] ["land", "place"] (defScope s_ground_of) := ⟨rfl, rfl, rfl, by decide +kernel, rfl, by decide +kernel, by decide +kernel⟩
theorem bd_ground_of {K : PySem.W.Frag} {f : Addr} {fd : FuncData} (F : Fun K "ground_of" "ground_of" s_ground_of f fd) : Binds K fd ["land", "place"] [] := F.binds fun _ _ _ _ _ _ us hl => match us, hl with | [_, _], _ => rfl
abbrev s_sill_at : Stmt := topS 35
def b_sill_at : Sm := (sSeq (sAsg (altX (ixOwn (op2 ixD (oN 0) (oV (xC (.int (2))))) (oN 1)) (op2 ixD (oV (op2 ixD (oN 0) (oV (xC (.int (2)))))) (oN 1))) (gSet 2))
  (sRet (opN max3D (hCons (oV (op2 ixD (oN 2) (oV (xC (.int (3)))))) (hCons (oV (xCall m_ground_of (hCons (oN 0) (hCons (oV (op2 ixD (oN 2) (oV (xC (.int (1)))))) hNil)))) (hCons (oV (xCall m_ground_of (hCons (oN 0) (hCons (oV (op2 ixD (oN 2) (oV (xC (.int (2)))))) hNil)))) hNil))))))
def m_sill_at : Fm := fnM 3 [true, true] b_sill_at
theorem sc_sill_at : FnScope ["land", "stretch", "one"] ["land", "stretch"] (defScope s_sill_at) := ⟨rfl, rfl, rfl, by decide +kernel, rfl, by decide +kernel, by decide +kernel⟩
theorem bd_sill_at {K : PySem.W.Frag} {f : Addr} {fd : FuncData} (F : Fun K "sill_at" "sill_at" s_sill_at f fd) : Binds K fd ["land", "stretch"] [] := F.binds fun _ _ _ _ _ _ us hl => match us, hl with | [_, _], _ => rfl
abbrev s_spread : Stmt := topS 46
def wg1_spread : Gm := (gTup' 2 (gOne (gSet 9) (gOne (gSet 10) gNo)))
theorem e_wg1_spread (v : D) (E : En) : wg1_spread v E = (gTup' 2 (gOne (gSet 9) (gOne (gSet 10) gNo))) v E := nr rfl
def wb1_spread : Sm := (sIf (andT (toB (op2 gtD (oN 10) (oV (xC (.int (0)))))) (andT (toB (xCall m_is_less (hCons (oV (xCall m_sill_at (hCons (oN 0) (hCons (oN 6) hNil)))) (hCons (oV (op2 ixD (oN 4) (oN 9))) hNil)))) (toB (xCall m_is_less (hCons (oV (op2 ixD (oN 4) (oN 10))) (hCons (oV (op2 ixD (oN 4) (oN 9))) hNil)))))) (sAsg (dTup (xCons (op2 ixD (oN 4) (oN 9)) (xCons (xC (.bl true)) xNil))) (gTup' 2 (gOne (gIx 4 (oN 10)) (gOne (gSet 5) gNo)))) sSkip)
theorem e_wb1_spread (E : En) : wb1_spread E = (sIf (andT (toB (op2 gtD (oN 10) (oV (xC (.int (0)))))) (andT (toB (xCall m_is_less (hCons (oV (xCall m_sill_at (hCons (oN 0) (hCons (oN 6) hNil)))) (hCons (oV (op2 ixD (oN 4) (oN 9))) hNil)))) (toB (xCall m_is_less (hCons (oV (op2 ixD (oN 4) (oN 10))) (hCons (oV (op2 ixD (oN 4) (oN 9))) hNil)))))) (sAsg (dTup (xCons (op2 ixD (oN 4) (oN 9)) (xCons (xC (.bl true)) xNil))) (gTup' 2 (gOne (gIx 4 (oN 10)) (gOne (gSet 5) gNo)))) sSkip) E := nr rfl
def wg2_spread : Gm := (gSet 6)
theorem e_wg2_spread (v : D) (E : En) : wg2_spread v E = (gSet 6) v E := nr rfl
def wb2_spread : Sm := (sSeq (sAsg (xCall m_ends_of (hCons (oN 0) (hCons (oN 6) hNil))) (gTup' 2 (gOne (gSet 7) (gOne (gSet 8) gNo))))
  (sK [9, 10] (sFor (hCons (oV (dTup (xCons (dTup (xCons (xSh 7) (xCons (xSh 8) xNil))) (xCons (dTup (xCons (xTk 8) (xCons (xTk 7) xNil))) xNil)))) hNil) mkAny wg1_spread wb1_spread [9, 10])))
theorem e_wb2_spread (E : En) : wb2_spread E = (sSeq (sAsg (xCall m_ends_of (hCons (oN 0) (hCons (oN 6) hNil))) (gTup' 2 (gOne (gSet 7) (gOne (gSet 8) gNo))))
  (sK [9, 10] (sFor (hCons (oV (dTup (xCons (dTup (xCons (xSh 7) (xCons (xSh 8) xNil))) (xCons (dTup (xCons (xTk 8) (xCons (xTk 7) xNil))) xNil)))) hNil) mkAny wg1_spread wb1_spread [9, 10]))) E := nr rfl
def wc3_spread : Tx := (toB (xTk 5))
theorem e_wc3_spread (E : En) : wc3_spread E = (toB (xTk 5)) E := nr rfl
def wb3_spread : Sm := (sSeq (sAsg (xC (.bl false)) (gSet 5))
  (sK [6, 7, 8, 9, 10] (sFor (hCons (oN 1) hNil) mkAny wg2_spread wb2_spread [6, 7, 8, 9, 10])))
theorem e_wb3_spread (E : En) : wb3_spread E = (sSeq (sAsg (xC (.bl false)) (gSet 5))
  (sK [6, 7, 8, 9, 10] (sFor (hCons (oN 1) hNil) mkAny wg2_spread wb2_spread [6, 7, 8, 9, 10]))) E := nr rfl
def b_spread : Sm := (sSeq (sPar 4 5 (xCons (op2 addD (oV (dLst (xCons (xSh 2) xNil))) (oV (opN listD (hCons (oN 3) hNil)))) (xCons (xC (.bl true)) xNil)))
  (sSeq (sK [6, 7, 8, 9, 10] (sWhile wc3_spread wb3_spread [6, 7, 8, 9, 10] fu))
  (sRet (opN tupleD (hCons (oV (opSl slD (oN 4) (some (intNow (oV (xC (.int (1)))))) none)) hNil)))))
def m_spread : Fm := fnM 11 [true, true, true, true] b_spread
theorem sc_spread : FnScope ["land", "let", "sea", "fields", "found", "is_new", "at", "one", "other", "place", "behind"] ["land", "let", "sea", "fields"] (defScope s_spread) := ⟨rfl, rfl, rfl, by decide +kernel, rfl, by decide +kernel, by decide +kernel⟩
theorem bd_spread {K : PySem.W.Frag} {f : Addr} {fd : FuncData} (F : Fun K "spread" "spread" s_spread f fd) : Binds K fd ["land", "let", "sea", "fields"] [] := F.binds fun _ _ _ _ _ _ us hl => match us, hl with | [_, _, _, _], _ => rfl
abbrev s_passes : Stmt := topS 44
def b_passes : Sm := (sRet (orX (op2 niK (oN 1) (oN 0)) (op2 leD (oV (op2 ixK (oN 0) (oN 1))) (oN 2))))
def m_passes : Fm := fnM 3 [true, true, true] b_passes
theorem sc_passes : FnScope ["hours", "stretch", "hour"] ["hours", "stretch", "hour"] (defScope s_passes) := ⟨rfl, rfl, rfl, by decide +kernel, rfl, by decide +kernel, by decide +kernel⟩
theorem bd_passes {K : PySem.W.Frag} {f : Addr} {fd : FuncData} (F : Fun K "passes" "passes" s_passes f fd) : Binds K fd ["hours", "stretch", "hour"] [] := F.binds fun _ _ _ _ _ _ us hl => match us, hl with | [_, _, _], _ => rfl
abbrev s_levels_from : Stmt := topS 47
def cg1_levels_from : Gm := (gSet 8)
theorem e_cg1_levels_from (v : D) (E : En) : cg1_levels_from v E = (gSet 8) v E := nr rfl
def ct1_levels_from : Tx := (toB (xCall m_passes (hCons (oN 2) (hCons (oN 8) (hCons (oN 5) hNil)))))
theorem e_ct1_levels_from (E : En) : ct1_levels_from E = (toB (xCall m_passes (hCons (oN 2) (hCons (oN 8) (hCons (oN 5) hNil))))) E := nr rfl
def ce1_levels_from : Ex := (xTk 8)
theorem e_ce1_levels_from (E : En) : ce1_levels_from E = (xTk 8) E := nr rfl
def wg2_levels_from : Gm := (gTup' 2 (gOne (gSet 5) (gOne (gSet 6) gNo)))
theorem e_wg2_levels_from (v : D) (E : En) : wg2_levels_from v E = (gTup' 2 (gOne (gSet 5) (gOne (gSet 6) gNo))) v E := nr rfl
def wb2_levels_from : Sm := (sSeq (sAsg (xComp (hCons (oV (opN lenD (hCons (oV (op2 ixD (oN 0) (oV (xC (.int (2)))))) hNil))) hNil) mkRng1 [8] cg1_levels_from ct1_levels_from ce1_levels_from) (gSet 7))
  (sSeq (sAsg (xCall m_spread (hCons (oN 0) (hCons (oN 7) (hCons (oN 6) (hCons (oN 4) hNil))))) (gSet 4))
  (sDrop (xAppend 3 (xCons (xSh 4) xNil)))))
theorem e_wb2_levels_from (E : En) : wb2_levels_from E = (sSeq (sAsg (xComp (hCons (oV (opN lenD (hCons (oV (op2 ixD (oN 0) (oV (xC (.int (2)))))) hNil))) hNil) mkRng1 [8] cg1_levels_from ct1_levels_from ce1_levels_from) (gSet 7))
  (sSeq (sAsg (xCall m_spread (hCons (oN 0) (hCons (oN 7) (hCons (oN 6) (hCons (oN 4) hNil))))) (gSet 4))
  (sDrop (xAppend 3 (xCons (xSh 4) xNil))))) E := nr rfl
def b_levels_from : Sm := (sSeq (sPar 3 4 (xCons (dLst xNil) (xCons (opN tupleD (hCons (oV (op2 mulDT (oV (dLst (xCons (xC .non) xNil))) (oV (opN lenD (hCons (oV (op2 ixD (oN 0) (oV (xC (.int (1)))))) hNil))))) hNil)) xNil)))
  (sSeq (sK [5, 6, 7, 8] (sFor (hCons (oN 1) hNil) mkEnumA wg2_levels_from wb2_levels_from [5, 6, 7, 8]))
  (sRet (xTk 3))))
def m_levels_from : Fm := fnM 9 [true, true, true] b_levels_from
theorem sc_levels_from : FnScope ["land", "heights", "hours", "found", "fields", "hour", "height", "let", "at"] ["land", "heights", "hours"] (defScope s_levels_from) := ⟨rfl, rfl, rfl, by decide +kernel, rfl, by decide +kernel, by decide +kernel⟩
theorem bd_levels_from {K : PySem.W.Frag} {f : Addr} {fd : FuncData} (F : Fun K "levels_from" "levels_from" s_levels_from f fd) : Binds K fd ["land", "heights", "hours"] [] := F.binds fun _ _ _ _ _ _ us hl => match us, hl with | [_, _, _], _ => rfl
abbrev s_heights_by : Stmt := topS 42
def cg1_heights_by : Gm := (gSet 1)
theorem e_cg1_heights_by (v : D) (E : En) : cg1_heights_by v E = (gSet 1) v E := nr rfl
def ct1_heights_by : Tx := (toB (op2 eqE (oV (op2 ixD (oN 1) (oV (xC (.int (0)))))) (oV (xC (.str (S [104, 111, 117, 114]))))))
theorem e_ct1_heights_by (E : En) : ct1_heights_by E = (toB (op2 eqE (oV (op2 ixD (oN 1) (oV (xC (.int (0)))))) (oV (xC (.str (S [104, 111, 117, 114])))))) E := nr rfl
def ce1_heights_by : Ex := (op2 ixD (oN 1) (oV (xC (.int (1)))))
theorem e_ce1_heights_by (E : En) : ce1_heights_by E = (op2 ixD (oN 1) (oV (xC (.int (1))))) E := nr rfl
def b_heights_by : Sm := (sRet (xComp (hCons (oN 0) hNil) mkAny [1] cg1_heights_by ct1_heights_by ce1_heights_by))
def m_heights_by : Fm := fnM 2 [true] b_heights_by
theorem sc_heights_by : FnScope ["storm", "one"] ["storm"] (defScope s_heights_by) := ⟨rfl, rfl, rfl, by decide +kernel, rfl, by decide +kernel, by decide +kernel⟩
theorem bd_heights_by {K : PySem.W.Frag} {f : Addr} {fd : FuncData} (F : Fun K "heights_by" "heights_by" s_heights_by f fd) : Binds K fd ["storm"] [] := F.binds fun _ _ _ _ _ _ us hl => match us, hl with | [_], _ => rfl
abbrev s_hours_by : Stmt := topS 43
def cg1_hours_by : Gm := (gSet 6)
theorem e_cg1_hours_by (v : D) (E : En) : cg1_hours_by v E = (gSet 6) v E := nr rfl
def ct1_hours_by : Tx := tYesT
theorem e_ct1_hours_by (E : En) : ct1_hours_by E = tYesT E := nr rfl
def ce1_hours_by : Ex := (dTup (xCons (xTk 6) (xCons (opN lenD (hCons (oV (xCall m_heights_by (hCons (oN 1) hNil))) hNil)) xNil)))
theorem e_ce1_hours_by (E : En) : ce1_hours_by E = (dTup (xCons (xTk 6) (xCons (opN lenD (hCons (oV (xCall m_heights_by (hCons (oN 1) hNil))) hNil)) xNil))) E := nr rfl
def wg2_hours_by : Gm := (gTup' 2 (gOne (gSet 4) (gOne (gSet 5) gNo)))
theorem e_wg2_hours_by (v : D) (E : En) : wg2_hours_by v E = (gTup' 2 (gOne (gSet 4) (gOne (gSet 5) gNo))) v E := nr rfl
def wb2_hours_by : Sm := (sIf (toB (op2 eqE (oN 4) (oV (xC (.str (S [104, 111, 117, 114])))))) (sAsg (op2 addD (oN 3) (oV (xC (.int (1))))) (gSet 3)) (sAsg (xSh 3) (gKy 2 (oN 5))))
theorem e_wb2_hours_by (E : En) : wb2_hours_by E = (sIf (toB (op2 eqE (oN 4) (oV (xC (.str (S [104, 111, 117, 114])))))) (sAsg (op2 addD (oN 3) (oV (xC (.int (1))))) (gSet 3)) (sAsg (xSh 3) (gKy 2 (oN 5)))) E := nr rfl
def b_hours_by : Sm := (sSeq (sPar 2 3 (xCons (opN dictD (hCons (oV (xComp (hCons (oN 0) hNil) mkAny [6] cg1_hours_by ct1_hours_by ce1_hours_by)) hNil)) (xCons (xC (.int (0))) xNil)))
  (sSeq (sK [4, 5] (sFor (hCons (oN 1) hNil) mkAny wg2_hours_by wb2_hours_by [4, 5]))
  (sRet (xTk 2))))
def m_hours_by : Fm := fnM 7 [true, true] b_hours_by
theorem sc_hours_by : FnScope ["plan", "storm", "found", "hour", "word", "told", "at"] ["plan", "storm"] (defScope s_hours_by) := ⟨rfl, rfl, rfl, by decide +kernel, rfl, by decide +kernel, by decide +kernel⟩
theorem bd_hours_by {K : PySem.W.Frag} {f : Addr} {fd : FuncData} (F : Fun K "hours_by" "hours_by" s_hours_by f fd) : Binds K fd ["plan", "storm"] [] := F.binds fun _ _ _ _ _ _ us hl => match us, hl with | [_, _], _ => rfl
abbrev s_levels_by : Stmt := topS 48
def b_levels_by : Sm := (sRet (xCall m_levels_from (hCons (oN 0) (hCons (oV (xCall m_heights_by (hCons (oN 2) hNil))) (hCons (oV (xCall m_hours_by (hCons (oN 1) (hCons (oN 2) hNil)))) hNil)))))
def m_levels_by : Fm := fnM 3 [true, true, true] b_levels_by
theorem sc_levels_by : FnScope ["land", "plan", "storm"] ["land", "plan", "storm"] (defScope s_levels_by) := ⟨rfl, rfl, rfl, by decide +kernel, rfl, by decide +kernel, by decide +kernel⟩
theorem bd_levels_by {K : PySem.W.Frag} {f : Addr} {fd : FuncData} (F : Fun K "levels_by" "levels_by" s_levels_by f fd) : Binds K fd ["land", "plan", "storm"] [] := F.binds fun _ _ _ _ _ _ us hl => match us, hl with | [_, _, _], _ => rfl
abbrev s_levels : Stmt := topS 54
def b_levels : Sm := (sSeq (sDrop (xCall m_check_storm (hCons (oN 0) (hCons (oN 1) (hCons (oN 2) hNil)))))
  (sRet (xCall m_levels_by (hCons (oN 0) (hCons (oN 1) (hCons (oN 2) hNil))))))
def m_levels : Fm := fnM 3 [true, true, true] b_levels
theorem sc_levels : FnScope ["land", "plan", "storm"] ["land", "plan", "storm"] (defScope s_levels) := ⟨rfl, rfl, rfl, by decide +kernel, rfl, by decide +kernel, by decide +kernel⟩
theorem bd_levels {K : PySem.W.Frag} {f : Addr} {fd : FuncData} (F : Fun K "levels" "levels" s_levels f fd) : Binds K fd ["land", "plan", "storm"] [] := F.binds fun _ _ _ _ _ _ us hl => match us, hl with | [_, _, _], _ => rfl
theorem kb_levels_0_storm_plan_land {K : PySem.W.Frag} {f : Addr} {fd : FuncData} (F : Fun K "levels" "levels" s_levels f fd) : KB K fd ["land", "plan", "storm"] ["storm", "plan", "land"] 0 [2, 1, 0] := kb_of F fun _ _ _ _ _ _ us ws h1 h2 => match us, ws, h1, h2 with | [], [_, _, _], _, _ => rfl
abbrev s__law_heights : Stmt := topS 66
def cg1__law_heights : Gm := (gSet 1)
theorem e_cg1__law_heights (v : D) (E : En) : cg1__law_heights v E = (gSet 1) v E := nr rfl
def ct1__law_heights : Tx := (toB (op2 eqE (oV (op2 ixD (oN 1) (oV (xC (.int (0)))))) (oV (xC (.str (S [104, 111, 117, 114]))))))
theorem e_ct1__law_heights (E : En) : ct1__law_heights E = (toB (op2 eqE (oV (op2 ixD (oN 1) (oV (xC (.int (0)))))) (oV (xC (.str (S [104, 111, 117, 114])))))) E := nr rfl
def ce1__law_heights : Ex := (op2 ixD (oN 1) (oV (xC (.int (1)))))
theorem e_ce1__law_heights (E : En) : ce1__law_heights E = (op2 ixD (oN 1) (oV (xC (.int (1))))) E := nr rfl
def b__law_heights : Sm := (sRet (xComp (hCons (oN 0) hNil) mkAny [1] cg1__law_heights ct1__law_heights ce1__law_heights))
def m__law_heights : Fm := fnM 2 [true] b__law_heights
theorem sc__law_heights : FnScope ["storm", "step"] ["storm"] (defScope s__law_heights) := ⟨rfl, rfl, rfl, by decide +kernel, rfl, by decide +kernel, by decide +kernel⟩
theorem bd__law_heights {K : PySem.W.Frag} {f : Addr} {fd : FuncData} (F : Fun K "_law_heights" "_law_heights" s__law_heights f fd) : Binds K fd ["storm"] [] := F.binds fun _ _ _ _ _ _ us hl => match us, hl with | [_], _ => rfl
abbrev s__law_hours : Stmt := topS 67
def cg1__law_hours : Gm := (gSet 8)
theorem e_cg1__law_hours (v : D) (E : En) : cg1__law_hours v E = (gSet 8) v E := nr rfl
def ct1__law_hours : Tx := tYesT
theorem e_ct1__law_hours (E : En) : ct1__law_hours E = tYesT E := nr rfl
def ce1__law_hours : Ex := (ifX (toB (op2 notInD (oN 8) (oN 1))) (xC (.int (0))) (xSh 3))
theorem e_ce1__law_hours (E : En) : ce1__law_hours E = (ifX (toB (op2 notInD (oN 8) (oN 1))) (xC (.int (0))) (xSh 3)) E := nr rfl
def wg2__law_hours : Gm := (gTup' 2 (gOne (gSet 6) (gOne (gSet 7) gNo)))
theorem e_wg2__law_hours (v : D) (E : En) : wg2__law_hours v E = (gTup' 2 (gOne (gSet 6) (gOne (gSet 7) gNo))) v E := nr rfl
def wb2__law_hours : Sm := (sIf (toB (op2 eqE (oN 6) (oV (xC (.str (S [104, 111, 117, 114])))))) (sAsg (op2 addD (oN 5) (oV (xC (.int (1))))) (gSet 5)) (sAsg (xSh 5) (gIx 4 (oN 7))))
theorem e_wb2__law_hours (E : En) : wb2__law_hours E = (sIf (toB (op2 eqE (oN 6) (oV (xC (.str (S [104, 111, 117, 114])))))) (sAsg (op2 addD (oN 5) (oV (xC (.int (1))))) (gSet 5)) (sAsg (xSh 5) (gIx 4 (oN 7)))) E := nr rfl
def b__law_hours : Sm := (sSeq (sAsg (opN lenD (hCons (oV (xCall m__law_heights (hCons (oN 2) hNil))) hNil)) (gSet 3))
  (sSeq (sPar 4 5 (xCons (xComp (hCons (oV (opN lenD (hCons (oV (op2 ixD (oN 0) (oV (xC (.int (2)))))) hNil))) hNil) mkRng1 [8] cg1__law_hours ct1__law_hours ce1__law_hours) (xCons (xC (.int (0))) xNil)))
  (sSeq (sK [6, 7] (sFor (hCons (oN 2) hNil) mkAny wg2__law_hours wb2__law_hours [6, 7]))
  (sRet (xTk 4)))))
def m__law_hours : Fm := fnM 9 [true, true, true] b__law_hours
theorem sc__law_hours : FnScope ["land", "plan", "storm", "many", "found", "hour", "word", "number", "at"] ["land", "plan", "storm"] (defScope s__law_hours) := ⟨rfl, rfl, rfl, by decide +kernel, rfl, by decide +kernel, by decide +kernel⟩
theorem bd__law_hours {K : PySem.W.Frag} {f : Addr} {fd : FuncData} (F : Fun K "_law_hours" "_law_hours" s__law_hours f fd) : Binds K fd ["land", "plan", "storm"] [] := F.binds fun _ _ _ _ _ _ us hl => match us, hl with | [_, _, _], _ => rfl
abbrev s__law_same : Stmt := topS 61
def cg1__law_same (mr : Fm) : Gm := (gTup' 2 (gOne (gSet 2) (gOne (gSet 3) gNo)))
theorem e_cg1__law_same (mr : Fm) (v : D) (E : En) : cg1__law_same mr v E = (gTup' 2 (gOne (gSet 2) (gOne (gSet 3) gNo))) v E := nr rfl
def ct1__law_same (mr : Fm) : Tx := tYesT
theorem e_ct1__law_same (mr : Fm) (E : En) : ct1__law_same mr E = tYesT E := nr rfl
def ce1__law_same (mr : Fm) : Ex := (xCall mr (hCons (oN 2) (hCons (oN 3) hNil)))
theorem e_ce1__law_same (mr : Fm) (E : En) : ce1__law_same mr E = (xCall mr (hCons (oN 2) (hCons (oN 3) hNil))) E := nr rfl
def cg2__law_same (mr : Fm) : Gm := (gTup' 2 (gOne (gSet 2) (gOne (gSet 3) gNo)))
theorem e_cg2__law_same (mr : Fm) (v : D) (E : En) : cg2__law_same mr v E = (gTup' 2 (gOne (gSet 2) (gOne (gSet 3) gNo))) v E := nr rfl
def ct2__law_same (mr : Fm) : Tx := tYesT
theorem e_ct2__law_same (mr : Fm) (E : En) : ct2__law_same mr E = tYesT E := nr rfl
def ce2__law_same (mr : Fm) : Ex := (xCall mr (hCons (oN 2) (hCons (oN 3) hNil)))
theorem e_ce2__law_same (mr : Fm) (E : En) : ce2__law_same mr E = (xCall mr (hCons (oN 2) (hCons (oN 3) hNil))) E := nr rfl
def b__law_same (mr : Fm) : Sm := (sSeq (sIf (toB (op2 isNon (oN 1) (oV (xC .non)))) (sRet (op2 isNon (oN 0) (oV (xC .non)))) sSkip)
  (sSeq (sIf (toB (op1 (isD "bool") (oN 1))) (sRet (andX (op1 (isD "bool") (oN 0)) (op2 eqE (oN 0) (oN 1)))) sSkip)
  (sSeq (sIf (toB (op1 (isD "str") (oN 1))) (sRet (andX (op1 (isD "str") (oN 0)) (op2 eqE (oN 0) (oN 1)))) sSkip)
  (sSeq (sIf (toB (op1 (isD "int") (oN 1))) (sRet (andX (op1 (isD "int") (oN 0)) (andX (notX (op1 (isD "bool") (oN 0))) (op2 eqE (oN 0) (oN 1))))) sSkip)
  (sSeq (sIf (toB (op1 (isD "tuple") (oN 1))) (sSeq (sIf (orT (notT (toB (op1 (isD "tuple") (oN 0)))) (toB (op2 neE (oV (opN lenD (hCons (oN 0) hNil))) (oV (opN lenD (hCons (oN 1) hNil)))))) (sRet (xC (.bl false))) sSkip)
  (sRet (opN allD (hCons (oV (xComp (hCons (oN 0) (hCons (oN 1) hNil)) mkZipA [2, 3] (cg1__law_same mr) (ct1__law_same mr) (ce1__law_same mr))) hNil)))) sSkip)
  (sSeq (sIf (toB (op1 (isD "list") (oN 1))) (sSeq (sIf (orT (notT (toB (op1 (isD "list") (oN 0)))) (toB (op2 neE (oV (opN lenD (hCons (oN 0) hNil))) (oV (opN lenD (hCons (oN 1) hNil)))))) (sRet (xC (.bl false))) sSkip)
  (sRet (opN allD (hCons (oV (xComp (hCons (oN 0) (hCons (oN 1) hNil)) mkZipA [2, 3] (cg2__law_same mr) (ct2__law_same mr) (ce2__law_same mr))) hNil)))) sSkip)
  (sRet (op2 eqE (oN 0) (oN 1)))))))))
def mr__law_same : Nat → Fm
  | 0 => mNone
  | n + 1 => fnM 4 [true, true] (b__law_same (mr__law_same n))
abbrev m__law_same : Fm := mr__law_same 8
theorem sc__law_same : FnScope ["told", "due", "near", "far"] ["told", "due"] (defScope s__law_same) := ⟨rfl, rfl, rfl, by decide +kernel, rfl, by decide +kernel, by decide +kernel⟩
theorem bd__law_same {K : PySem.W.Frag} {f : Addr} {fd : FuncData} (F : Fun K "_law_same" "_law_same" s__law_same f fd) : Binds K fd ["told", "due"] [] := F.binds fun _ _ _ _ _ _ us hl => match us, hl with | [_, _], _ => rfl
abbrev s__law_first : Stmt := topS 69
def cg1__law_first : Gm := (gTup' 2 (gOne (gSet 4) (gOne (gSet 5) gNo)))
theorem e_cg1__law_first (v : D) (E : En) : cg1__law_first v E = (gTup' 2 (gOne (gSet 4) (gOne (gSet 5) gNo))) v E := nr rfl
def ct1__law_first : Tx := (andT (toB (op2 notNon (oV (op2 ixD (oN 5) (oV (op2 subD (oN 1) (oV (xC (.int (1)))))))) (oV (xC .non)))) (toB (op2 geD (oV (op2 ixD (oN 5) (oV (op2 subD (oN 1) (oV (xC (.int (1)))))))) (oN 2))))
theorem e_ct1__law_first (E : En) : ct1__law_first E = (andT (toB (op2 notNon (oV (op2 ixD (oN 5) (oV (op2 subD (oN 1) (oV (xC (.int (1)))))))) (oV (xC .non)))) (toB (op2 geD (oV (op2 ixD (oN 5) (oV (op2 subD (oN 1) (oV (xC (.int (1)))))))) (oN 2)))) E := nr rfl
def ce1__law_first : Ex := (xTk 4)
theorem e_ce1__law_first (E : En) : ce1__law_first E = (xTk 4) E := nr rfl
def b__law_first : Sm := (sSeq (sAsg (xComp (hCons (oN 0) hNil) mkEnumA [4, 5] cg1__law_first ct1__law_first ce1__law_first) (gSet 3))
  (sRet (ifX (toB (op2 neE (oN 3) (oV (dLst xNil)))) (op2 ixD (oN 3) (oV (xC (.int (0))))) (xC .non))))
def m__law_first : Fm := fnM 6 [true, true, true] b__law_first
theorem sc__law_first : FnScope ["due", "place", "level", "some", "hour", "row"] ["due", "place", "level"] (defScope s__law_first) := ⟨rfl, rfl, rfl, by decide +kernel, rfl, by decide +kernel, by decide +kernel⟩
theorem bd__law_first {K : PySem.W.Frag} {f : Addr} {fd : FuncData} (F : Fun K "_law_first" "_law_first" s__law_first f fd) : Binds K fd ["due", "place", "level"] [] := F.binds fun _ _ _ _ _ _ us hl => match us, hl with | [_, _, _], _ => rfl
abbrev s__law_more : Stmt := topS 70
def cg1__law_more : Gm := (gSet 4)
theorem e_cg1__law_more (v : D) (E : En) : cg1__law_more v E = (gSet 4) v E := nr rfl
def ct1__law_more : Tx := (andT (toB (op2 eqE (oV (op2 ixD (oN 4) (oV (xC (.int (0)))))) (oV (xC (.str (S [103, 111, 110, 101])))))) (toB (op2 eqE (oV (xCall m__law_draw (hCons (oN 0) (hCons (oV (xC (.int (2)))) hNil)))) (oV (xC (.int (0)))))))
theorem e_ct1__law_more (E : En) : ct1__law_more E = (andT (toB (op2 eqE (oV (op2 ixD (oN 4) (oV (xC (.int (0)))))) (oV (xC (.str (S [103, 111, 110, 101])))))) (toB (op2 eqE (oV (xCall m__law_draw (hCons (oN 0) (hCons (oV (xC (.int (2)))) hNil)))) (oV (xC (.int (0))))))) E := nr rfl
def ce1__law_more : Ex := (xTk 4)
theorem e_ce1__law_more (E : En) : ce1__law_more E = (xTk 4) E := nr rfl
def wg2__law_more : Gm := (gSet 4)
theorem e_wg2__law_more (v : D) (E : En) : wg2__law_more v E = (gSet 4) v E := nr rfl
def wb2__law_more : Sm := (sIf (toB (op2 eqE (oV (op2 ixD (oN 4) (oV (xC (.int (0)))))) (oV (xC (.str (S [104, 111, 117, 114])))))) (sDrop (xAppend 2 (xCons (dTup (xCons (xC (.str (S [104, 111, 117, 114]))) (xCons (op2 addD (oV (op2 ixD (oN 4) (oV (xC (.int (1)))))) (oV (xCall m__law_draw (hCons (oN 0) (hCons (oV (xC (.int (3)))) hNil))))) xNil))) xNil))) (sIf (toB (op2 notInD (oN 4) (oN 3))) (sDrop (xAppend 2 (xCons (xTk 4) xNil))) sSkip))
theorem e_wb2__law_more (E : En) : wb2__law_more E = (sIf (toB (op2 eqE (oV (op2 ixD (oN 4) (oV (xC (.int (0)))))) (oV (xC (.str (S [104, 111, 117, 114])))))) (sDrop (xAppend 2 (xCons (dTup (xCons (xC (.str (S [104, 111, 117, 114]))) (xCons (op2 addD (oV (op2 ixD (oN 4) (oV (xC (.int (1)))))) (oV (xCall m__law_draw (hCons (oN 0) (hCons (oV (xC (.int (3)))) hNil))))) xNil))) xNil))) (sIf (toB (op2 notInD (oN 4) (oN 3))) (sDrop (xAppend 2 (xCons (xTk 4) xNil))) sSkip)) E := nr rfl
def b__law_more : Sm := (sSeq (sPar 2 3 (xCons (dLst xNil) (xCons (xComp (hCons (oN 1) hNil) mkAny [4] cg1__law_more ct1__law_more ce1__law_more) xNil)))
  (sSeq (sK [4] (sFor (hCons (oN 1) hNil) mkAny wg2__law_more wb2__law_more [4]))
  (sRet (op2 addD (oN 3) (oN 2)))))
def m__law_more : Fm := fnM 5 [true, true] b__law_more
theorem sc__law_more : FnScope ["pot", "storm", "found", "gone", "step"] ["pot", "storm"] (defScope s__law_more) := ⟨rfl, rfl, rfl, by decide +kernel, rfl, by decide +kernel, by decide +kernel⟩
theorem bd__law_more {K : PySem.W.Frag} {f : Addr} {fd : FuncData} (F : Fun K "_law_more" "_law_more" s__law_more f fd) : Binds K fd ["pot", "storm"] [] := F.binds fun _ _ _ _ _ _ us hl => match us, hl with | [_, _], _ => rfl
abbrev s_heights_of : Stmt := topS 53
def b_heights_of : Sm := (sSeq (sDrop (xCall m_check_storm (hCons (oN 0) (hCons (oN 1) (hCons (oN 2) hNil)))))
  (sRet (xCall m_heights_by (hCons (oN 2) hNil))))
def m_heights_of : Fm := fnM 3 [true, true, true] b_heights_of
theorem sc_heights_of : FnScope ["land", "plan", "storm"] ["land", "plan", "storm"] (defScope s_heights_of) := ⟨rfl, rfl, rfl, by decide +kernel, rfl, by decide +kernel, by decide +kernel⟩
theorem bd_heights_of {K : PySem.W.Frag} {f : Addr} {fd : FuncData} (F : Fun K "heights_of" "heights_of" s_heights_of f fd) : Binds K fd ["land", "plan", "storm"] [] := F.binds fun _ _ _ _ _ _ us hl => match us, hl with | [_, _, _], _ => rfl
theorem kb_heights_of_0_storm_plan_land {K : PySem.W.Frag} {f : Addr} {fd : FuncData} (F : Fun K "heights_of" "heights_of" s_heights_of f fd) : KB K fd ["land", "plan", "storm"] ["storm", "plan", "land"] 0 [2, 1, 0] := kb_of F fun _ _ _ _ _ _ us ws h1 h2 => match us, ws, h1, h2 with | [], [_, _, _], _, _ => rfl
abbrev s_check_hour : Stmt := topS 52
def b_check_hour : Sm := (sIf (notT (toB (xCall m_is_position (hCons (oN 1) (hCons (oV (opN lenD (hCons (oV (xCall m_heights_by (hCons (oN 0) hNil))) hNil))) hNil))))) sNever sSkip)
def m_check_hour : Fm := fnM 2 [true, true] b_check_hour
theorem sc_check_hour : FnScope ["storm", "hour"] ["storm", "hour"] (defScope s_check_hour) := ⟨rfl, rfl, rfl, by decide +kernel, rfl, by decide +kernel, by decide +kernel⟩
theorem bd_check_hour {K : PySem.W.Frag} {f : Addr} {fd : FuncData} (F : Fun K "check_hour" "check_hour" s_check_hour f fd) : Binds K fd ["storm", "hour"] [] := F.binds fun _ _ _ _ _ _ us hl => match us, hl with | [_, _], _ => rfl
abbrev s_gone_by : Stmt := topS 55
def cg1_gone_by : Gm := (gTup' 2 (gOne (gSet 4) (gOne (gSet 5) gNo)))
theorem e_cg1_gone_by (v : D) (E : En) : cg1_gone_by v E = (gTup' 2 (gOne (gSet 4) (gOne (gSet 5) gNo))) v E := nr rfl
def ct1_gone_by : Tx := (toB (op2 leD (oN 5) (oN 3)))
theorem e_ct1_gone_by (E : En) : ct1_gone_by E = (toB (op2 leD (oN 5) (oN 3))) E := nr rfl
def ce1_gone_by : Ex := (xTk 4)
theorem e_ce1_gone_by (E : En) : ce1_gone_by E = (xTk 4) E := nr rfl
def b_gone_by : Sm := (sSeq (sDrop (xCall m_check_storm (hCons (oN 0) (hCons (oN 1) (hCons (oN 2) hNil)))))
  (sSeq (sDrop (xCall m_check_hour (hCons (oN 2) (hCons (oN 3) hNil))))
  (sRet (opN tupleD (hCons (oV (xComp (hCons (oV (op1 sortItD (oV (xCall m_hours_by (hCons (oN 1) (hCons (oN 2) hNil)))))) hNil) mkAny [4, 5] cg1_gone_by ct1_gone_by ce1_gone_by)) hNil)))))
def m_gone_by : Fm := fnM 6 [true, true, true, true] b_gone_by
theorem sc_gone_by : FnScope ["land", "plan", "storm", "hour", "at", "first"] ["land", "plan", "storm", "hour"] (defScope s_gone_by) := ⟨rfl, rfl, rfl, by decide +kernel, rfl, by decide +kernel, by decide +kernel⟩
theorem bd_gone_by {K : PySem.W.Frag} {f : Addr} {fd : FuncData} (F : Fun K "gone_by" "gone_by" s_gone_by f fd) : Binds K fd ["land", "plan", "storm", "hour"] [] := F.binds fun _ _ _ _ _ _ us hl => match us, hl with | [_, _, _, _], _ => rfl
theorem kb_gone_by_0_hour_storm_plan_land {K : PySem.W.Frag} {f : Addr} {fd : FuncData} (F : Fun K "gone_by" "gone_by" s_gone_by f fd) : KB K fd ["land", "plan", "storm", "hour"] ["hour", "storm", "plan", "land"] 0 [3, 2, 1, 0] := kb_of F fun _ _ _ _ _ _ us ws h1 h2 => match us, ws, h1, h2 with | [], [_, _, _, _], _, _ => rfl
abbrev s__law_is_less : Stmt := topS 71
def b__law_is_less : Sm := (sRet (andX (op2 notNon (oN 1) (oV (xC .non))) (orX (op2 isNon (oN 0) (oV (xC .non))) (op2 ltD (oN 0) (oN 1)))))
def m__law_is_less : Fm := fnM 2 [true, true] b__law_is_less
theorem sc__law_is_less : FnScope ["one", "other"] ["one", "other"] (defScope s__law_is_less) := ⟨rfl, rfl, rfl, by decide +kernel, rfl, by decide +kernel, by decide +kernel⟩
theorem bd__law_is_less {K : PySem.W.Frag} {f : Addr} {fd : FuncData} (F : Fun K "_law_is_less" "_law_is_less" s__law_is_less f fd) : Binds K fd ["one", "other"] [] := F.binds fun _ _ _ _ _ _ us hl => match us, hl with | [_, _], _ => rfl
abbrev s_many_places : Stmt := topS 33
def b_many_places : Sm := (sRet (op2 addD (oV (opN lenD (hCons (oV (op2 ixD (oN 0) (oV (xC (.int (1)))))) hNil))) (oV (xC (.int (1))))))
def m_many_places : Fm := fnM 1 [true] b_many_places
theorem sc_many_places : FnScope ["land"] ["land"] (defScope s_many_places) := ⟨rfl, rfl, rfl, by decide +kernel, rfl, by decide +kernel, by decide +kernel⟩
theorem bd_many_places {K : PySem.W.Frag} {f : Addr} {fd : FuncData} (F : Fun K "many_places" "many_places" s_many_places f fd) : Binds K fd ["land"] [] := F.binds fun _ _ _ _ _ _ us hl => match us, hl with | [_], _ => rfl
abbrev s_check_place : Stmt := topS 31
def b_check_place : Sm := (sIf (notT (toB (xCall m_is_position (hCons (oN 1) (hCons (oV (xCall m_many_places (hCons (oN 0) hNil))) hNil))))) sNever sSkip)
def m_check_place : Fm := fnM 2 [true, true] b_check_place
theorem sc_check_place : FnScope ["land", "place"] ["land", "place"] (defScope s_check_place) := ⟨rfl, rfl, rfl, by decide +kernel, rfl, by decide +kernel, by decide +kernel⟩
theorem bd_check_place {K : PySem.W.Frag} {f : Addr} {fd : FuncData} (F : Fun K "check_place" "check_place" s_check_place f fd) : Binds K fd ["land", "place"] [] := F.binds fun _ _ _ _ _ _ us hl => match us, hl with | [_, _], _ => rfl
abbrev s_check_field : Stmt := topS 50
def b_check_field : Sm := (sSeq (sDrop (xCall m_check_place (hCons (oN 0) (hCons (oN 1) hNil))))
  (sIf (toB (op2 eqE (oN 1) (oV (xC (.int (0)))))) sNever sSkip))
def m_check_field : Fm := fnM 2 [true, true] b_check_field
theorem sc_check_field : FnScope ["land", "place"] ["land", "place"] (defScope s_check_field) := ⟨rfl, rfl, rfl, by decide +kernel, rfl, by decide +kernel, by decide +kernel⟩
theorem bd_check_field {K : PySem.W.Frag} {f : Addr} {fd : FuncData} (F : Fun K "check_field" "check_field" s_check_field f fd) : Binds K fd ["land", "place"] [] := F.binds fun _ _ _ _ _ _ us hl => match us, hl with | [_, _], _ => rfl
abbrev s_check_level : Stmt := topS 51
def b_check_level : Sm := (sIf (notT (toB (xCall m_is_between (hCons (oN 0) (hCons (oV (xC (.int (0)))) (hCons (oV (xC (.int (1000)))) hNil)))))) sNever sSkip)
def m_check_level : Fm := fnM 1 [true] b_check_level
theorem sc_check_level : FnScope ["level"] ["level"] (defScope s_check_level) := ⟨rfl, rfl, rfl, by decide +kernel, rfl, by decide +kernel, by decide +kernel⟩
theorem bd_check_level {K : PySem.W.Frag} {f : Addr} {fd : FuncData} (F : Fun K "check_level" "check_level" s_check_level f fd) : Binds K fd ["level"] [] := F.binds fun _ _ _ _ _ _ us hl => match us, hl with | [_], _ => rfl
abbrev s_first_hour : Stmt := topS 56
def cg1_first_hour : Gm := (gTup' 2 (gOne (gSet 7) (gOne (gSet 8) gNo)))
theorem e_cg1_first_hour (v : D) (E : En) : cg1_first_hour v E = (gTup' 2 (gOne (gSet 7) (gOne (gSet 8) gNo))) v E := nr rfl
def ct1_first_hour : Tx := (notT (toB (xCall m_is_less (hCons (oV (op2 ixD (oN 8) (oV (op2 subD (oN 3) (oV (xC (.int (1)))))))) (hCons (oN 4) hNil)))))
theorem e_ct1_first_hour (E : En) : ct1_first_hour E = (notT (toB (xCall m_is_less (hCons (oV (op2 ixD (oN 8) (oV (op2 subD (oN 3) (oV (xC (.int (1)))))))) (hCons (oN 4) hNil))))) E := nr rfl
def ce1_first_hour : Ex := (xTk 7)
theorem e_ce1_first_hour (E : En) : ce1_first_hour E = (xTk 7) E := nr rfl
def b_first_hour : Sm := (sSeq (sDrop (xCall m_check_storm (hCons (oN 0) (hCons (oN 1) (hCons (oN 2) hNil)))))
  (sSeq (sDrop (xCall m_check_field (hCons (oN 0) (hCons (oN 3) hNil))))
  (sSeq (sDrop (xCall m_check_level (hCons (oN 4) hNil)))
  (sSeq (sAsg (xCall m_levels_by (hCons (oN 0) (hCons (oN 1) (hCons (oN 2) hNil)))) (gSet 5))
  (sSeq (sAsg (xComp (hCons (oN 5) hNil) mkEnumA [7, 8] cg1_first_hour ct1_first_hour ce1_first_hour) (gSet 6))
  (sRet (ifX (toB (op2 neE (oN 6) (oV (dLst xNil)))) (op2 ixD (oN 6) (oV (xC (.int (0))))) (xC .non))))))))
def m_first_hour : Fm := fnM 9 [true, true, true, true, true] b_first_hour
theorem sc_first_hour : FnScope ["land", "plan", "storm", "place", "level", "rows", "some", "at", "row"] ["land", "plan", "storm", "place", "level"] (defScope s_first_hour) := ⟨rfl, rfl, rfl, by decide +kernel, rfl, by decide +kernel, by decide +kernel⟩
theorem bd_first_hour {K : PySem.W.Frag} {f : Addr} {fd : FuncData} (F : Fun K "first_hour" "first_hour" s_first_hour f fd) : Binds K fd ["land", "plan", "storm", "place", "level"] [] := F.binds fun _ _ _ _ _ _ us hl => match us, hl with | [_, _, _, _, _], _ => rfl
theorem kb_first_hour_0_level_place_storm_plan_land {K : PySem.W.Frag} {f : Addr} {fd : FuncData} (F : Fun K "first_hour" "first_hour" s_first_hour f fd) : KB K fd ["land", "plan", "storm", "place", "level"] ["level", "place", "storm", "plan", "land"] 0 [4, 3, 2, 1, 0] := kb_of F fun _ _ _ _ _ _ us ws h1 h2 => match us, ws, h1, h2 with | [], [_, _, _, _, _], _, _ => rfl
abbrev s__law_right : Stmt := topS 72
def cg1__law_right : Gm := (gSet 16)
theorem e_cg1__law_right (v : D) (E : En) : cg1__law_right v E = (gSet 16) v E := nr rfl
def ct1__law_right : Tx := (toB (op2 leD (oV (op2 ixD (oN 6) (oN 16))) (oN 9)))
theorem e_ct1__law_right (E : En) : ct1__law_right E = (toB (op2 leD (oV (op2 ixD (oN 6) (oN 16))) (oN 9))) E := nr rfl
def ce1__law_right : Ex := (xTk 16)
theorem e_ce1__law_right (E : En) : ce1__law_right E = (xTk 16) E := nr rfl
def cg2__law_right : Gm := (gSet 17)
theorem e_cg2__law_right (v : D) (E : En) : cg2__law_right v E = (gSet 17) v E := nr rfl
def ct2__law_right : Tx := tYesT
theorem e_ct2__law_right (E : En) : ct2__law_right E = tYesT E := nr rfl
def ce2__law_right : Ex := (andX (op2 notNon (oN 17) (oV (xC .non))) (op2 notInD (oN 17) (oV (opSl slD (oN 5) none (some (intNow (oV (op2 addD (oN 9) (oV (xC (.int (1))))))))))))
theorem e_ce2__law_right (E : En) : ce2__law_right E = (andX (op2 notNon (oN 17) (oV (xC .non))) (op2 notInD (oN 17) (oV (opSl slD (oN 5) none (some (intNow (oV (op2 addD (oN 9) (oV (xC (.int (1)))))))))))) E := nr rfl
def cg3__law_right : Gm := (gTup' 2 (gOne (gSet 17) (gOne (gSet 18) gNo)))
theorem e_cg3__law_right (v : D) (E : En) : cg3__law_right v E = (gTup' 2 (gOne (gSet 17) (gOne (gSet 18) gNo))) v E := nr rfl
def ct3__law_right : Tx := tYesT
theorem e_ct3__law_right (E : En) : ct3__law_right E = tYesT E := nr rfl
def ce3__law_right : Ex := (xCall m__law_is_less (hCons (oN 17) (hCons (oN 18) hNil)))
theorem e_ce3__law_right (E : En) : ce3__law_right E = (xCall m__law_is_less (hCons (oN 17) (hCons (oN 18) hNil))) E := nr rfl
def wg4__law_right : Gm := (gSet 9)
theorem e_wg4__law_right (v : D) (E : En) : wg4__law_right v E = (gSet 9) v E := nr rfl
def wb4__law_right : Sm := (sSeq (sAsg (opN tupleD (hCons (oV (xComp (hCons (oN 3) hNil) mkAny [16] cg1__law_right ct1__law_right ce1__law_right)) hNil)) (gSet 10))
  (sSeq (sIf (notT (toB (xCall m__law_same (hCons (oV (xFrz (dLst (xCons (xCall m_gone_by (hCons (oN 2) (hCons (oN 3) (hCons (oN 4) (hCons (oN 9) hNil))))) (xCons (xCall m_gone_by (hPick 0 4 [3, 2, 1, 0] hNil (hCons (oN 9) (hCons (oN 4) (hCons (oN 3) (hCons (oN 2) hNil)))))) xNil))))) (hCons (oV (xFrz (dLst (xCons (xSh 10) (xCons (xTk 10) xNil))))) hNil))))) (sRet (xC (.bl false))) sSkip)
  (sSeq (sIf (toB (opN anyD (hCons (oV (xComp (hCons (oV (op2 ixD (oN 8) (oN 9))) hNil) mkAny [17] cg2__law_right ct2__law_right ce2__law_right)) hNil))) (sRet (xC (.bl false))) sSkip)
  (sIf (andT (toB (op2 gtD (oN 9) (oV (xC (.int (0)))))) (toB (opN anyD (hCons (oV (xComp (hCons (oV (op2 ixD (oN 8) (oN 9))) (hCons (oV (op2 ixD (oN 8) (oV (op2 subD (oN 9) (oV (xC (.int (1)))))))) hNil)) mkZipA [17, 18] cg3__law_right ct3__law_right ce3__law_right)) hNil)))) (sRet (xC (.bl false))) sSkip))))
theorem e_wb4__law_right (E : En) : wb4__law_right E = (sSeq (sAsg (opN tupleD (hCons (oV (xComp (hCons (oN 3) hNil) mkAny [16] cg1__law_right ct1__law_right ce1__law_right)) hNil)) (gSet 10))
  (sSeq (sIf (notT (toB (xCall m__law_same (hCons (oV (xFrz (dLst (xCons (xCall m_gone_by (hCons (oN 2) (hCons (oN 3) (hCons (oN 4) (hCons (oN 9) hNil))))) (xCons (xCall m_gone_by (hPick 0 4 [3, 2, 1, 0] hNil (hCons (oN 9) (hCons (oN 4) (hCons (oN 3) (hCons (oN 2) hNil)))))) xNil))))) (hCons (oV (xFrz (dLst (xCons (xSh 10) (xCons (xTk 10) xNil))))) hNil))))) (sRet (xC (.bl false))) sSkip)
  (sSeq (sIf (toB (opN anyD (hCons (oV (xComp (hCons (oV (op2 ixD (oN 8) (oN 9))) hNil) mkAny [17] cg2__law_right ct2__law_right ce2__law_right)) hNil))) (sRet (xC (.bl false))) sSkip)
  (sIf (andT (toB (op2 gtD (oN 9) (oV (xC (.int (0)))))) (toB (opN anyD (hCons (oV (xComp (hCons (oV (op2 ixD (oN 8) (oN 9))) (hCons (oV (op2 ixD (oN 8) (oV (op2 subD (oN 9) (oV (xC (.int (1)))))))) hNil)) mkZipA [17, 18] cg3__law_right ct3__law_right ce3__law_right)) hNil)))) (sRet (xC (.bl false))) sSkip)))) E := nr rfl
def wg5__law_right : Gm := (gSet 11)
theorem e_wg5__law_right (v : D) (E : En) : wg5__law_right v E = (gSet 11) v E := nr rfl
def wb5__law_right : Sm := (sSeq (sPar 12 13 (xCons (op2 addD (oV (xC (.int (1)))) (oV (xCall m__law_draw (hCons (oN 1) (hCons (oV (opN lenD (hCons (oV (op2 ixD (oN 2) (oV (xC (.int (1)))))) hNil))) hNil))))) (xCons (xCall m__law_draw (hCons (oN 1) (hCons (oV (xC (.int (13)))) hNil))) xNil)))
  (sSeq (sAsg (xCall m__law_first (hCons (oN 8) (hCons (oN 12) (hCons (oN 13) hNil)))) (gSet 14))
  (sIf (notT (toB (xCall m__law_same (hCons (oV (xFrz (dLst (xCons (xCall m_first_hour (hCons (oN 2) (hCons (oN 3) (hCons (oN 4) (hCons (oN 12) (hCons (oN 13) hNil)))))) (xCons (xCall m_first_hour (hPick 0 5 [4, 3, 2, 1, 0] hNil (hCons (oN 13) (hCons (oN 12) (hCons (oN 4) (hCons (oN 3) (hCons (oN 2) hNil))))))) xNil))))) (hCons (oV (xFrz (dLst (xCons (xSh 14) (xCons (xTk 14) xNil))))) hNil))))) (sRet (xC (.bl false))) sSkip)))
theorem e_wb5__law_right (E : En) : wb5__law_right E = (sSeq (sPar 12 13 (xCons (op2 addD (oV (xC (.int (1)))) (oV (xCall m__law_draw (hCons (oN 1) (hCons (oV (opN lenD (hCons (oV (op2 ixD (oN 2) (oV (xC (.int (1)))))) hNil))) hNil))))) (xCons (xCall m__law_draw (hCons (oN 1) (hCons (oV (xC (.int (13)))) hNil))) xNil)))
  (sSeq (sAsg (xCall m__law_first (hCons (oN 8) (hCons (oN 12) (hCons (oN 13) hNil)))) (gSet 14))
  (sIf (notT (toB (xCall m__law_same (hCons (oV (xFrz (dLst (xCons (xCall m_first_hour (hCons (oN 2) (hCons (oN 3) (hCons (oN 4) (hCons (oN 12) (hCons (oN 13) hNil)))))) (xCons (xCall m_first_hour (hPick 0 5 [4, 3, 2, 1, 0] hNil (hCons (oN 13) (hCons (oN 12) (hCons (oN 4) (hCons (oN 3) (hCons (oN 2) hNil))))))) xNil))))) (hCons (oV (xFrz (dLst (xCons (xSh 14) (xCons (xTk 14) xNil))))) hNil))))) (sRet (xC (.bl false))) sSkip))) E := nr rfl
def cg6__law_right : Gm := (gTup' 2 (gOne (gSet 17) (gOne (gSet 18) gNo)))
theorem e_cg6__law_right (v : D) (E : En) : cg6__law_right v E = (gTup' 2 (gOne (gSet 17) (gOne (gSet 18) gNo))) v E := nr rfl
def ct6__law_right : Tx := tYesT
theorem e_ct6__law_right (E : En) : ct6__law_right E = tYesT E := nr rfl
def ce6__law_right : Ex := (xCall m__law_is_less (hCons (oN 17) (hCons (oN 18) hNil)))
theorem e_ce6__law_right (E : En) : ce6__law_right E = (xCall m__law_is_less (hCons (oN 17) (hCons (oN 18) hNil))) E := nr rfl
def cg7__law_right : Gm := (gTup' 2 (gOne (gSet 19) (gOne (gSet 20) gNo)))
theorem e_cg7__law_right (v : D) (E : En) : cg7__law_right v E = (gTup' 2 (gOne (gSet 19) (gOne (gSet 20) gNo))) v E := nr rfl
def ct7__law_right : Tx := tYesT
theorem e_ct7__law_right (E : En) : ct7__law_right E = tYesT E := nr rfl
def ce7__law_right : Ex := (opN anyD (hCons (oV (xComp (hCons (oN 19) (hCons (oN 20) hNil)) mkZipA [17, 18] cg6__law_right ct6__law_right ce6__law_right)) hNil))
theorem e_ce7__law_right (E : En) : ce7__law_right E = (opN anyD (hCons (oV (xComp (hCons (oN 19) (hCons (oN 20) hNil)) mkZipA [17, 18] cg6__law_right ct6__law_right ce6__law_right)) hNil)) E := nr rfl
def b__law_right : Sm := (sSeq (sAsg (xCall m__law_land (hCons (oN 0) (hCons (oV (xC (.int (4)))) (hCons (oV (xC (.int (3)))) (hCons (oV (xC (.int (9)))) hNil))))) (gSet 2))
  (sSeq (sAsg (xCall m__law_plan (hCons (oN 0) (hCons (oN 2) hNil))) (gSet 3))
  (sSeq (sAsg (xCall m__law_storm (hCons (oN 0) (hCons (oN 3) (hCons (oV (xCall m__law_draw (hCons (oN 0) (hCons (oV (xC (.int (7)))) hNil)))) hNil)))) (gSet 4))
  (sSeq (sAsg (dTup (xCons (xCall m__law_heights (hCons (oN 4) hNil)) (xCons (xCall m__law_hours (hCons (oN 2) (hCons (oN 3) (hCons (oN 4) hNil)))) (xCons (reprL (hCons (oN 2) (hCons (oN 4) hNil))) xNil)))) (gTup' 3 (gOne (gSet 5) (gOne (gSet 6) (gOne (gSet 7) gNo)))))
  (sSeq (sAsg (xCall m__law_levels (hCons (oN 2) (hCons (oN 5) (hCons (oN 6) hNil)))) (gSet 8))
  (sSeq (sIf (notT (toB (xCall m__law_same (hCons (oV (xFrz (dLst (xCons (xCall m_heights_of (hCons (oN 2) (hCons (oN 3) (hCons (oN 4) hNil)))) (xCons (xCall m_heights_of (hPick 0 3 [2, 1, 0] hNil (hCons (oV (opN tupleD (hCons (oN 4) hNil))) (hCons (oN 3) (hCons (oN 2) hNil))))) xNil))))) (hCons (oV (xFrz (dLst (xCons (xSh 5) (xCons (xSh 5) xNil))))) hNil))))) (sRet (xC (.bl false))) sSkip)
  (sSeq (sIf (notT (toB (xCall m__law_same (hCons (oV (xFrz (dLst (xCons (xCall m_levels (hCons (oN 2) (hCons (oN 3) (hCons (oN 4) hNil)))) (xCons (xCall m_levels (hPick 0 3 [2, 1, 0] hNil (hCons (oN 4) (hCons (oN 3) (hCons (oN 2) hNil))))) xNil))))) (hCons (oV (xFrz (dLst (xCons (xSh 8) (xCons (xSh 8) xNil))))) hNil))))) (sRet (xC (.bl false))) sSkip)
  (sSeq (sK [9, 10, 16] (sFor (hCons (oV (opN lenD (hCons (oN 5) hNil))) hNil) mkRng1 wg4__law_right wb4__law_right [9, 10, 16]))
  (sSeq (sK [11, 12, 13, 14] (sFor (hCons (oV (xC (.int (4)))) hNil) mkRng1 wg5__law_right wb5__law_right [11, 12, 13, 14]))
  (sSeq (sAsg (xCall m_levels (hCons (oN 2) (hCons (oN 3) (hCons (oV (xCall m__law_more (hCons (oN 1) (hCons (oN 4) hNil)))) hNil)))) (gSet 15))
  (sSeq (sIf (toB (opN anyD (hCons (oV (xComp (hCons (oN 15) (hCons (oN 8) hNil)) mkZipA [19, 20] cg7__law_right ct7__law_right ce7__law_right)) hNil))) (sRet (xC (.bl false))) sSkip)
  (sSeq (sDrop (xAppT (xCall m_levels (hCons (oN 2) (hCons (oN 3) (hCons (oN 4) hNil)))) (xCons (xC .non) xNil)))
  (sRet (andX (xCall m__law_same (hCons (oV (xFrz (xCall m_levels (hCons (oN 2) (hCons (oN 3) (hCons (oN 4) hNil)))))) (hCons (oV (xSh 8)) hNil))) (op2 eqE (oV (reprL (hCons (oN 2) (hCons (oN 4) hNil)))) (oN 7))))))))))))))))
def m__law_right : Fm := fnM 21 [true, true] b__law_right
theorem sc__law_right : FnScope ["pot", "late", "land", "plan", "storm", "heights", "gone", "shown", "due", "hour", "some", "turn", "place", "level", "first", "more", "at", "one", "other", "near", "far"] ["pot", "late"] (defScope s__law_right) := ⟨rfl, rfl, rfl, by decide +kernel, rfl, by decide +kernel, by decide +kernel⟩
theorem bd__law_right {K : PySem.W.Frag} {f : Addr} {fd : FuncData} (F : Fun K "_law_right" "_law_right" s__law_right f fd) : Binds K fd ["pot", "late"] [] := F.binds fun _ _ _ _ _ _ us hl => match us, hl with | [_, _], _ => rfl
abbrev s_law : Stmt := topS 73
def cg1_law : Gm := (gSet 3)
theorem e_cg1_law (v : D) (E : En) : cg1_law v E = (gSet 3) v E := nr rfl
def ct1_law : Tx := tYesT
theorem e_ct1_law (E : En) : ct1_law E = tYesT E := nr rfl
def ce1_law : Ex := (xCall m__law_right (hCons (oN 1) (hCons (oN 2) hNil)))
theorem e_ce1_law (E : En) : ce1_law E = (xCall m__law_right (hCons (oN 1) (hCons (oN 2) hNil))) E := nr rfl
def b_law : Sm := (sSeq (sAsg (dTup (xCons (xCall m__law_pot (hCons (oN 0) (hCons (oV (xC (.int (0)))) hNil))) (xCons (xCall m__law_pot (hCons (oN 0) (hCons (oV (xC (.int (1)))) hNil))) xNil))) (gTup' 2 (gOne (gSet 1) (gOne (gSet 2) gNo))))
  (sRet (opN allD (hCons (oV (xComp (hCons (oV (xC (.int (5)))) hNil) mkRng1 [3] cg1_law ct1_law ce1_law)) hNil))))
def m_law : Fm := fnM 4 [true] b_law
theorem sc_law : FnScope ["script", "pot", "late", "step"] ["script"] (defScope s_law) := ⟨rfl, rfl, rfl, by decide +kernel, rfl, by decide +kernel, by decide +kernel⟩
theorem bd_law {K : PySem.W.Frag} {f : Addr} {fd : FuncData} (F : Fun K "law" "law" s_law f fd) : Binds K fd ["script"] [] := F.binds fun _ _ _ _ _ _ us hl => match us, hl with | [_], _ => rfl
/-- what the module binds -/
structure Facts (P : Program) (w : World) (K : PySem.W.Frag) (mg : Str → Option Value) : Prop where
  f__law_pot : FnIn K mg "_law_pot" s__law_pot
  f__law_draw : FnIn K mg "_law_draw" s__law_draw
  f__law_land : FnIn K mg "_law_land" s__law_land
  f__law_plan : FnIn K mg "_law_plan" s__law_plan
  f__law_storm : FnIn K mg "_law_storm" s__law_storm
  f__law_sill : FnIn K mg "_law_sill" s__law_sill
  f__law_levels : FnIn K mg "_law_levels" s__law_levels
  f_is_integer : FnIn K mg "is_integer" s_is_integer
  f_is_between : FnIn K mg "is_between" s_is_between
  f_is_count : FnIn K mg "is_count" s_is_count
  f_is_position : FnIn K mg "is_position" s_is_position
  f_is_stretch : FnIn K mg "is_stretch" s_is_stretch
  f_is_name : FnIn K mg "is_name" s_is_name
  f_is_field : FnIn K mg "is_field" s_is_field
  f_is_land : FnIn K mg "is_land" s_is_land
  f_check_land : FnIn K mg "check_land" s_check_land
  f_is_rising : FnIn K mg "is_rising" s_is_rising
  f_is_plan_of : FnIn K mg "is_plan_of" s_is_plan_of
  f_check_plan : FnIn K mg "check_plan" s_check_plan
  f_is_list : FnIn K mg "is_list" s_is_list
  f_is_step : FnIn K mg "is_step" s_is_step
  f_is_storm : FnIn K mg "is_storm" s_is_storm
  f_check_storm : FnIn K mg "check_storm" s_check_storm
  f_ends_of : FnIn K mg "ends_of" s_ends_of
  f_is_less : FnIn K mg "is_less" s_is_less
  f_ground_of : FnIn K mg "ground_of" s_ground_of
  f_sill_at : FnIn K mg "sill_at" s_sill_at
  f_spread : FnIn K mg "spread" s_spread
  f_passes : FnIn K mg "passes" s_passes
  f_levels_from : FnIn K mg "levels_from" s_levels_from
  f_heights_by : FnIn K mg "heights_by" s_heights_by
  f_hours_by : FnIn K mg "hours_by" s_hours_by
  f_levels_by : FnIn K mg "levels_by" s_levels_by
  f_levels : FnIn K mg "levels" s_levels
  f__law_heights : FnIn K mg "_law_heights" s__law_heights
  f__law_hours : FnIn K mg "_law_hours" s__law_hours
  f__law_same : FnIn K mg "_law_same" s__law_same
  f__law_first : FnIn K mg "_law_first" s__law_first
  f__law_more : FnIn K mg "_law_more" s__law_more
  f_heights_of : FnIn K mg "heights_of" s_heights_of
  f_check_hour : FnIn K mg "check_hour" s_check_hour
  f_gone_by : FnIn K mg "gone_by" s_gone_by
  f__law_is_less : FnIn K mg "_law_is_less" s__law_is_less
  f_many_places : FnIn K mg "many_places" s_many_places
  f_check_place : FnIn K mg "check_place" s_check_place
  f_check_field : FnIn K mg "check_field" s_check_field
  f_check_level : FnIn K mg "check_level" s_check_level
  f_first_hour : FnIn K mg "first_hour" s_first_hour
  f__law_right : FnIn K mg "_law_right" s__law_right
  f_law : FnIn K mg "law" s_law
  z_abs : mg "abs" = none
  z_all : mg "all" = none
  z_any : mg "any" = none
  z_bool : mg "bool" = none
  z_dict : mg "dict" = none
  z_divmod : mg "divmod" = none
  z_enumerate : mg "enumerate" = none
  z_int : mg "int" = none
  z_isinstance : mg "isinstance" = none
  z_len : mg "len" = none
  z_list : mg "list" = none
  z_max : mg "max" = none
  z_min : mg "min" = none
  z_range : mg "range" = none
  z_repr : mg "repr" = none
  z_set : mg "set" = none
  z_sorted : mg "sorted" = none
  z_str : mg "str" = none
  z_tuple : mg "tuple" = none
  z_zip : mg "zip" = none
  g_CLOSED : GD K mg "CLOSED" (.tup false [(.str (S [102, 105, 101, 108, 100])), (.str (S [103, 114, 111, 117, 110, 100])), (.str (S [104, 111, 117, 115, 101, 115])), (.str (S [119, 97, 108, 108])), (.str (S [116, 111])), (.str (S [99, 114, 101, 115, 116])), (.str (S [97, 98, 111, 118, 101])), (.str (S [108, 105, 107, 101])), (.str (S [114, 97, 105, 115, 101])), (.str (S [116, 105, 109, 101, 115])), (.str (S [101, 97, 99, 104])), (.str (S [103, 97, 117, 103, 101])), (.str (S [115, 101, 97]))])
  g_LETTERS : GD K mg "LETTERS" (.str (S kc18))
  g_MOST_FIELDS : GD K mg "MOST_FIELDS" (.int (12))
  g_MOST_GROUND : GD K mg "MOST_GROUND" (.int (999))
  g_MOST_HEIGHT : GD K mg "MOST_HEIGHT" (.int (1000))
  g_MOST_HOURS : GD K mg "MOST_HOURS" (.int (48))
  g_MOST_HOUSES : GD K mg "MOST_HOUSES" (.int (99))
  g_MOST_LETTERS : GD K mg "MOST_LETTERS" (.int (8))
  g_MOST_PRICE : GD K mg "MOST_PRICE" (.int (1000000))
  g_MOST_STEPS : GD K mg "MOST_STEPS" (.int (100))
  g_MOST_STRETCHES : GD K mg "MOST_STRETCHES" (.int (30))
section
variable {P : Program} {w : World} {K : PySem.W.Frag} {mg : Str → Option Value}
abbrev sl__law_pot : List Str := ["script", "k", "cell"]
theorem ok__law_pot (B : Facts P w K mg) {f : Addr} {fd : FuncData} (Fn : Fun K "_law_pot" "_law_pot" s__law_pot f fd) (base : Heap) : FnG P w K mg base 1 f fd ["script", "k"] m__law_pot := ok_def (pin := pinL [0, 1]) Fn sc__law_pot rfl (pins_ok rfl) fun le cdv A outer s H hr gd => letI : WC := WC0
  (ms_cons (ms_asg (mv_if (mt_lt hr (on_ (pv 1)) (ov (mv_blt call_len ok_len (by rfl) B.z_len (by decide +kernel) (mh_cons (on_ (pv 0)) mh_nil)))) (mv_blt call_abs ok_abs (by rfl) B.z_abs (by decide +kernel) (mh_cons (ov (mv_ixD (on_ (pv 0)) (on_ (pv 1)))) mh_nil)) (mv_add (ov (mv_mulT (ov mv_int) (on_ (pv 1)))) (ov mv_int))) (mg_name (pg_name (i := 2) sc__law_pot.nd rfl (.inl rfl)) rfl))
  (ms_one (ms_ret (mv_lst (ma_cons (mv_blt (call_max2 rfl) ok_max (by rfl) B.z_max (by decide +kernel) (mh_cons (ov mv_int) (mh_cons (ov (mv_sub (on_ (pv 2)) (ov (mv_pow (ov mv_int) (ov mv_int))))) mh_nil))) (ma_cons (mv_add (ov (mv_mod (ov (mv_bty call_int1 ok_int (by rfl) B.z_int (by decide +kernel) (mh_cons (ov (mv_add (ov (mv_add (ov (mv_mulT (ov (mv_mod (ov (mv_bty call_int1 ok_int (by rfl) B.z_int (by decide +kernel) (mh_cons (on_ (pv 2)) mh_nil))) (ov mv_int))) (ov mv_int))) (ov (mv_mulT (ov mv_int) (on_ (pv 1)))))) (ov mv_int))) mh_nil))) (ov mv_int))) (ov mv_int)) ma_nil))))))
theorem cal__law_pot (B : Facts P w K mg) (base : Heap) : Cal P w K mg base 1 "_law_pot" s__law_pot ["script", "k"] m__law_pot := let ⟨f, fd, h, F⟩ := B.f__law_pot; ⟨f, fd, ok__law_pot B F base, h, F⟩
abbrev sl__law_draw : List Str := ["pot", "many", "digit"]
theorem ok__law_draw (B : Facts P w K mg) {f : Addr} {fd : FuncData} (Fn : Fun K "_law_draw" "_law_draw" s__law_draw f fd) (base : Heap) : FnG P w K mg base 1 f fd ["pot", "many"] m__law_draw := ok_def (pin := pinL [0, 1]) Fn sc__law_draw rfl (pins_ok rfl) fun le cdv A outer s H hr gd => letI : WC := WC0
  (ms_cons (ms_if (mt_gt (ov (mv_ixD (on_ (pv 0)) (ov mv_int))) (ov mv_int)) (ms_cons (ms_asg (mv_blt call_divmod ok_divmod (by rfl) B.z_divmod (by decide +kernel) (mh_cons (ov (mv_ixD (on_ (pv 0)) (ov mv_int))) (mh_cons (on_ (pv 1)) mh_nil))) (mg_tup rfl (mgs_cons (mg_ix (pv 0) (ov mv_int)) (mgs_cons (mg_name (pg_name (i := 2) sc__law_draw.nd rfl (.inl rfl)) rfl) mgs_nil))))
  (ms_one (ms_ret (mv_tk (pv 2))))) ms_nil)
  (ms_cons (ms_asg (mv_mod (ov (mv_bty call_int1 ok_int (by rfl) B.z_int (by decide +kernel) (mh_cons (ov (mv_add (ov (mv_mulT (ov (mv_ixD (on_ (pv 0)) (ov mv_int))) (ov mv_int))) (ov mv_int))) mh_nil))) (ov mv_int)) (mg_ix (pv 0) (ov mv_int)))
  (ms_one (ms_ret (mv_mod (ov (mv_bty call_int1 ok_int (by rfl) B.z_int (by decide +kernel) (mh_cons (ov (mv_div (ov (mv_mod (ov (mv_bty call_int1 ok_int (by rfl) B.z_int (by decide +kernel) (mh_cons (ov (mv_mulT (ov (mv_ixD (on_ (pv 0)) (ov mv_int))) (ov (mv_ixD (on_ (pv 0)) (ov mv_int))))) mh_nil))) (ov mv_int))) (ov mv_int))) mh_nil))) (on_ (pv 1)))))))
theorem cal__law_draw (B : Facts P w K mg) (base : Heap) : Cal P w K mg base 1 "_law_draw" s__law_draw ["pot", "many"] m__law_draw := let ⟨f, fd, h, F⟩ := B.f__law_draw; ⟨f, fd, ok__law_draw B F base, h, F⟩
abbrev sl__law_land : List Str := ["pot", "most", "more", "prices", "many", "fields", "stretches", "at", "houses", "one", "other", "price"]
theorem ok__law_land (B : Facts P w K mg) {f : Addr} {fd : FuncData} (Fn : Fun K "_law_land" "_law_land" s__law_land f fd) (base : Heap) : FnG P w K mg base 2 f fd ["pot", "most", "more", "prices"] m__law_land := ok_def (pin := pinL [0, 1, 2, 3]) Fn sc__law_land rfl (pins_ok rfl) fun le cdv A outer s H hr gd => letI : WC := WC0
  (ms_cons (ms_par3 (ps_par3 rfl sc__law_land.nd rfl rfl rfl (by decide) (by decide) (by decide) rfl rfl rfl (ma_cons (mv_add (ov mv_int) (ov (mv_c (cal__law_draw B base) bd__law_draw hr (by decide) gd (by rfl) (mh_cons (on_ (pv 0)) (mh_cons (on_ (pv 1)) mh_nil))))) (ma_cons (mv_lst ma_nil) (ma_cons (mv_lst ma_nil) ma_nil))) rfl) rfl rfl rfl)
  (ms_cons (ms_k1 (ms_for (g := wg1__law_land) (b := wb1__law_land) (pin' := pinU [4] (pinL [0, 1, 2, 3])) PassesOwn.never rfl (mi_rng1 (by rfl) B.z_range (mh_cons (on_ (pv 4)) mh_nil)) (mg_name (pg_name (i := 7) sc__law_land.nd rfl (.inl rfl)) rfl) (ms_cons (ms_asg (mv_if (PW.pt (mw_or (mt_eq hr (on_ (pv 7)) (ov (mv_sub (on_ (pv 4)) (ov mv_int)))) (mw_or1 (mt_eq hr (ov (mv_c (cal__law_draw B base) bd__law_draw hr (by decide) gd (by rfl) (mh_cons (on_ (pv 0)) (mh_cons (ov mv_int) mh_nil)))) (ov mv_int))))) (mv_add (ov mv_int) (ov (mv_c (cal__law_draw B base) bd__law_draw hr (by decide) gd (by rfl) (mh_cons (on_ (pv 0)) (mh_cons (ov mv_int) mh_nil))))) mv_int) (mg_name (pg_name (i := 8) sc__law_land.nd rfl (.inl rfl)) rfl))
  (ms_one (ms_drop (mv_append (pv 5) (ma_cons (mv_tup (ma_cons (mv_strS ks1) (ma_cons (mv_ixAny (mv_strS ks0) (on_ (pv 7))) (ma_cons (mv_c (cal__law_draw B base) bd__law_draw hr (by decide) gd (by rfl) (mh_cons (on_ (pv 0)) (mh_cons (ov mv_int) mh_nil))) (ma_cons (mv_tk (pv 8)) ma_nil))))) ma_nil))))) pinU_le (hs_slot rfl hs_nil)))
  (ms_cons (ms_k1 (ms_for (g := wg2__law_land) (b := wb2__law_land) (pin' := pinU [] (pinL [0, 1, 2, 3])) PassesOwn.never rfl (mi_rng1 (by rfl) B.z_range (mh_cons (ov (mv_add (on_ (pv 4)) (ov (mv_c (cal__law_draw B base) bd__law_draw hr (by decide) gd (by rfl) (mh_cons (on_ (pv 0)) (mh_cons (ov (mv_add (on_ (pv 2)) (ov mv_int))) mh_nil)))))) mh_nil)) (mg_name (pg_name (i := 7) sc__law_land.nd rfl (.inl rfl)) rfl) (ms_cons (ms_par (ps_par rfl sc__law_land.nd rfl rfl (by decide) rfl rfl (ma_cons (mv_c (cal__law_draw B base) bd__law_draw hr (by decide) gd (by rfl) (mh_cons (on_ (pv 0)) (mh_cons (ov (mv_add (on_ (pv 4)) (ov mv_int))) mh_nil))) (ma_cons (mv_c (cal__law_draw B base) bd__law_draw hr (by decide) gd (by rfl) (mh_cons (on_ (pv 0)) (mh_cons (ov (mv_add (on_ (pv 4)) (ov mv_int))) mh_nil))) ma_nil)) rfl) rfl rfl)
  (ms_cons (ms_if (PW.pt (mw_and (mt_lt hr (on_ (pv 7)) (on_ (pv 4))) (mw_and1 (mt_gt (ov (mv_c (cal__law_draw B base) bd__law_draw hr (by decide) gd (by rfl) (mh_cons (on_ (pv 0)) (mh_cons (ov mv_int) mh_nil)))) (ov mv_int))))) (ms_one (ms_par (ps_par rfl sc__law_land.nd rfl rfl (by decide) rfl rfl (ma_cons (mv_c (cal__law_draw B base) bd__law_draw hr (by decide) gd (by rfl) (mh_cons (on_ (pv 0)) (mh_cons (ov (mv_add (on_ (pv 7)) (ov mv_int))) mh_nil))) (ma_cons (mv_add (on_ (pv 7)) (ov mv_int)) ma_nil)) rfl) rfl rfl)) ms_nil)
  (ms_one (ms_if (mt_ne hr (on_ (pv 9)) (on_ (pv 10))) (ms_cons (ms_asg (mv_if (mt_eq hr (ov (mv_c (cal__law_draw B base) bd__law_draw hr (by decide) gd (by rfl) (mh_cons (on_ (pv 0)) (mh_cons (ov mv_int) mh_nil)))) (ov mv_int)) mv_non (mv_c (cal__law_draw B base) bd__law_draw hr (by decide) gd (by rfl) (mh_cons (on_ (pv 0)) (mh_cons (ov (mv_add (on_ (pv 3)) (ov mv_int))) mh_nil)))) (mg_name (pg_name (i := 11) sc__law_land.nd rfl (.inl rfl)) rfl))
  (ms_one (ms_drop (mv_append (pv 6) (ma_cons (mv_tup (ma_cons (mv_strS ks2) (ma_cons (mv_blt (call_min2 rfl) ok_min (by rfl) B.z_min (by decide +kernel) (mh_cons (on_ (pv 9)) (mh_cons (on_ (pv 10)) mh_nil))) (ma_cons (mv_blt (call_max2 rfl) ok_max (by rfl) B.z_max (by decide +kernel) (mh_cons (on_ (pv 9)) (mh_cons (on_ (pv 10)) mh_nil))) (ma_cons (mv_c (cal__law_draw B base) bd__law_draw hr (by decide) gd (by rfl) (mh_cons (on_ (pv 0)) (mh_cons (ov mv_int) mh_nil))) (ma_cons (mv_tk (pv 11)) ma_nil)))))) ma_nil))))) ms_nil)))) pinU_le (hs_val hs_nil)))
  (ms_one (ms_ret (mv_tup (ma_cons (mv_strS ks3) (ma_cons (mv_bty call_tuple_of ok_tuple (by rfl) B.z_tuple (by decide +kernel) (mh_cons (on_ (pv 5)) mh_nil)) (ma_cons (mv_bty call_tuple_of ok_tuple (by rfl) B.z_tuple (by decide +kernel) (mh_cons (on_ (pv 6)) mh_nil)) ma_nil)))))))))
theorem cal__law_land (B : Facts P w K mg) (base : Heap) : Cal P w K mg base 2 "_law_land" s__law_land ["pot", "most", "more", "prices"] m__law_land := let ⟨f, fd, h, F⟩ := B.f__law_land; ⟨f, fd, ok__law_land B F base, h, F⟩
abbrev sl__law_plan : List Str := ["pot", "land", "at", "one"]
theorem ok__law_plan (B : Facts P w K mg) {f : Addr} {fd : FuncData} (Fn : Fun K "_law_plan" "_law_plan" s__law_plan f fd) (base : Heap) : FnG P w K mg base 2 f fd ["pot", "land"] m__law_plan := ok_def (pin := pinL [0, 1]) Fn sc__law_plan rfl (pins_ok rfl) fun le cdv A outer s H hr gd => letI : WC := WC0
  (ms_one (ms_ret (mv_bty call_tuple_of ok_tuple (by rfl) B.z_tuple (by decide +kernel) (mh_cons (ov (mv_lc (own := [("at", 2), ("one", 3)]) (g := cg1__law_plan) (t := ct1__law_plan) (e := ce1__law_plan) rfl sc__law_plan.nd (mi_enumA (by rfl) B.z_enumerate (mh_cons (ov (mv_ixD (on_ (pv 1)) (ov mv_int))) mh_nil)) (blkOk_by (own := [("at", 2), ("one", 3)]) (N := sl__law_plan) (sc := defScope s__law_plan) (by decide +kernel)) (fun _ _ _ _ _ => (mg_tup rfl (mgs_cons (mg_name (pg_name (i := 2) sc__law_plan.nd rfl (.inl rfl)) rfl) (mgs_cons (mg_name (pg_name (i := 3) sc__law_plan.nd rfl (.inl rfl)) rfl) mgs_nil)))) (fun _ _ _ _ _ => (mpts_one (PW.pt (mw_and (mt_notN (ov (mv_ixD (on_ (pv 3)) (ov mv_int))) (ov mv_non)) (mw_and1 (mt_gt (ov (mv_c (cal__law_draw B base) bd__law_draw hr (by decide) gd (by rfl) (mh_cons (on_ (pv 0)) (mh_cons (ov mv_int) mh_nil)))) (ov mv_int))))))) (fun _ _ _ _ _ => (mv_tk (pv 2))))) mh_nil))))
theorem cal__law_plan (B : Facts P w K mg) (base : Heap) : Cal P w K mg base 2 "_law_plan" s__law_plan ["pot", "land"] m__law_plan := let ⟨f, fd, h, F⟩ := B.f__law_plan; ⟨f, fd, ok__law_plan B F base, h, F⟩
abbrev sl__law_storm : List Str := ["pot", "plan", "hours", "found", "left", "turn", "while_gone", "step"]
theorem ok__law_storm (B : Facts P w K mg) {f : Addr} {fd : FuncData} (Fn : Fun K "_law_storm" "_law_storm" s__law_storm f fd) (base : Heap) : FnG P w K mg base 2 f fd ["pot", "plan", "hours"] m__law_storm := ok_def (pin := pinL [0, 1, 2]) Fn sc__law_storm rfl (pins_ok rfl) fun le cdv A outer s H hr gd => letI : WC := WC0
  (ms_cons (ms_par (ps_par rfl sc__law_storm.nd rfl rfl (by decide) rfl rfl (ma_cons (mv_lst ma_nil) (ma_cons (mv_bty call_list_of ok_list (by rfl) B.z_list (by decide +kernel) (mh_cons (on_ (pv 1)) mh_nil)) ma_nil)) rfl) rfl rfl)
  (ms_cons (ms_k1 (ms_for (g := wg2__law_storm) (b := wb2__law_storm) (pin' := pinU [2] (pinL [0, 1, 2])) PassesOwn.never rfl (mi_rng1 (by rfl) B.z_range (mh_cons (on_ (pv 2)) mh_nil)) (mg_name (pg_name (i := 5) sc__law_storm.nd rfl (.inl rfl)) rfl) (ms_cons (ms_asg (mv_if (mt_ne hr (on_ (pv 4)) (ov (mv_lst ma_nil))) (mv_c (cal__law_draw B base) bd__law_draw hr (by decide) gd (by rfl) (mh_cons (on_ (pv 0)) (mh_cons (ov mv_int) mh_nil))) mv_int) (mg_name (pg_name (i := 6) sc__law_storm.nd rfl (.inl rfl)) rfl))
  (ms_cons (ms_k1 (ms_for (g := wg1__law_storm) (b := wb1__law_storm) (pin' := pinU [6] (pinU [2] (pinL [0, 1, 2]))) PassesOwn.never rfl (mi_rng1 (by rfl) B.z_range (mh_cons (on_ (pv 6)) mh_nil)) (mg_name (pg_name (i := 7) sc__law_storm.nd rfl (.inl rfl)) rfl) (ms_one (ms_drop (mv_append (pv 3) (ma_cons (mv_tup (ma_cons (mv_strS ks4) (ma_cons (mv_popAt (pv 4) (ma_cons (mv_c (cal__law_draw B base) bd__law_draw hr (by decide) gd (by rfl) (mh_cons (on_ (pv 0)) (mh_cons (ov (mv_blt call_len ok_len (by rfl) B.z_len (by decide +kernel) (mh_cons (on_ (pv 4)) mh_nil))) mh_nil))) ma_nil)) ma_nil))) ma_nil)))) pinU_le (hs_slot rfl hs_nil)))
  (ms_one (ms_drop (mv_append (pv 3) (ma_cons (mv_tup (ma_cons (mv_strS ks5) (ma_cons (mv_c (cal__law_draw B base) bd__law_draw hr (by decide) gd (by rfl) (mh_cons (on_ (pv 0)) (mh_cons (ov mv_int) mh_nil))) ma_nil))) ma_nil)))))) pinU_le (hs_slot rfl hs_nil)))
  (ms_one (ms_ret (mv_tk (pv 3))))))
theorem cal__law_storm (B : Facts P w K mg) (base : Heap) : Cal P w K mg base 2 "_law_storm" s__law_storm ["pot", "plan", "hours"] m__law_storm := let ⟨f, fd, h, F⟩ := B.f__law_storm; ⟨f, fd, ok__law_storm B F base, h, F⟩
abbrev sl__law_sill : List Str := ["land", "at", "stretch", "grounds", "field"]
theorem ok__law_sill (B : Facts P w K mg) {f : Addr} {fd : FuncData} (Fn : Fun K "_law_sill" "_law_sill" s__law_sill f fd) (base : Heap) : FnG P w K mg base 1 f fd ["land", "at"] m__law_sill := ok_def (pin := pinL [0, 1]) Fn sc__law_sill rfl (pins_ok rfl) fun le cdv A outer s H hr gd => letI : WC := WC0
  (ms_cons (ms_par (ps_par rfl sc__law_sill.nd rfl rfl (by decide) rfl rfl (ma_cons (mv_ixAny (mv_ixD (on_ (pv 0)) (ov mv_int)) (on_ (pv 1))) (ma_cons (mv_add (ov (mv_lst (ma_cons mv_int ma_nil))) (ov (mv_lc (own := [("field", 4)]) (g := cg1__law_sill) (t := ct1__law_sill) (e := ce1__law_sill) rfl sc__law_sill.nd (mi_any (ov (mv_ixD (on_ (pv 0)) (ov mv_int)))) (blkOk_by (own := [("field", 4)]) (N := sl__law_sill) (sc := defScope s__law_sill) (by decide +kernel)) (fun _ _ _ _ _ => (mg_name (pg_name (i := 4) sc__law_sill.nd rfl (.inl rfl)) rfl)) (fun _ _ _ _ _ => mpts_nil) (fun _ _ _ _ _ => (mv_ixD (on_ (pv 4)) (ov mv_int)))))) ma_nil)) rfl) rfl rfl)
  (ms_one (ms_ret (mv_blt (call_max3Nu rfl) ok_max3 (by rfl) B.z_max (by decide +kernel) (mh_cons (ov (mv_ixD (on_ (pv 2)) (ov mv_int))) (mh_cons (ov (mv_ixD (on_ (pv 3)) (ov (mv_ixD (on_ (pv 2)) (ov mv_int))))) (mh_cons (ov (mv_ixD (on_ (pv 3)) (ov (mv_ixD (on_ (pv 2)) (ov mv_int))))) mh_nil)))))))
theorem cal__law_sill (B : Facts P w K mg) (base : Heap) : Cal P w K mg base 1 "_law_sill" s__law_sill ["land", "at"] m__law_sill := let ⟨f, fd, h, F⟩ := B.f__law_sill; ⟨f, fd, ok__law_sill B F base, h, F⟩
abbrev sl__law_levels : List Str := ["land", "heights", "gone", "sills", "found", "here", "hour", "height", "is_new", "at", "stretch", "one", "other"]
theorem ok__law_levels (B : Facts P w K mg) {f : Addr} {fd : FuncData} (Fn : Fun K "_law_levels" "_law_levels" s__law_levels f fd) (base : Heap) : FnG P w K mg base 2 f fd ["land", "heights", "gone"] m__law_levels := ok_def (pin := pinL [0, 1, 2]) Fn sc__law_levels rfl (pins_ok rfl) fun le cdv A outer s H hr gd => letI : WC := WC0
  (ms_cons (ms_par3 (ps_par3 rfl sc__law_levels.nd rfl rfl rfl (by decide) (by decide) (by decide) rfl rfl rfl (ma_cons (mv_lc (own := [("at", 9)]) (g := cg1__law_levels) (t := ct1__law_levels) (e := ce1__law_levels) rfl sc__law_levels.nd (mi_rng1 (by rfl) B.z_range (mh_cons (ov (mv_blt call_len ok_len (by rfl) B.z_len (by decide +kernel) (mh_cons (ov (mv_ixD (on_ (pv 0)) (ov mv_int))) mh_nil))) mh_nil)) (blkOk_by (own := [("at", 9)]) (N := sl__law_levels) (sc := defScope s__law_levels) (by decide +kernel)) (fun _ _ _ _ _ => (mg_name (pg_name (i := 9) sc__law_levels.nd rfl (.inl rfl)) rfl)) (fun _ _ _ _ _ => mpts_nil) (fun _ _ _ _ _ => (mv_c (cal__law_sill B base) bd__law_sill hr (by decide) gd (by rfl) (mh_cons (on_ (pv 0)) (mh_cons (on_ (pv 9)) mh_nil))))) (ma_cons (mv_lst ma_nil) (ma_cons (mv_mulT (ov (mv_lst (ma_cons mv_non ma_nil))) (ov (mv_add (ov (mv_blt call_len ok_len (by rfl) B.z_len (by decide +kernel) (mh_cons (ov (mv_ixD (on_ (pv 0)) (ov mv_int))) mh_nil))) (ov mv_int)))) ma_nil))) rfl) rfl rfl rfl)
  (ms_cons (ms_k1 (ms_for (g := wg5__law_levels) (b := wb5__law_levels) (pin' := pinU [1] (pinL [0, 1, 2])) PassesOwn.never rfl (mi_enumA (by rfl) B.z_enumerate (mh_cons (on_ (pv 1)) mh_nil)) (mg_tup rfl (mgs_cons (mg_name (pg_name (i := 6) sc__law_levels.nd rfl (.inl rfl)) rfl) (mgs_cons (mg_name (pg_name (i := 7) sc__law_levels.nd rfl (.inl rfl)) rfl) mgs_nil))) (ms_cons (ms_asg (mv_tup (ma_cons (mv_tk (pv 7)) (ma_cons mv_bl ma_nil))) (mg_tup rfl (mgs_cons (mg_ix (pv 5) (ov mv_int)) (mgs_cons (mg_name (pg_name (i := 8) sc__law_levels.nd rfl (.inl rfl)) rfl) mgs_nil))))
  (ms_cons (ms_k1 (ms_while (t := wc4__law_levels) (b := wb4__law_levels) PassesOwn.never (mt_val (mv_tk (pv 8))) (ms_cons (ms_asg mv_bl (mg_name (pg_name (i := 8) sc__law_levels.nd rfl (.inl rfl)) rfl))
  (ms_one (ms_k1 (ms_for (g := wg3__law_levels) (b := wb3__law_levels) (pin' := pinU [] (pinU [1] (pinL [0, 1, 2]))) PassesOwn.never rfl (mi_enumA (by rfl) B.z_enumerate (mh_cons (ov (mv_ixD (on_ (pv 0)) (ov mv_int))) mh_nil)) (mg_tup rfl (mgs_cons (mg_name (pg_name (i := 9) sc__law_levels.nd rfl (.inl rfl)) rfl) (mgs_cons (mg_name (pg_name (i := 10) sc__law_levels.nd rfl (.inl rfl)) rfl) mgs_nil))) (ms_one (ms_k1 (ms_for (g := wg2__law_levels) (b := wb2__law_levels) (pin' := pinU [] (pinU [] (pinU [1] (pinL [0, 1, 2])))) PassesOwn.never rfl (mi_any (ov (mv_tup (ma_cons (mv_sl (on_ (pv 10)) (mp_some (ov mv_int)) (mp_some (ov mv_int))) (ma_cons (mv_slr (on_ (pv 10)) pe_int pe_int pe_neg1) ma_nil))))) (mg_tup rfl (mgs_cons (mg_name (pg_name (i := 11) sc__law_levels.nd rfl (.inl rfl)) rfl) (mgs_cons (mg_name (pg_name (i := 12) sc__law_levels.nd rfl (.inl rfl)) rfl) mgs_nil))) (ms_one (ms_if (PW.pt (mw_and (mt_le (ov (mv_ixD (on_ (pv 2)) (on_ (pv 9)))) (on_ (pv 6))) (mw_and (mt_gt (on_ (pv 12)) (ov mv_int)) (mw_and (mt_notN (ov (mv_ixD (on_ (pv 5)) (on_ (pv 11)))) (ov mv_non)) (mw_and (mt_gt (ov (mv_ixD (on_ (pv 5)) (on_ (pv 11)))) (ov (mv_ixD (on_ (pv 3)) (on_ (pv 9))))) (mw_and1 (PW.pt (mw_or (mt_isN (ov (mv_ixD (on_ (pv 5)) (on_ (pv 12)))) (ov mv_non)) (mw_or1 (mt_lt hr (ov (mv_ixD (on_ (pv 5)) (on_ (pv 12)))) (ov (mv_ixD (on_ (pv 5)) (on_ (pv 11)))))))))))))) (ms_one (ms_asg (mv_tup (ma_cons (mv_ixD (on_ (pv 5)) (on_ (pv 11))) (ma_cons mv_bl ma_nil))) (mg_tup rfl (mgs_cons (mg_ix (pv 5) (on_ (pv 12))) (mgs_cons (mg_name (pg_name (i := 8) sc__law_levels.nd rfl (.inl rfl)) rfl) mgs_nil))))) ms_nil)) pinU_le (hs_val hs_nil)))) pinU_le (hs_val hs_nil)))))))
  (ms_one (ms_drop (mv_append (pv 4) (ma_cons (mv_bty call_tuple_of ok_tuple (by rfl) B.z_tuple (by decide +kernel) (mh_cons (ov (mv_sl (on_ (pv 5)) (mp_some (ov mv_int)) mp_none)) mh_nil)) ma_nil)))))) pinU_le (hs_slot rfl hs_nil)))
  (ms_one (ms_ret (mv_tk (pv 4))))))
theorem cal__law_levels (B : Facts P w K mg) (base : Heap) : Cal P w K mg base 2 "_law_levels" s__law_levels ["land", "heights", "gone"] m__law_levels := let ⟨f, fd, h, F⟩ := B.f__law_levels; ⟨f, fd, ok__law_levels B F base, h, F⟩
abbrev sl_is_integer : List Str := ["value"]
theorem ok_is_integer (B : Facts P w K mg) {f : Addr} {fd : FuncData} (Fn : Fun K "is_integer" "is_integer" s_is_integer f fd) (base : Heap) : FnG P w K mg base 1 f fd ["value"] m_is_integer := ok_def (pin := pinL [0]) Fn sc_is_integer rfl (pins_ok rfl) fun le cdv A outer s H hr gd => letI : WC := WC0
  (ms_one (ms_ret (mv_and (mv_isi isOk_int (by rfl) B.z_isinstance (by rfl) B.z_int (by decide +kernel) (on_ (pv 0))) (mv_one (mv_not (mv_isi isOk_bool (by rfl) B.z_isinstance (by rfl) B.z_bool (by decide +kernel) (on_ (pv 0))))))))
theorem cal_is_integer (B : Facts P w K mg) (base : Heap) : Cal P w K mg base 1 "is_integer" s_is_integer ["value"] m_is_integer := let ⟨f, fd, h, F⟩ := B.f_is_integer; ⟨f, fd, ok_is_integer B F base, h, F⟩
abbrev sl_is_between : List Str := ["value", "low", "high"]
theorem ok_is_between (B : Facts P w K mg) {f : Addr} {fd : FuncData} (Fn : Fun K "is_between" "is_between" s_is_between f fd) (base : Heap) : FnG P w K mg base 2 f fd ["value", "low", "high"] m_is_between := ok_def (pin := pinL [0, 1, 2]) Fn sc_is_between rfl (pins_ok rfl) fun le cdv A outer s H hr gd => letI : WC := WC0
  (ms_one (ms_ret (mv_and (mv_c (cal_is_integer B base) bd_is_integer hr (by decide) gd (by rfl) (mh_cons (on_ (pv 0)) mh_nil)) (mv_one (mv_chain (op_leD) (op_leD) ok_le ok_le (on_ (pv 1)) (on_ (pv 0)) (on_ (pv 2)))))))
theorem cal_is_between (B : Facts P w K mg) (base : Heap) : Cal P w K mg base 2 "is_between" s_is_between ["value", "low", "high"] m_is_between := let ⟨f, fd, h, F⟩ := B.f_is_between; ⟨f, fd, ok_is_between B F base, h, F⟩
abbrev sl_is_count : List Str := ["value"]
theorem ok_is_count (B : Facts P w K mg) {f : Addr} {fd : FuncData} (Fn : Fun K "is_count" "is_count" s_is_count f fd) (base : Heap) : FnG P w K mg base 2 f fd ["value"] m_is_count := ok_def (pin := pinL [0]) Fn sc_is_count rfl (pins_ok rfl) fun le cdv A outer s H hr gd => letI : WC := WC0
  (ms_one (ms_ret (mv_and (mv_c (cal_is_integer B base) bd_is_integer hr (by decide) gd (by rfl) (mh_cons (on_ (pv 0)) mh_nil)) (mv_one (mv_ge (on_ (pv 0)) (ov mv_int))))))
theorem cal_is_count (B : Facts P w K mg) (base : Heap) : Cal P w K mg base 2 "is_count" s_is_count ["value"] m_is_count := let ⟨f, fd, h, F⟩ := B.f_is_count; ⟨f, fd, ok_is_count B F base, h, F⟩
abbrev sl_is_position : List Str := ["value", "many"]
theorem ok_is_position (B : Facts P w K mg) {f : Addr} {fd : FuncData} (Fn : Fun K "is_position" "is_position" s_is_position f fd) (base : Heap) : FnG P w K mg base 3 f fd ["value", "many"] m_is_position := ok_def (pin := pinL [0, 1]) Fn sc_is_position rfl (pins_ok rfl) fun le cdv A outer s H hr gd => letI : WC := WC0
  (ms_one (ms_ret (mv_and (mv_c (cal_is_count B base) bd_is_count hr (by decide) gd (by rfl) (mh_cons (on_ (pv 0)) mh_nil)) (mv_one (mv_lt hr (on_ (pv 0)) (on_ (pv 1)))))))
theorem cal_is_position (B : Facts P w K mg) (base : Heap) : Cal P w K mg base 3 "is_position" s_is_position ["value", "many"] m_is_position := let ⟨f, fd, h, F⟩ := B.f_is_position; ⟨f, fd, ok_is_position B F base, h, F⟩
abbrev sl_is_stretch : List Str := ["value", "many"]
theorem ok_is_stretch (B : Facts P w K mg) {f : Addr} {fd : FuncData} (Fn : Fun K "is_stretch" "is_stretch" s_is_stretch f fd) (base : Heap) : FnG P w K mg base 4 f fd ["value", "many"] m_is_stretch := ok_def (pin := pinL [0, 1]) Fn sc_is_stretch rfl (pins_ok rfl) fun le cdv A outer s H hr gd => letI : WC := WC0
  (ms_cons (ms_if (PW.pt (mw_or (mt_not (mt_val (mv_isi isOk_tuple (by rfl) B.z_isinstance (by rfl) B.z_tuple (by decide +kernel) (on_ (pv 0))))) (mw_or (mt_ne hr (ov (mv_blt call_len ok_len (by rfl) B.z_len (by decide +kernel) (mh_cons (on_ (pv 0)) mh_nil))) (ov mv_int)) (mw_or (mt_not (mt_val (mv_isi isOk_str (by rfl) B.z_isinstance (by rfl) B.z_str (by decide +kernel) (ov (mv_ixD (on_ (pv 0)) (ov mv_int)))))) (mw_or1 (mt_ne hr (ov (mv_ixD (on_ (pv 0)) (ov mv_int))) (ov (mv_strS ks2)))))))) (ms_one (ms_ret mv_bl)) ms_nil)
  (ms_cons (ms_if (PW.pt (mw_or (mt_not (mt_val (mv_c (cal_is_position B base) bd_is_position hr (by decide) gd (by rfl) (mh_cons (ov (mv_ixD (on_ (pv 0)) (ov mv_int))) (mh_cons (on_ (pv 1)) mh_nil))))) (mw_or (mt_not (mt_val (mv_c (cal_is_position B base) bd_is_position hr (by decide) gd (by rfl) (mh_cons (ov (mv_ixD (on_ (pv 0)) (ov mv_int))) (mh_cons (on_ (pv 1)) mh_nil))))) (mw_or1 (mt_ge (ov (mv_ixD (on_ (pv 0)) (ov mv_int))) (ov (mv_ixD (on_ (pv 0)) (ov mv_int)))))))) (ms_one (ms_ret mv_bl)) ms_nil)
  (ms_one (ms_ret (mv_and (mv_c (cal_is_between B base) bd_is_between hr (by decide) gd (by rfl) (mh_cons (ov (mv_ixD (on_ (pv 0)) (ov mv_int))) (mh_cons (ov mv_int) (mh_cons (ov (mv_gd B.g_MOST_GROUND (by rfl))) mh_nil)))) (mv_one (mv_or (mv_isN (ov (mv_ixD (on_ (pv 0)) (ov mv_int))) (ov mv_non)) (mv_one (mv_c (cal_is_between B base) bd_is_between hr (by decide) gd (by rfl) (mh_cons (ov (mv_ixD (on_ (pv 0)) (ov mv_int))) (mh_cons (ov mv_int) (mh_cons (ov (mv_gd B.g_MOST_PRICE (by rfl))) mh_nil))))))))))))
theorem cal_is_stretch (B : Facts P w K mg) (base : Heap) : Cal P w K mg base 4 "is_stretch" s_is_stretch ["value", "many"] m_is_stretch := let ⟨f, fd, h, F⟩ := B.f_is_stretch; ⟨f, fd, ok_is_stretch B F base, h, F⟩
abbrev sl_is_name : List Str := ["value", "sign"]
theorem ok_is_name (B : Facts P w K mg) {f : Addr} {fd : FuncData} (Fn : Fun K "is_name" "is_name" s_is_name f fd) (base : Heap) : FnG P w K mg base 1 f fd ["value"] m_is_name := ok_def (pin := pinL [0]) Fn sc_is_name rfl (pins_ok rfl) fun le cdv A outer s H hr gd => letI : WC := WC0
  (ms_cons (ms_if (PW.pt (mw_or (mt_not (mt_val (mv_isi isOk_str (by rfl) B.z_isinstance (by rfl) B.z_str (by decide +kernel) (on_ (pv 0))))) (mw_or (mt_not (mt_chain (op_leD) (op_leD) ok_le ok_le (ov mv_int) (ov (mv_blt call_len ok_len (by rfl) B.z_len (by decide +kernel) (mh_cons (on_ (pv 0)) mh_nil))) (ov (mv_gd B.g_MOST_LETTERS (by rfl))))) (mw_or1 (mt_in hr (on_ (pv 0)) (ov (mv_gd B.g_CLOSED (by rfl)))))))) (ms_one (ms_ret mv_bl)) ms_nil)
  (ms_one (ms_ret (mv_blt (cr_all rfl) ok_all (by rfl) B.z_all (by decide +kernel) (mh_cons (ov (mv_lc (own := [("sign", 1)]) (g := cg1_is_name) (t := ct1_is_name) (e := ce1_is_name) rfl sc_is_name.nd (mi_any (on_ (pv 0))) (blkOk_by (own := [("sign", 1)]) (N := sl_is_name) (sc := defScope s_is_name) (by decide +kernel)) (fun _ _ _ _ _ => (mg_name (pg_name (i := 1) sc_is_name.nd rfl (.inl rfl)) rfl)) (fun _ _ _ _ _ => mpts_nil) (fun _ _ _ _ _ => (mv_in hr (on_ (pv 1)) (ov (mv_gd B.g_LETTERS (by rfl))))))) mh_nil)))))
theorem cal_is_name (B : Facts P w K mg) (base : Heap) : Cal P w K mg base 1 "is_name" s_is_name ["value"] m_is_name := let ⟨f, fd, h, F⟩ := B.f_is_name; ⟨f, fd, ok_is_name B F base, h, F⟩
abbrev sl_is_field : List Str := ["value"]
theorem ok_is_field (B : Facts P w K mg) {f : Addr} {fd : FuncData} (Fn : Fun K "is_field" "is_field" s_is_field f fd) (base : Heap) : FnG P w K mg base 3 f fd ["value"] m_is_field := ok_def (pin := pinL [0]) Fn sc_is_field rfl (pins_ok rfl) fun le cdv A outer s H hr gd => letI : WC := WC0
  (ms_cons (ms_if (PW.pt (mw_or (mt_not (mt_val (mv_isi isOk_tuple (by rfl) B.z_isinstance (by rfl) B.z_tuple (by decide +kernel) (on_ (pv 0))))) (mw_or (mt_ne hr (ov (mv_blt call_len ok_len (by rfl) B.z_len (by decide +kernel) (mh_cons (on_ (pv 0)) mh_nil))) (ov mv_int)) (mw_or (mt_not (mt_val (mv_isi isOk_str (by rfl) B.z_isinstance (by rfl) B.z_str (by decide +kernel) (ov (mv_ixD (on_ (pv 0)) (ov mv_int)))))) (mw_or1 (mt_ne hr (ov (mv_ixD (on_ (pv 0)) (ov mv_int))) (ov (mv_strS ks1)))))))) (ms_one (ms_ret mv_bl)) ms_nil)
  (ms_one (ms_ret (mv_and (mv_c (cal_is_name B base) bd_is_name hr (by decide) gd (by rfl) (mh_cons (ov (mv_ixD (on_ (pv 0)) (ov mv_int))) mh_nil)) (mv_and (mv_c (cal_is_between B base) bd_is_between hr (by decide) gd (by rfl) (mh_cons (ov (mv_ixD (on_ (pv 0)) (ov mv_int))) (mh_cons (ov mv_int) (mh_cons (ov (mv_gd B.g_MOST_GROUND (by rfl))) mh_nil)))) (mv_one (mv_c (cal_is_between B base) bd_is_between hr (by decide) gd (by rfl) (mh_cons (ov (mv_ixD (on_ (pv 0)) (ov mv_int))) (mh_cons (ov mv_int) (mh_cons (ov (mv_gd B.g_MOST_HOUSES (by rfl))) mh_nil))))))))))
theorem cal_is_field (B : Facts P w K mg) (base : Heap) : Cal P w K mg base 3 "is_field" s_is_field ["value"] m_is_field := let ⟨f, fd, h, F⟩ := B.f_is_field; ⟨f, fd, ok_is_field B F base, h, F⟩
abbrev sl_is_land : List Str := ["value", "fields", "stretches", "one"]
theorem ok_is_land (B : Facts P w K mg) {f : Addr} {fd : FuncData} (Fn : Fun K "is_land" "is_land" s_is_land f fd) (base : Heap) : FnG P w K mg base 5 f fd ["value"] m_is_land := ok_def (pin := pinL [0]) Fn sc_is_land rfl (pins_ok rfl) fun le cdv A outer s H hr gd => letI : WC := WC0
  (ms_cons (ms_if (PW.pt (mw_or (mt_not (mt_val (mv_isi isOk_tuple (by rfl) B.z_isinstance (by rfl) B.z_tuple (by decide +kernel) (on_ (pv 0))))) (mw_or (mt_ne hr (ov (mv_blt call_len ok_len (by rfl) B.z_len (by decide +kernel) (mh_cons (on_ (pv 0)) mh_nil))) (ov mv_int)) (mw_or (mt_not (mt_val (mv_isi isOk_str (by rfl) B.z_isinstance (by rfl) B.z_str (by decide +kernel) (ov (mv_ixD (on_ (pv 0)) (ov mv_int)))))) (mw_or1 (mt_ne hr (ov (mv_ixD (on_ (pv 0)) (ov mv_int))) (ov (mv_strS ks3)))))))) (ms_one (ms_ret mv_bl)) ms_nil)
  (ms_cons (ms_asg (mv_sl (on_ (pv 0)) (mp_some (ov mv_int)) mp_none) (mg_tup rfl (mgs_cons (mg_name (pg_name (i := 1) sc_is_land.nd rfl (.inr rfl)) rfl) (mgs_cons (mg_name (pg_name (i := 2) sc_is_land.nd rfl (.inl rfl)) rfl) mgs_nil))))
  (ms_cons (ms_if (PW.pt (mw_or (mt_not (mt_val (mv_isi isOk_tuple (by rfl) B.z_isinstance (by rfl) B.z_tuple (by decide +kernel) (on_ (pv 1))))) (mw_or (mt_not (mt_val (mv_isi isOk_tuple (by rfl) B.z_isinstance (by rfl) B.z_tuple (by decide +kernel) (on_ (pv 2))))) (mw_or1 (mt_not (mt_chain (op_leD) (op_leD) ok_le ok_le (ov mv_int) (ov (mv_blt call_len ok_len (by rfl) B.z_len (by decide +kernel) (mh_cons (on_ (pv 1)) mh_nil))) (ov (mv_gd B.g_MOST_FIELDS (by rfl))))))))) (ms_one (ms_ret mv_bl)) ms_nil)
  (ms_cons (ms_if (PW.pt (mw_or (mt_not (mt_val (mv_blt (cr_all rfl) ok_all (by rfl) B.z_all (by decide +kernel) (mh_cons (ov (mv_lc (own := [("one", 3)]) (g := cg2_is_land) (t := ct2_is_land) (e := ce2_is_land) rfl sc_is_land.nd (mi_any (on_ (pv 1))) (blkOk_by (own := [("one", 3)]) (N := sl_is_land) (sc := defScope s_is_land) (by decide +kernel)) (fun _ _ _ _ _ => (mg_name (pg_name (i := 3) sc_is_land.nd rfl (.inl rfl)) rfl)) (fun _ _ _ _ _ => mpts_nil) (fun _ _ _ _ _ => (mv_c (cal_is_field B base) bd_is_field hr (by decide) gd (by rfl) (mh_cons (on_ (pv 3)) mh_nil))))) mh_nil)))) (mw_or1 (mt_lt hr (ov (mv_lenSetA rfl (by rfl) B.z_len (by rfl) B.z_set (ov (mv_lc (own := [("one", 3)]) (g := cg1_is_land) (t := ct1_is_land) (e := ce1_is_land) rfl sc_is_land.nd (mi_any (on_ (pv 1))) (blkOk_by (own := [("one", 3)]) (N := sl_is_land) (sc := defScope s_is_land) (by decide +kernel)) (fun _ _ _ _ _ => (mg_name (pg_name (i := 3) sc_is_land.nd rfl (.inl rfl)) rfl)) (fun _ _ _ _ _ => mpts_nil) (fun _ _ _ _ _ => (mv_ixD (on_ (pv 3)) (ov mv_int))))))) (ov (mv_blt call_len ok_len (by rfl) B.z_len (by decide +kernel) (mh_cons (on_ (pv 1)) mh_nil))))))) (ms_one (ms_ret mv_bl)) ms_nil)
  (ms_one (ms_ret (mv_and (mv_le (ov (mv_blt call_len ok_len (by rfl) B.z_len (by decide +kernel) (mh_cons (on_ (pv 2)) mh_nil))) (ov (mv_gd B.g_MOST_STRETCHES (by rfl)))) (mv_one (mv_blt (cr_all rfl) ok_all (by rfl) B.z_all (by decide +kernel) (mh_cons (ov (mv_lc (own := [("one", 3)]) (g := cg3_is_land) (t := ct3_is_land) (e := ce3_is_land) rfl sc_is_land.nd (mi_any (on_ (pv 2))) (blkOk_by (own := [("one", 3)]) (N := sl_is_land) (sc := defScope s_is_land) (by decide +kernel)) (fun _ _ _ _ _ => (mg_name (pg_name (i := 3) sc_is_land.nd rfl (.inl rfl)) rfl)) (fun _ _ _ _ _ => mpts_nil) (fun _ _ _ _ _ => (mv_c (cal_is_stretch B base) bd_is_stretch hr (by decide) gd (by rfl) (mh_cons (on_ (pv 3)) (mh_cons (ov (mv_add (ov (mv_blt call_len ok_len (by rfl) B.z_len (by decide +kernel) (mh_cons (on_ (pv 1)) mh_nil))) (ov mv_int))) mh_nil)))))) mh_nil))))))))))
theorem cal_is_land (B : Facts P w K mg) (base : Heap) : Cal P w K mg base 5 "is_land" s_is_land ["value"] m_is_land := let ⟨f, fd, h, F⟩ := B.f_is_land; ⟨f, fd, ok_is_land B F base, h, F⟩
abbrev sl_check_land : List Str := ["land"]
theorem ok_check_land (B : Facts P w K mg) {f : Addr} {fd : FuncData} (Fn : Fun K "check_land" "check_land" s_check_land f fd) (base : Heap) : FnG P w K mg base 6 f fd ["land"] m_check_land := ok_def (pin := pinL [0]) Fn sc_check_land rfl (pins_ok rfl) fun le cdv A outer s H hr gd => letI : WC := WC0
  (ms_one (ms_if (mt_not (mt_val (mv_c (cal_is_land B base) bd_is_land hr (by decide) gd (by rfl) (mh_cons (on_ (pv 0)) mh_nil)))) (ms_one ms_never1) ms_nil))
theorem cal_check_land (B : Facts P w K mg) (base : Heap) : Cal P w K mg base 6 "check_land" s_check_land ["land"] m_check_land := let ⟨f, fd, h, F⟩ := B.f_check_land; ⟨f, fd, ok_check_land B F base, h, F⟩
abbrev sl_is_rising : List Str := ["value", "many", "one", "other"]
theorem ok_is_rising (B : Facts P w K mg) {f : Addr} {fd : FuncData} (Fn : Fun K "is_rising" "is_rising" s_is_rising f fd) (base : Heap) : FnG P w K mg base 4 f fd ["value", "many"] m_is_rising := ok_def (pin := pinL [0, 1]) Fn sc_is_rising rfl (pins_ok rfl) fun le cdv A outer s H hr gd => letI : WC := WC0
  (ms_cons (ms_if (PW.pt (mw_or (mt_not (mt_val (mv_isi isOk_tuple (by rfl) B.z_isinstance (by rfl) B.z_tuple (by decide +kernel) (on_ (pv 0))))) (mw_or1 (mt_not (mt_val (mv_blt (cr_all rfl) ok_all (by rfl) B.z_all (by decide +kernel) (mh_cons (ov (mv_lc (own := [("one", 2)]) (g := cg1_is_rising) (t := ct1_is_rising) (e := ce1_is_rising) rfl sc_is_rising.nd (mi_any (on_ (pv 0))) (blkOk_by (own := [("one", 2)]) (N := sl_is_rising) (sc := defScope s_is_rising) (by decide +kernel)) (fun _ _ _ _ _ => (mg_name (pg_name (i := 2) sc_is_rising.nd rfl (.inl rfl)) rfl)) (fun _ _ _ _ _ => mpts_nil) (fun _ _ _ _ _ => (mv_c (cal_is_position B base) bd_is_position hr (by decide) gd (by rfl) (mh_cons (on_ (pv 2)) (mh_cons (on_ (pv 1)) mh_nil)))))) mh_nil))))))) (ms_one (ms_ret mv_bl)) ms_nil)
  (ms_one (ms_ret (mv_blt (cr_all rfl) ok_all (by rfl) B.z_all (by decide +kernel) (mh_cons (ov (mv_lc (own := [("one", 2), ("other", 3)]) (g := cg2_is_rising) (t := ct2_is_rising) (e := ce2_is_rising) rfl sc_is_rising.nd (mi_zipA (by rfl) B.z_zip (mh_cons (on_ (pv 0)) (mh_cons (ov (mv_sl (on_ (pv 0)) (mp_some (ov mv_int)) mp_none)) mh_nil))) (blkOk_by (own := [("one", 2), ("other", 3)]) (N := sl_is_rising) (sc := defScope s_is_rising) (by decide +kernel)) (fun _ _ _ _ _ => (mg_tup rfl (mgs_cons (mg_name (pg_name (i := 2) sc_is_rising.nd rfl (.inl rfl)) rfl) (mgs_cons (mg_name (pg_name (i := 3) sc_is_rising.nd rfl (.inl rfl)) rfl) mgs_nil)))) (fun _ _ _ _ _ => mpts_nil) (fun _ _ _ _ _ => (mv_lt hr (on_ (pv 2)) (on_ (pv 3)))))) mh_nil)))))
theorem cal_is_rising (B : Facts P w K mg) (base : Heap) : Cal P w K mg base 4 "is_rising" s_is_rising ["value", "many"] m_is_rising := let ⟨f, fd, h, F⟩ := B.f_is_rising; ⟨f, fd, ok_is_rising B F base, h, F⟩
abbrev sl_is_plan_of : List Str := ["land", "value", "one"]
theorem ok_is_plan_of (B : Facts P w K mg) {f : Addr} {fd : FuncData} (Fn : Fun K "is_plan_of" "is_plan_of" s_is_plan_of f fd) (base : Heap) : FnG P w K mg base 5 f fd ["land", "value"] m_is_plan_of := ok_def (pin := pinL [0, 1]) Fn sc_is_plan_of rfl (pins_ok rfl) fun le cdv A outer s H hr gd => letI : WC := WC0
  (ms_one (ms_ret (mv_and (mv_c (cal_is_rising B base) bd_is_rising hr (by decide) gd (by rfl) (mh_cons (on_ (pv 1)) (mh_cons (ov (mv_blt call_len ok_len (by rfl) B.z_len (by decide +kernel) (mh_cons (ov (mv_ixD (on_ (pv 0)) (ov mv_int))) mh_nil))) mh_nil))) (mv_one (mv_blt (cr_all rfl) ok_all (by rfl) B.z_all (by decide +kernel) (mh_cons (ov (mv_lc (own := [("one", 2)]) (g := cg1_is_plan_of) (t := ct1_is_plan_of) (e := ce1_is_plan_of) rfl sc_is_plan_of.nd (mi_any (on_ (pv 1))) (blkOk_by (own := [("one", 2)]) (N := sl_is_plan_of) (sc := defScope s_is_plan_of) (by decide +kernel)) (fun _ _ _ _ _ => (mg_name (pg_name (i := 2) sc_is_plan_of.nd rfl (.inl rfl)) rfl)) (fun _ _ _ _ _ => mpts_nil) (fun _ _ _ _ _ => (mv_notN (ov (mv_ixAny (mv_ixAny (mv_ixD (on_ (pv 0)) (ov mv_int)) (on_ (pv 2))) (ov mv_int))) (ov mv_non))))) mh_nil))))))
theorem cal_is_plan_of (B : Facts P w K mg) (base : Heap) : Cal P w K mg base 5 "is_plan_of" s_is_plan_of ["land", "value"] m_is_plan_of := let ⟨f, fd, h, F⟩ := B.f_is_plan_of; ⟨f, fd, ok_is_plan_of B F base, h, F⟩
abbrev sl_check_plan : List Str := ["land", "plan"]
theorem ok_check_plan (B : Facts P w K mg) {f : Addr} {fd : FuncData} (Fn : Fun K "check_plan" "check_plan" s_check_plan f fd) (base : Heap) : FnG P w K mg base 6 f fd ["land", "plan"] m_check_plan := ok_def (pin := pinL [0, 1]) Fn sc_check_plan rfl (pins_ok rfl) fun le cdv A outer s H hr gd => letI : WC := WC0
  (ms_one (ms_if (mt_not (mt_val (mv_c (cal_is_plan_of B base) bd_is_plan_of hr (by decide) gd (by rfl) (mh_cons (on_ (pv 0)) (mh_cons (on_ (pv 1)) mh_nil))))) (ms_one ms_never1) ms_nil))
theorem cal_check_plan (B : Facts P w K mg) (base : Heap) : Cal P w K mg base 6 "check_plan" s_check_plan ["land", "plan"] m_check_plan := let ⟨f, fd, h, F⟩ := B.f_check_plan; ⟨f, fd, ok_check_plan B F base, h, F⟩
abbrev sl_is_list : List Str := ["value"]
theorem ok_is_list (B : Facts P w K mg) {f : Addr} {fd : FuncData} (Fn : Fun K "is_list" "is_list" s_is_list f fd) (base : Heap) : FnG P w K mg base 1 f fd ["value"] m_is_list := ok_def (pin := pinL [0]) Fn sc_is_list rfl (pins_ok rfl) fun le cdv A outer s H hr gd => letI : WC := WC0
  (ms_one (ms_ret (mv_isLT (by rfl) B.z_isinstance (by rfl) B.z_list (by rfl) B.z_tuple (on_ (pv 0)))))
theorem cal_is_list (B : Facts P w K mg) (base : Heap) : Cal P w K mg base 1 "is_list" s_is_list ["value"] m_is_list := let ⟨f, fd, h, F⟩ := B.f_is_list; ⟨f, fd, ok_is_list B F base, h, F⟩
abbrev sl_is_step : List Str := ["plan", "value"]
theorem ok_is_step (B : Facts P w K mg) {f : Addr} {fd : FuncData} (Fn : Fun K "is_step" "is_step" s_is_step f fd) (base : Heap) : FnG P w K mg base 4 f fd ["plan", "value"] m_is_step := ok_def (pin := pinL [0, 1]) Fn sc_is_step rfl (pins_ok rfl) fun le cdv A outer s H hr gd => letI : WC := WC0
  (ms_cons (ms_if (PW.pt (mw_or (mt_not (mt_val (mv_isi isOk_tuple (by rfl) B.z_isinstance (by rfl) B.z_tuple (by decide +kernel) (on_ (pv 1))))) (mw_or (mt_ne hr (ov (mv_blt call_len ok_len (by rfl) B.z_len (by decide +kernel) (mh_cons (on_ (pv 1)) mh_nil))) (ov mv_int)) (mw_or1 (mt_not (mt_val (mv_isi isOk_str (by rfl) B.z_isinstance (by rfl) B.z_str (by decide +kernel) (ov (mv_ixD (on_ (pv 1)) (ov mv_int)))))))))) (ms_one (ms_ret mv_bl)) ms_nil)
  (ms_cons (ms_if (mt_eq hr (ov (mv_ixD (on_ (pv 1)) (ov mv_int))) (ov (mv_strS ks5))) (ms_one (ms_ret (mv_c (cal_is_between B base) bd_is_between hr (by decide) gd (by rfl) (mh_cons (ov (mv_ixD (on_ (pv 1)) (ov mv_int))) (mh_cons (ov mv_int) (mh_cons (ov (mv_gd B.g_MOST_HEIGHT (by rfl))) mh_nil)))))) ms_nil)
  (ms_one (ms_ret (mv_and (mv_eq hr (ov (mv_ixD (on_ (pv 1)) (ov mv_int))) (ov (mv_strS ks4))) (mv_and (mv_c (cal_is_position B base) bd_is_position hr (by decide) gd (by rfl) (mh_cons (ov (mv_ixD (on_ (pv 1)) (ov mv_int))) (mh_cons (ov mv_int) mh_nil))) (mv_one (mv_in hr (ov (mv_ixD (on_ (pv 1)) (ov mv_int))) (on_ (pv 0))))))))))
theorem cal_is_step (B : Facts P w K mg) (base : Heap) : Cal P w K mg base 4 "is_step" s_is_step ["plan", "value"] m_is_step := let ⟨f, fd, h, F⟩ := B.f_is_step; ⟨f, fd, ok_is_step B F base, h, F⟩
abbrev sl_is_storm : List Str := ["plan", "value", "gone", "one"]
theorem ok_is_storm (B : Facts P w K mg) {f : Addr} {fd : FuncData} (Fn : Fun K "is_storm" "is_storm" s_is_storm f fd) (base : Heap) : FnG P w K mg base 5 f fd ["plan", "value"] m_is_storm := ok_def (pin := pinL [0, 1]) Fn sc_is_storm rfl (pins_ok rfl) fun le cdv A outer s H hr gd => letI : WC := WC0
  (ms_cons (ms_if (PW.pt (mw_or (mt_not (mt_val (mv_c (cal_is_list B base) bd_is_list hr (by decide) gd (by rfl) (mh_cons (on_ (pv 1)) mh_nil)))) (mw_or (mt_gt (ov (mv_blt call_len ok_len (by rfl) B.z_len (by decide +kernel) (mh_cons (on_ (pv 1)) mh_nil))) (ov (mv_gd B.g_MOST_STEPS (by rfl)))) (mw_or1 (mt_not (mt_val (mv_blt (cr_all rfl) ok_all (by rfl) B.z_all (by decide +kernel) (mh_cons (ov (mv_lc (own := [("one", 3)]) (g := cg1_is_storm) (t := ct1_is_storm) (e := ce1_is_storm) rfl sc_is_storm.nd (mi_any (on_ (pv 1))) (blkOk_by (own := [("one", 3)]) (N := sl_is_storm) (sc := defScope s_is_storm) (by decide +kernel)) (fun _ _ _ _ _ => (mg_name (pg_name (i := 3) sc_is_storm.nd rfl (.inl rfl)) rfl)) (fun _ _ _ _ _ => mpts_nil) (fun _ _ _ _ _ => (mv_c (cal_is_step B base) bd_is_step hr (by decide) gd (by rfl) (mh_cons (on_ (pv 0)) (mh_cons (on_ (pv 3)) mh_nil)))))) mh_nil)))))))) (ms_one (ms_ret mv_bl)) ms_nil)
  (ms_cons (ms_setLc (i := 2) (own := [("one", 3)]) (g := cg2_is_storm) (t := ct2_is_storm) (e := ce2_is_storm) rfl rfl sc_is_storm.nd rfl rfl (sw_true rfl rfl rfl (by decide +kernel)) (mi_any (on_ (pv 1))) (blkOk_by (own := [("one", 3)]) (N := sl_is_storm) (sc := defScope s_is_storm) (by decide +kernel)) (fun _ _ _ _ _ => (mg_name (pg_name (i := 3) sc_is_storm.nd rfl (.inl rfl)) rfl)) (fun _ _ _ _ _ => (mpts_one (mt_eq hr (ov (mv_ixD (on_ (pv 3)) (ov mv_int))) (ov (mv_strS ks4))))) (fun _ _ _ _ _ => (mv_ixD (on_ (pv 3)) (ov mv_int))))
  (ms_one (ms_ret (mv_and (mv_eq hr (ov (mv_lenSetA rfl (by rfl) B.z_len (by rfl) B.z_set (on_ (pv 2)))) (ov (mv_blt call_len ok_len (by rfl) B.z_len (by decide +kernel) (mh_cons (on_ (pv 2)) mh_nil)))) (mv_one (mv_le (ov (mv_sub (ov (mv_blt call_len ok_len (by rfl) B.z_len (by decide +kernel) (mh_cons (on_ (pv 1)) mh_nil))) (ov (mv_blt call_len ok_len (by rfl) B.z_len (by decide +kernel) (mh_cons (on_ (pv 2)) mh_nil))))) (ov (mv_gd B.g_MOST_HOURS (by rfl))))))))))
theorem cal_is_storm (B : Facts P w K mg) (base : Heap) : Cal P w K mg base 5 "is_storm" s_is_storm ["plan", "value"] m_is_storm := let ⟨f, fd, h, F⟩ := B.f_is_storm; ⟨f, fd, ok_is_storm B F base, h, F⟩
abbrev sl_check_storm : List Str := ["land", "plan", "storm"]
theorem ok_check_storm (B : Facts P w K mg) {f : Addr} {fd : FuncData} (Fn : Fun K "check_storm" "check_storm" s_check_storm f fd) (base : Heap) : FnG P w K mg base 7 f fd ["land", "plan", "storm"] m_check_storm := ok_def (pin := pinL [0, 1, 2]) Fn sc_check_storm rfl (pins_ok rfl) fun le cdv A outer s H hr gd => letI : WC := WC0
  (ms_cons (ms_drop (mv_c (cal_check_land B base) bd_check_land hr (by decide) gd (by rfl) (mh_cons (on_ (pv 0)) mh_nil)))
  (ms_cons (ms_drop (mv_c (cal_check_plan B base) bd_check_plan hr (by decide) gd (by rfl) (mh_cons (on_ (pv 0)) (mh_cons (on_ (pv 1)) mh_nil))))
  (ms_one (ms_if (mt_not (mt_val (mv_c (cal_is_storm B base) bd_is_storm hr (by decide) gd (by rfl) (mh_cons (on_ (pv 1)) (mh_cons (on_ (pv 2)) mh_nil))))) (ms_one ms_never1) ms_nil))))
theorem cal_check_storm (B : Facts P w K mg) (base : Heap) : Cal P w K mg base 7 "check_storm" s_check_storm ["land", "plan", "storm"] m_check_storm := let ⟨f, fd, h, F⟩ := B.f_check_storm; ⟨f, fd, ok_check_storm B F base, h, F⟩
abbrev sl_ends_of : List Str := ["land", "stretch"]
theorem ok_ends_of (B : Facts P w K mg) {f : Addr} {fd : FuncData} (Fn : Fun K "ends_of" "ends_of" s_ends_of f fd) (base : Heap) : FnG P w K mg base 1 f fd ["land", "stretch"] m_ends_of := ok_def (pin := pinL [0, 1]) Fn sc_ends_of rfl (pins_ok rfl) fun le cdv A outer s H hr gd => letI : WC := WC0
  (ms_one (ms_ret (mv_tup (ma_cons (mv_ixAny (mv_ixAny (mv_ixD (on_ (pv 0)) (ov mv_int)) (on_ (pv 1))) (ov mv_int)) (ma_cons (mv_ixAny (mv_ixAny (mv_ixD (on_ (pv 0)) (ov mv_int)) (on_ (pv 1))) (ov mv_int)) ma_nil)))))
theorem cal_ends_of (B : Facts P w K mg) (base : Heap) : Cal P w K mg base 1 "ends_of" s_ends_of ["land", "stretch"] m_ends_of := let ⟨f, fd, h, F⟩ := B.f_ends_of; ⟨f, fd, ok_ends_of B F base, h, F⟩
abbrev sl_is_less : List Str := ["one", "other"]
theorem ok_is_less (B : Facts P w K mg) {f : Addr} {fd : FuncData} (Fn : Fun K "is_less" "is_less" s_is_less f fd) (base : Heap) : FnG P w K mg base 1 f fd ["one", "other"] m_is_less := ok_def (pin := pinL [0, 1]) Fn sc_is_less rfl (pins_ok rfl) fun le cdv A outer s H hr gd => letI : WC := WC0
  (ms_one (ms_ret (mv_and (mv_notN (on_ (pv 1)) (ov mv_non)) (mv_one (mv_or (mv_isN (on_ (pv 0)) (ov mv_non)) (mv_one (mv_lt hr (on_ (pv 0)) (on_ (pv 1)))))))))
theorem cal_is_less (B : Facts P w K mg) (base : Heap) : Cal P w K mg base 1 "is_less" s_is_less ["one", "other"] m_is_less := let ⟨f, fd, h, F⟩ := B.f_is_less; ⟨f, fd, ok_is_less B F base, h, F⟩
abbrev sl_ground_of : List Str := ["land", "place"]
theorem ok_ground_of (B : Facts P w K mg) {f : Addr} {fd : FuncData} (Fn : Fun K "ground_of" "ground_of" s_ground_of f fd) (base : Heap) : FnG P w K mg base 1 f fd ["land", "place"] m_ground_of := ok_def (pin := pinL [0, 1]) Fn sc_ground_of rfl (pins_ok rfl) fun le cdv A outer s H hr gd => letI : WC := WC0
  (ms_one (ms_ret (mv_if (mt_gt (on_ (pv 1)) (ov mv_int)) (mv_ixAny (mv_ixAny (mv_ixD (on_ (pv 0)) (ov mv_int)) (ov (mv_sub (on_ (pv 1)) (ov mv_int)))) (ov mv_int)) mv_int)))
theorem cal_ground_of (B : Facts P w K mg) (base : Heap) : Cal P w K mg base 1 "ground_of" s_ground_of ["land", "place"] m_ground_of := let ⟨f, fd, h, F⟩ := B.f_ground_of; ⟨f, fd, ok_ground_of B F base, h, F⟩
abbrev sl_sill_at : List Str := ["land", "stretch", "one"]
theorem ok_sill_at (B : Facts P w K mg) {f : Addr} {fd : FuncData} (Fn : Fun K "sill_at" "sill_at" s_sill_at f fd) (base : Heap) : FnG P w K mg base 2 f fd ["land", "stretch"] m_sill_at := ok_def (pin := pinL [0, 1]) Fn sc_sill_at rfl (pins_ok rfl) fun le cdv A outer s H hr gd => letI : WC := WC0
  (ms_cons (ms_asg (mv_ixAny (mv_ixD (on_ (pv 0)) (ov mv_int)) (on_ (pv 1))) (mg_name (pg_name (i := 2) sc_sill_at.nd rfl (.inl rfl)) rfl))
  (ms_one (ms_ret (mv_blt (call_max3Nu rfl) ok_max3 (by rfl) B.z_max (by decide +kernel) (mh_cons (ov (mv_ixD (on_ (pv 2)) (ov mv_int))) (mh_cons (ov (mv_c (cal_ground_of B base) bd_ground_of hr (by decide) gd (by rfl) (mh_cons (on_ (pv 0)) (mh_cons (ov (mv_ixD (on_ (pv 2)) (ov mv_int))) mh_nil)))) (mh_cons (ov (mv_c (cal_ground_of B base) bd_ground_of hr (by decide) gd (by rfl) (mh_cons (on_ (pv 0)) (mh_cons (ov (mv_ixD (on_ (pv 2)) (ov mv_int))) mh_nil)))) mh_nil)))))))
theorem cal_sill_at (B : Facts P w K mg) (base : Heap) : Cal P w K mg base 2 "sill_at" s_sill_at ["land", "stretch"] m_sill_at := let ⟨f, fd, h, F⟩ := B.f_sill_at; ⟨f, fd, ok_sill_at B F base, h, F⟩
abbrev sl_spread : List Str := ["land", "let", "sea", "fields", "found", "is_new", "at", "one", "other", "place", "behind"]
theorem ok_spread (B : Facts P w K mg) {f : Addr} {fd : FuncData} (Fn : Fun K "spread" "spread" s_spread f fd) (base : Heap) : FnG P w K mg base 3 f fd ["land", "let", "sea", "fields"] m_spread := ok_def (pin := pinL [0, 1, 2, 3]) Fn sc_spread rfl (pins_ok rfl) fun le cdv A outer s H hr gd => letI : WC := WC0
  (ms_cons (ms_par (ps_par rfl sc_spread.nd rfl rfl (by decide) rfl rfl (ma_cons (mv_add (ov (mv_lst (ma_cons (mv_sh (pv 2)) ma_nil))) (ov (mv_bty call_list_of ok_list (by rfl) B.z_list (by decide +kernel) (mh_cons (on_ (pv 3)) mh_nil)))) (ma_cons mv_bl ma_nil)) rfl) rfl rfl)
  (ms_cons (ms_k1 (ms_while (t := wc3_spread) (b := wb3_spread) PassesOwn.never (mt_val (mv_tk (pv 5))) (ms_cons (ms_asg mv_bl (mg_name (pg_name (i := 5) sc_spread.nd rfl (.inl rfl)) rfl))
  (ms_one (ms_k1 (ms_for (g := wg2_spread) (b := wb2_spread) (pin' := pinU [1] (pinL [0, 1, 2, 3])) PassesOwn.never rfl (mi_any (on_ (pv 1))) (mg_name (pg_name (i := 6) sc_spread.nd rfl (.inl rfl)) rfl) (ms_cons (ms_asg (mv_c (cal_ends_of B base) bd_ends_of hr (by decide) gd (by rfl) (mh_cons (on_ (pv 0)) (mh_cons (on_ (pv 6)) mh_nil))) (mg_tup rfl (mgs_cons (mg_name (pg_name (i := 7) sc_spread.nd rfl (.inl rfl)) rfl) (mgs_cons (mg_name (pg_name (i := 8) sc_spread.nd rfl (.inl rfl)) rfl) mgs_nil))))
  (ms_one (ms_k1 (ms_for (g := wg1_spread) (b := wb1_spread) (pin' := pinU [] (pinU [1] (pinL [0, 1, 2, 3]))) PassesOwn.never rfl (mi_any (ov (mv_tup (ma_cons (mv_tup (ma_cons (mv_sh (pv 7)) (ma_cons (mv_sh (pv 8)) ma_nil))) (ma_cons (mv_tup (ma_cons (mv_tk (pv 8)) (ma_cons (mv_tk (pv 7)) ma_nil))) ma_nil))))) (mg_tup rfl (mgs_cons (mg_name (pg_name (i := 9) sc_spread.nd rfl (.inl rfl)) rfl) (mgs_cons (mg_name (pg_name (i := 10) sc_spread.nd rfl (.inl rfl)) rfl) mgs_nil))) (ms_one (ms_if (PW.pt (mw_and (mt_gt (on_ (pv 10)) (ov mv_int)) (mw_and (mt_val (mv_c (cal_is_less B base) bd_is_less hr (by decide) gd (by rfl) (mh_cons (ov (mv_c (cal_sill_at B base) bd_sill_at hr (by decide) gd (by rfl) (mh_cons (on_ (pv 0)) (mh_cons (on_ (pv 6)) mh_nil)))) (mh_cons (ov (mv_ixD (on_ (pv 4)) (on_ (pv 9)))) mh_nil)))) (mw_and1 (mt_val (mv_c (cal_is_less B base) bd_is_less hr (by decide) gd (by rfl) (mh_cons (ov (mv_ixD (on_ (pv 4)) (on_ (pv 10)))) (mh_cons (ov (mv_ixD (on_ (pv 4)) (on_ (pv 9)))) mh_nil)))))))) (ms_one (ms_asg (mv_tup (ma_cons (mv_ixD (on_ (pv 4)) (on_ (pv 9))) (ma_cons mv_bl ma_nil))) (mg_tup rfl (mgs_cons (mg_ix (pv 4) (on_ (pv 10))) (mgs_cons (mg_name (pg_name (i := 5) sc_spread.nd rfl (.inl rfl)) rfl) mgs_nil))))) ms_nil)) pinU_le (hs_val hs_nil))))) pinU_le (hs_slot rfl hs_nil)))))))
  (ms_one (ms_ret (mv_bty call_tuple_of ok_tuple (by rfl) B.z_tuple (by decide +kernel) (mh_cons (ov (mv_sl (on_ (pv 4)) (mp_some (ov mv_int)) mp_none)) mh_nil))))))
theorem cal_spread (B : Facts P w K mg) (base : Heap) : Cal P w K mg base 3 "spread" s_spread ["land", "let", "sea", "fields"] m_spread := let ⟨f, fd, h, F⟩ := B.f_spread; ⟨f, fd, ok_spread B F base, h, F⟩
abbrev sl_passes : List Str := ["hours", "stretch", "hour"]
theorem ok_passes (B : Facts P w K mg) {f : Addr} {fd : FuncData} (Fn : Fun K "passes" "passes" s_passes f fd) (base : Heap) : FnG P w K mg base 1 f fd ["hours", "stretch", "hour"] m_passes := ok_def (pin := pinL [0, 1, 2]) Fn sc_passes rfl (pins_ok rfl) fun le cdv A outer s H hr gd => letI : WC := WC0
  (ms_one (ms_ret (mv_or (mv_niK hr (on_ (pv 1)) (on_ (pv 0))) (mv_one (mv_le (ov (mv_ixK hr (on_ (pv 0)) (on_ (pv 1)))) (on_ (pv 2)))))))
theorem cal_passes (B : Facts P w K mg) (base : Heap) : Cal P w K mg base 1 "passes" s_passes ["hours", "stretch", "hour"] m_passes := let ⟨f, fd, h, F⟩ := B.f_passes; ⟨f, fd, ok_passes B F base, h, F⟩
abbrev sl_levels_from : List Str := ["land", "heights", "hours", "found", "fields", "hour", "height", "let", "at"]
theorem ok_levels_from (B : Facts P w K mg) {f : Addr} {fd : FuncData} (Fn : Fun K "levels_from" "levels_from" s_levels_from f fd) (base : Heap) : FnG P w K mg base 4 f fd ["land", "heights", "hours"] m_levels_from := ok_def (pin := pinL [0, 1, 2]) Fn sc_levels_from rfl (pins_ok rfl) fun le cdv A outer s H hr gd => letI : WC := WC0
  (ms_cons (ms_par (ps_par rfl sc_levels_from.nd rfl rfl (by decide) rfl rfl (ma_cons (mv_lst ma_nil) (ma_cons (mv_bty call_tuple_of ok_tuple (by rfl) B.z_tuple (by decide +kernel) (mh_cons (ov (mv_mulT (ov (mv_lst (ma_cons mv_non ma_nil))) (ov (mv_blt call_len ok_len (by rfl) B.z_len (by decide +kernel) (mh_cons (ov (mv_ixD (on_ (pv 0)) (ov mv_int))) mh_nil))))) mh_nil)) ma_nil)) rfl) rfl rfl)
  (ms_cons (ms_k1 (ms_for (g := wg2_levels_from) (b := wb2_levels_from) (pin' := pinU [1] (pinL [0, 1, 2])) PassesOwn.never rfl (mi_enumA (by rfl) B.z_enumerate (mh_cons (on_ (pv 1)) mh_nil)) (mg_tup rfl (mgs_cons (mg_name (pg_name (i := 5) sc_levels_from.nd rfl (.inr rfl)) rfl) (mgs_cons (mg_name (pg_name (i := 6) sc_levels_from.nd rfl (.inl rfl)) rfl) mgs_nil))) (ms_cons (ms_setLc (i := 7) (own := [("at", 8)]) (g := cg1_levels_from) (t := ct1_levels_from) (e := ce1_levels_from) rfl rfl sc_levels_from.nd rfl rfl (sw_true rfl rfl rfl (by decide +kernel)) (mi_rng1 (by rfl) B.z_range (mh_cons (ov (mv_blt call_len ok_len (by rfl) B.z_len (by decide +kernel) (mh_cons (ov (mv_ixD (on_ (pv 0)) (ov mv_int))) mh_nil))) mh_nil)) (blkOk_by (own := [("at", 8)]) (N := sl_levels_from) (sc := defScope s_levels_from) (by decide +kernel)) (fun _ _ _ _ _ => (mg_name (pg_name (i := 8) sc_levels_from.nd rfl (.inl rfl)) rfl)) (fun _ _ _ _ _ => (mpts_one (mt_val (mv_c (cal_passes B base) bd_passes hr (by decide) gd (by rfl) (mh_cons (on_ (pv 2)) (mh_cons (on_ (pv 8)) (mh_cons (on_ (pv 5)) mh_nil))))))) (fun _ _ _ _ _ => (mv_tk (pv 8))))
  (ms_cons (ms_asg (mv_c (cal_spread B base) bd_spread hr (by decide) gd (by rfl) (mh_cons (on_ (pv 0)) (mh_cons (on_ (pv 7)) (mh_cons (on_ (pv 6)) (mh_cons (on_ (pv 4)) mh_nil))))) (mg_name (pg_name (i := 4) sc_levels_from.nd rfl (.inl rfl)) rfl))
  (ms_one (ms_drop (mv_append (pv 3) (ma_cons (mv_sh (pv 4)) ma_nil)))))) pinU_le (hs_slot rfl hs_nil)))
  (ms_one (ms_ret (mv_tk (pv 3))))))
theorem cal_levels_from (B : Facts P w K mg) (base : Heap) : Cal P w K mg base 4 "levels_from" s_levels_from ["land", "heights", "hours"] m_levels_from := let ⟨f, fd, h, F⟩ := B.f_levels_from; ⟨f, fd, ok_levels_from B F base, h, F⟩
abbrev sl_heights_by : List Str := ["storm", "one"]
theorem ok_heights_by (B : Facts P w K mg) {f : Addr} {fd : FuncData} (Fn : Fun K "heights_by" "heights_by" s_heights_by f fd) (base : Heap) : FnG P w K mg base 1 f fd ["storm"] m_heights_by := ok_def (pin := pinL [0]) Fn sc_heights_by rfl (pins_ok rfl) fun le cdv A outer s H hr gd => letI : WC := WC0
  (ms_one (ms_ret (mv_lc (own := [("one", 1)]) (g := cg1_heights_by) (t := ct1_heights_by) (e := ce1_heights_by) rfl sc_heights_by.nd (mi_any (on_ (pv 0))) (blkOk_by (own := [("one", 1)]) (N := sl_heights_by) (sc := defScope s_heights_by) (by decide +kernel)) (fun _ _ _ _ _ => (mg_name (pg_name (i := 1) sc_heights_by.nd rfl (.inl rfl)) rfl)) (fun _ _ _ _ _ => (mpts_one (mt_eq hr (ov (mv_ixD (on_ (pv 1)) (ov mv_int))) (ov (mv_strS ks5))))) (fun _ _ _ _ _ => (mv_ixD (on_ (pv 1)) (ov mv_int))))))
theorem cal_heights_by (B : Facts P w K mg) (base : Heap) : Cal P w K mg base 1 "heights_by" s_heights_by ["storm"] m_heights_by := let ⟨f, fd, h, F⟩ := B.f_heights_by; ⟨f, fd, ok_heights_by B F base, h, F⟩
abbrev sl_hours_by : List Str := ["plan", "storm", "found", "hour", "word", "told", "at"]
theorem ok_hours_by (B : Facts P w K mg) {f : Addr} {fd : FuncData} (Fn : Fun K "hours_by" "hours_by" s_hours_by f fd) (base : Heap) : FnG P w K mg base 2 f fd ["plan", "storm"] m_hours_by := ok_def (pin := pinL [0, 1]) Fn sc_hours_by rfl (pins_ok rfl) fun le cdv A outer s H hr gd => letI : WC := WC0
  (ms_cons (ms_par (ps_par rfl sc_hours_by.nd rfl rfl (by decide) rfl rfl (ma_cons (mv_bty (call_dictP rfl) ok_dict (by rfl) B.z_dict (by decide +kernel) (mh_cons (ov (mv_lc (own := [("at", 6)]) (g := cg1_hours_by) (t := ct1_hours_by) (e := ce1_hours_by) rfl sc_hours_by.nd (mi_any (on_ (pv 0))) (blkOk_by (own := [("at", 6)]) (N := sl_hours_by) (sc := defScope s_hours_by) (by decide +kernel)) (fun _ _ _ _ _ => (mg_name (pg_name (i := 6) sc_hours_by.nd rfl (.inl rfl)) rfl)) (fun _ _ _ _ _ => mpts_nil) (fun _ _ _ _ _ => (mv_tup (ma_cons (mv_tk (pv 6)) (ma_cons (mv_blt call_len ok_len (by rfl) B.z_len (by decide +kernel) (mh_cons (ov (mv_c (cal_heights_by B base) bd_heights_by hr (by decide) gd (by rfl) (mh_cons (on_ (pv 1)) mh_nil))) mh_nil)) ma_nil)))))) mh_nil)) (ma_cons mv_int ma_nil)) rfl) rfl rfl)
  (ms_cons (ms_k1 (ms_for (g := wg2_hours_by) (b := wb2_hours_by) (pin' := pinU [1] (pinL [0, 1])) PassesOwn.never rfl (mi_any (on_ (pv 1))) (mg_tup rfl (mgs_cons (mg_name (pg_name (i := 4) sc_hours_by.nd rfl (.inl rfl)) rfl) (mgs_cons (mg_name (pg_name (i := 5) sc_hours_by.nd rfl (.inl rfl)) rfl) mgs_nil))) (ms_one (ms_if (mt_eq hr (on_ (pv 4)) (ov (mv_strS ks5))) (ms_one (ms_asg (mv_add (on_ (pv 3)) (ov mv_int)) (mg_name (pg_name (i := 3) sc_hours_by.nd rfl (.inl rfl)) rfl))) (ms_one (ms_asg (mv_sh (pv 3)) (mg_ky hr (pv 2) (on_ (pv 5))))))) pinU_le (hs_slot rfl hs_nil)))
  (ms_one (ms_ret (mv_tk (pv 2))))))
theorem cal_hours_by (B : Facts P w K mg) (base : Heap) : Cal P w K mg base 2 "hours_by" s_hours_by ["plan", "storm"] m_hours_by := let ⟨f, fd, h, F⟩ := B.f_hours_by; ⟨f, fd, ok_hours_by B F base, h, F⟩
abbrev sl_levels_by : List Str := ["land", "plan", "storm"]
theorem ok_levels_by (B : Facts P w K mg) {f : Addr} {fd : FuncData} (Fn : Fun K "levels_by" "levels_by" s_levels_by f fd) (base : Heap) : FnG P w K mg base 5 f fd ["land", "plan", "storm"] m_levels_by := ok_def (pin := pinL [0, 1, 2]) Fn sc_levels_by rfl (pins_ok rfl) fun le cdv A outer s H hr gd => letI : WC := WC0
  (ms_one (ms_ret (mv_c (cal_levels_from B base) bd_levels_from hr (by decide) gd (by rfl) (mh_cons (on_ (pv 0)) (mh_cons (ov (mv_c (cal_heights_by B base) bd_heights_by hr (by decide) gd (by rfl) (mh_cons (on_ (pv 2)) mh_nil))) (mh_cons (ov (mv_c (cal_hours_by B base) bd_hours_by hr (by decide) gd (by rfl) (mh_cons (on_ (pv 1)) (mh_cons (on_ (pv 2)) mh_nil)))) mh_nil))))))
theorem cal_levels_by (B : Facts P w K mg) (base : Heap) : Cal P w K mg base 5 "levels_by" s_levels_by ["land", "plan", "storm"] m_levels_by := let ⟨f, fd, h, F⟩ := B.f_levels_by; ⟨f, fd, ok_levels_by B F base, h, F⟩
abbrev sl_levels : List Str := ["land", "plan", "storm"]
theorem ok_levels (B : Facts P w K mg) {f : Addr} {fd : FuncData} (Fn : Fun K "levels" "levels" s_levels f fd) (base : Heap) : FnG P w K mg base 8 f fd ["land", "plan", "storm"] m_levels := ok_def (pin := pinL [0, 1, 2]) Fn sc_levels rfl (pins_ok rfl) fun le cdv A outer s H hr gd => letI : WC := WC0
  (ms_cons (ms_drop (mv_c (cal_check_storm B base) bd_check_storm hr (by decide) gd (by rfl) (mh_cons (on_ (pv 0)) (mh_cons (on_ (pv 1)) (mh_cons (on_ (pv 2)) mh_nil)))))
  (ms_one (ms_ret (mv_c (cal_levels_by B base) bd_levels_by hr (by decide) gd (by rfl) (mh_cons (on_ (pv 0)) (mh_cons (on_ (pv 1)) (mh_cons (on_ (pv 2)) mh_nil)))))))
theorem cal_levels (B : Facts P w K mg) (base : Heap) : Cal P w K mg base 8 "levels" s_levels ["land", "plan", "storm"] m_levels := let ⟨f, fd, h, F⟩ := B.f_levels; ⟨f, fd, ok_levels B F base, h, F⟩
abbrev sl__law_heights : List Str := ["storm", "step"]
theorem ok__law_heights (B : Facts P w K mg) {f : Addr} {fd : FuncData} (Fn : Fun K "_law_heights" "_law_heights" s__law_heights f fd) (base : Heap) : FnG P w K mg base 1 f fd ["storm"] m__law_heights := ok_def (pin := pinL [0]) Fn sc__law_heights rfl (pins_ok rfl) fun le cdv A outer s H hr gd => letI : WC := WC0
  (ms_one (ms_ret (mv_lc (own := [("step", 1)]) (g := cg1__law_heights) (t := ct1__law_heights) (e := ce1__law_heights) rfl sc__law_heights.nd (mi_any (on_ (pv 0))) (blkOk_by (own := [("step", 1)]) (N := sl__law_heights) (sc := defScope s__law_heights) (by decide +kernel)) (fun _ _ _ _ _ => (mg_name (pg_name (i := 1) sc__law_heights.nd rfl (.inl rfl)) rfl)) (fun _ _ _ _ _ => (mpts_one (mt_eq hr (ov (mv_ixD (on_ (pv 1)) (ov mv_int))) (ov (mv_strS ks5))))) (fun _ _ _ _ _ => (mv_ixD (on_ (pv 1)) (ov mv_int))))))
theorem cal__law_heights (B : Facts P w K mg) (base : Heap) : Cal P w K mg base 1 "_law_heights" s__law_heights ["storm"] m__law_heights := let ⟨f, fd, h, F⟩ := B.f__law_heights; ⟨f, fd, ok__law_heights B F base, h, F⟩
abbrev sl__law_hours : List Str := ["land", "plan", "storm", "many", "found", "hour", "word", "number", "at"]
theorem ok__law_hours (B : Facts P w K mg) {f : Addr} {fd : FuncData} (Fn : Fun K "_law_hours" "_law_hours" s__law_hours f fd) (base : Heap) : FnG P w K mg base 2 f fd ["land", "plan", "storm"] m__law_hours := ok_def (pin := pinL [0, 1, 2]) Fn sc__law_hours rfl (pins_ok rfl) fun le cdv A outer s H hr gd => letI : WC := WC0
  (ms_cons (ms_asg (mv_blt call_len ok_len (by rfl) B.z_len (by decide +kernel) (mh_cons (ov (mv_c (cal__law_heights B base) bd__law_heights hr (by decide) gd (by rfl) (mh_cons (on_ (pv 2)) mh_nil))) mh_nil)) (mg_name (pg_name (i := 3) sc__law_hours.nd rfl (.inr rfl)) rfl))
  (ms_cons (ms_par (ps_par rfl sc__law_hours.nd rfl rfl (by decide) rfl rfl (ma_cons (mv_lc (own := [("at", 8)]) (g := cg1__law_hours) (t := ct1__law_hours) (e := ce1__law_hours) rfl sc__law_hours.nd (mi_rng1 (by rfl) B.z_range (mh_cons (ov (mv_blt call_len ok_len (by rfl) B.z_len (by decide +kernel) (mh_cons (ov (mv_ixD (on_ (pv 0)) (ov mv_int))) mh_nil))) mh_nil)) (blkOk_by (own := [("at", 8)]) (N := sl__law_hours) (sc := defScope s__law_hours) (by decide +kernel)) (fun _ _ _ _ _ => (mg_name (pg_name (i := 8) sc__law_hours.nd rfl (.inl rfl)) rfl)) (fun _ _ _ _ _ => mpts_nil) (fun _ _ _ _ _ => (mv_if (mt_notIn hr (on_ (pv 8)) (on_ (pv 1))) mv_int (mv_sh (pv 3))))) (ma_cons mv_int ma_nil)) rfl) rfl rfl)
  (ms_cons (ms_k1 (ms_for (g := wg2__law_hours) (b := wb2__law_hours) (pin' := pinU [2] (pinL [0, 1, 2])) PassesOwn.never rfl (mi_any (on_ (pv 2))) (mg_tup rfl (mgs_cons (mg_name (pg_name (i := 6) sc__law_hours.nd rfl (.inl rfl)) rfl) (mgs_cons (mg_name (pg_name (i := 7) sc__law_hours.nd rfl (.inl rfl)) rfl) mgs_nil))) (ms_one (ms_if (mt_eq hr (on_ (pv 6)) (ov (mv_strS ks5))) (ms_one (ms_asg (mv_add (on_ (pv 5)) (ov mv_int)) (mg_name (pg_name (i := 5) sc__law_hours.nd rfl (.inl rfl)) rfl))) (ms_one (ms_asg (mv_sh (pv 5)) (mg_ix (pv 4) (on_ (pv 7))))))) pinU_le (hs_slot rfl hs_nil)))
  (ms_one (ms_ret (mv_tk (pv 4)))))))
theorem cal__law_hours (B : Facts P w K mg) (base : Heap) : Cal P w K mg base 2 "_law_hours" s__law_hours ["land", "plan", "storm"] m__law_hours := let ⟨f, fd, h, F⟩ := B.f__law_hours; ⟨f, fd, ok__law_hours B F base, h, F⟩
abbrev sl__law_same : List Str := ["told", "due", "near", "far"]
theorem okr__law_same (B : Facts P w K mg) (base : Heap) : ∀ (n : Nat) {f : Addr} {fd : FuncData} (Fn : Fun K "_law_same" "_law_same" s__law_same f fd), FnG P w K mg base (1 + n) f fd ["told", "due"] (mr__law_same n)
  | 0, _, _, _ => FnG.zero
  | n + 1, f, fd, Fn =>
    have cr : Cal P w K mg base (1 + n) "_law_same" s__law_same ["told", "due"] (mr__law_same n) := Cal.of B.f__law_same (okr__law_same B base n)
    let mr : Fm := mr__law_same n
    ok_def (k := 1 + n) (pin := pinL [0, 1]) Fn sc__law_same rfl (pins_ok rfl) fun le cdv A outer s H hr gd => letI : WC := WC0
  (ms_cons (ms_if (mt_isN (on_ (pv 1)) (ov mv_non)) (ms_one (ms_ret (mv_isN (on_ (pv 0)) (ov mv_non)))) ms_nil)
  (ms_cons (ms_if (mt_val (mv_isi isOk_bool (by rfl) B.z_isinstance (by rfl) B.z_bool (by decide +kernel) (on_ (pv 1)))) (ms_one (ms_ret (mv_and (mv_isi isOk_bool (by rfl) B.z_isinstance (by rfl) B.z_bool (by decide +kernel) (on_ (pv 0))) (mv_one (mv_eq hr (on_ (pv 0)) (on_ (pv 1))))))) ms_nil)
  (ms_cons (ms_if (mt_val (mv_isi isOk_str (by rfl) B.z_isinstance (by rfl) B.z_str (by decide +kernel) (on_ (pv 1)))) (ms_one (ms_ret (mv_and (mv_isi isOk_str (by rfl) B.z_isinstance (by rfl) B.z_str (by decide +kernel) (on_ (pv 0))) (mv_one (mv_eq hr (on_ (pv 0)) (on_ (pv 1))))))) ms_nil)
  (ms_cons (ms_if (mt_val (mv_isi isOk_int (by rfl) B.z_isinstance (by rfl) B.z_int (by decide +kernel) (on_ (pv 1)))) (ms_one (ms_ret (mv_and (mv_isi isOk_int (by rfl) B.z_isinstance (by rfl) B.z_int (by decide +kernel) (on_ (pv 0))) (mv_and (mv_not (mv_isi isOk_bool (by rfl) B.z_isinstance (by rfl) B.z_bool (by decide +kernel) (on_ (pv 0)))) (mv_one (mv_eq hr (on_ (pv 0)) (on_ (pv 1)))))))) ms_nil)
  (ms_cons (ms_if (mt_val (mv_isi isOk_tuple (by rfl) B.z_isinstance (by rfl) B.z_tuple (by decide +kernel) (on_ (pv 1)))) (ms_cons (ms_if (PW.pt (mw_or (mt_not (mt_val (mv_isi isOk_tuple (by rfl) B.z_isinstance (by rfl) B.z_tuple (by decide +kernel) (on_ (pv 0))))) (mw_or1 (mt_ne hr (ov (mv_blt call_len ok_len (by rfl) B.z_len (by decide +kernel) (mh_cons (on_ (pv 0)) mh_nil))) (ov (mv_blt call_len ok_len (by rfl) B.z_len (by decide +kernel) (mh_cons (on_ (pv 1)) mh_nil))))))) (ms_one (ms_ret mv_bl)) ms_nil)
  (ms_one (ms_ret (mv_blt (cr_all rfl) ok_all (by rfl) B.z_all (by decide +kernel) (mh_cons (ov (mv_lc (own := [("near", 2), ("far", 3)]) (g := (cg1__law_same mr)) (t := (ct1__law_same mr)) (e := (ce1__law_same mr)) rfl sc__law_same.nd (mi_zipA (by rfl) B.z_zip (mh_cons (on_ (pv 0)) (mh_cons (on_ (pv 1)) mh_nil))) (blkOk_by (own := [("near", 2), ("far", 3)]) (N := sl__law_same) (sc := defScope s__law_same) (by decide +kernel)) (fun _ _ _ _ _ => (mg_tup rfl (mgs_cons (mg_name (pg_name (i := 2) sc__law_same.nd rfl (.inl rfl)) rfl) (mgs_cons (mg_name (pg_name (i := 3) sc__law_same.nd rfl (.inl rfl)) rfl) mgs_nil)))) (fun _ _ _ _ _ => mpts_nil) (fun _ _ _ _ _ => (mv_c (cr) bd__law_same hr (Nat.le_refl _) gd (by rfl) (mh_cons (on_ (pv 2)) (mh_cons (on_ (pv 3)) mh_nil)))))) mh_nil))))) ms_nil)
  (ms_cons (ms_if (mt_val (mv_isi isOk_list (by rfl) B.z_isinstance (by rfl) B.z_list (by decide +kernel) (on_ (pv 1)))) (ms_cons (ms_if (PW.pt (mw_or (mt_not (mt_val (mv_isi isOk_list (by rfl) B.z_isinstance (by rfl) B.z_list (by decide +kernel) (on_ (pv 0))))) (mw_or1 (mt_ne hr (ov (mv_blt call_len ok_len (by rfl) B.z_len (by decide +kernel) (mh_cons (on_ (pv 0)) mh_nil))) (ov (mv_blt call_len ok_len (by rfl) B.z_len (by decide +kernel) (mh_cons (on_ (pv 1)) mh_nil))))))) (ms_one (ms_ret mv_bl)) ms_nil)
  (ms_one (ms_ret (mv_blt (cr_all rfl) ok_all (by rfl) B.z_all (by decide +kernel) (mh_cons (ov (mv_lc (own := [("near", 2), ("far", 3)]) (g := (cg2__law_same mr)) (t := (ct2__law_same mr)) (e := (ce2__law_same mr)) rfl sc__law_same.nd (mi_zipA (by rfl) B.z_zip (mh_cons (on_ (pv 0)) (mh_cons (on_ (pv 1)) mh_nil))) (blkOk_by (own := [("near", 2), ("far", 3)]) (N := sl__law_same) (sc := defScope s__law_same) (by decide +kernel)) (fun _ _ _ _ _ => (mg_tup rfl (mgs_cons (mg_name (pg_name (i := 2) sc__law_same.nd rfl (.inl rfl)) rfl) (mgs_cons (mg_name (pg_name (i := 3) sc__law_same.nd rfl (.inl rfl)) rfl) mgs_nil)))) (fun _ _ _ _ _ => mpts_nil) (fun _ _ _ _ _ => (mv_c (cr) bd__law_same hr (Nat.le_refl _) gd (by rfl) (mh_cons (on_ (pv 2)) (mh_cons (on_ (pv 3)) mh_nil)))))) mh_nil))))) ms_nil)
  (ms_one (ms_ret (mv_eq hr (on_ (pv 0)) (on_ (pv 1)))))))))))
theorem ok__law_same (B : Facts P w K mg) {f : Addr} {fd : FuncData} (Fn : Fun K "_law_same" "_law_same" s__law_same f fd) (base : Heap) : FnG P w K mg base 9 f fd ["told", "due"] m__law_same := okr__law_same B base 8 Fn
theorem cal__law_same (B : Facts P w K mg) (base : Heap) : Cal P w K mg base 9 "_law_same" s__law_same ["told", "due"] m__law_same := let ⟨f, fd, h, F⟩ := B.f__law_same; ⟨f, fd, ok__law_same B F base, h, F⟩
abbrev sl__law_first : List Str := ["due", "place", "level", "some", "hour", "row"]
theorem ok__law_first (B : Facts P w K mg) {f : Addr} {fd : FuncData} (Fn : Fun K "_law_first" "_law_first" s__law_first f fd) (base : Heap) : FnG P w K mg base 1 f fd ["due", "place", "level"] m__law_first := ok_def (pin := pinL [0, 1, 2]) Fn sc__law_first rfl (pins_ok rfl) fun le cdv A outer s H hr gd => letI : WC := WC0
  (ms_cons (ms_setLc (i := 3) (own := [("hour", 4), ("row", 5)]) (g := cg1__law_first) (t := ct1__law_first) (e := ce1__law_first) rfl rfl sc__law_first.nd rfl rfl (sw_true rfl rfl rfl (by decide +kernel)) (mi_enumA (by rfl) B.z_enumerate (mh_cons (on_ (pv 0)) mh_nil)) (blkOk_by (own := [("hour", 4), ("row", 5)]) (N := sl__law_first) (sc := defScope s__law_first) (by decide +kernel)) (fun _ _ _ _ _ => (mg_tup rfl (mgs_cons (mg_name (pg_name (i := 4) sc__law_first.nd rfl (.inl rfl)) rfl) (mgs_cons (mg_name (pg_name (i := 5) sc__law_first.nd rfl (.inl rfl)) rfl) mgs_nil)))) (fun _ _ _ _ _ => (mpts_one (PW.pt (mw_and (mt_notN (ov (mv_ixD (on_ (pv 5)) (ov (mv_sub (on_ (pv 1)) (ov mv_int))))) (ov mv_non)) (mw_and1 (mt_ge (ov (mv_ixD (on_ (pv 5)) (ov (mv_sub (on_ (pv 1)) (ov mv_int))))) (on_ (pv 2)))))))) (fun _ _ _ _ _ => (mv_tk (pv 4))))
  (ms_one (ms_ret (mv_if (mt_ne hr (on_ (pv 3)) (ov (mv_lst ma_nil))) (mv_ixD (on_ (pv 3)) (ov mv_int)) mv_non))))
theorem cal__law_first (B : Facts P w K mg) (base : Heap) : Cal P w K mg base 1 "_law_first" s__law_first ["due", "place", "level"] m__law_first := let ⟨f, fd, h, F⟩ := B.f__law_first; ⟨f, fd, ok__law_first B F base, h, F⟩
abbrev sl__law_more : List Str := ["pot", "storm", "found", "gone", "step"]
theorem ok__law_more (B : Facts P w K mg) {f : Addr} {fd : FuncData} (Fn : Fun K "_law_more" "_law_more" s__law_more f fd) (base : Heap) : FnG P w K mg base 2 f fd ["pot", "storm"] m__law_more := ok_def (pin := pinL [0, 1]) Fn sc__law_more rfl (pins_ok rfl) fun le cdv A outer s H hr gd => letI : WC := WC0
  (ms_cons (ms_par (ps_par rfl sc__law_more.nd rfl rfl (by decide) rfl rfl (ma_cons (mv_lst ma_nil) (ma_cons (mv_lc (own := [("step", 4)]) (g := cg1__law_more) (t := ct1__law_more) (e := ce1__law_more) rfl sc__law_more.nd (mi_any (on_ (pv 1))) (blkOk_by (own := [("step", 4)]) (N := sl__law_more) (sc := defScope s__law_more) (by decide +kernel)) (fun _ _ _ _ _ => (mg_name (pg_name (i := 4) sc__law_more.nd rfl (.inl rfl)) rfl)) (fun _ _ _ _ _ => (mpts_one (PW.pt (mw_and (mt_eq hr (ov (mv_ixD (on_ (pv 4)) (ov mv_int))) (ov (mv_strS ks4))) (mw_and1 (mt_eq hr (ov (mv_c (cal__law_draw B base) bd__law_draw hr (by decide) gd (by rfl) (mh_cons (on_ (pv 0)) (mh_cons (ov mv_int) mh_nil)))) (ov mv_int))))))) (fun _ _ _ _ _ => (mv_tk (pv 4)))) ma_nil)) rfl) rfl rfl)
  (ms_cons (ms_k1 (ms_for (g := wg2__law_more) (b := wb2__law_more) (pin' := pinU [1] (pinL [0, 1])) PassesOwn.never rfl (mi_any (on_ (pv 1))) (mg_name (pg_name (i := 4) sc__law_more.nd rfl (.inl rfl)) rfl) (ms_one (ms_if (mt_eq hr (ov (mv_ixD (on_ (pv 4)) (ov mv_int))) (ov (mv_strS ks5))) (ms_one (ms_drop (mv_append (pv 2) (ma_cons (mv_tup (ma_cons (mv_strS ks5) (ma_cons (mv_add (ov (mv_ixD (on_ (pv 4)) (ov mv_int))) (ov (mv_c (cal__law_draw B base) bd__law_draw hr (by decide) gd (by rfl) (mh_cons (on_ (pv 0)) (mh_cons (ov mv_int) mh_nil))))) ma_nil))) ma_nil)))) (ms_one (ms_if (mt_notIn hr (on_ (pv 4)) (on_ (pv 3))) (ms_one (ms_drop (mv_append (pv 2) (ma_cons (mv_tk (pv 4)) ma_nil)))) ms_nil)))) pinU_le (hs_slot rfl hs_nil)))
  (ms_one (ms_ret (mv_add (on_ (pv 3)) (on_ (pv 2)))))))
theorem cal__law_more (B : Facts P w K mg) (base : Heap) : Cal P w K mg base 2 "_law_more" s__law_more ["pot", "storm"] m__law_more := let ⟨f, fd, h, F⟩ := B.f__law_more; ⟨f, fd, ok__law_more B F base, h, F⟩
abbrev sl_heights_of : List Str := ["land", "plan", "storm"]
theorem ok_heights_of (B : Facts P w K mg) {f : Addr} {fd : FuncData} (Fn : Fun K "heights_of" "heights_of" s_heights_of f fd) (base : Heap) : FnG P w K mg base 8 f fd ["land", "plan", "storm"] m_heights_of := ok_def (pin := pinL [0, 1, 2]) Fn sc_heights_of rfl (pins_ok rfl) fun le cdv A outer s H hr gd => letI : WC := WC0
  (ms_cons (ms_drop (mv_c (cal_check_storm B base) bd_check_storm hr (by decide) gd (by rfl) (mh_cons (on_ (pv 0)) (mh_cons (on_ (pv 1)) (mh_cons (on_ (pv 2)) mh_nil)))))
  (ms_one (ms_ret (mv_c (cal_heights_by B base) bd_heights_by hr (by decide) gd (by rfl) (mh_cons (on_ (pv 2)) mh_nil)))))
theorem cal_heights_of (B : Facts P w K mg) (base : Heap) : Cal P w K mg base 8 "heights_of" s_heights_of ["land", "plan", "storm"] m_heights_of := let ⟨f, fd, h, F⟩ := B.f_heights_of; ⟨f, fd, ok_heights_of B F base, h, F⟩
abbrev sl_check_hour : List Str := ["storm", "hour"]
theorem ok_check_hour (B : Facts P w K mg) {f : Addr} {fd : FuncData} (Fn : Fun K "check_hour" "check_hour" s_check_hour f fd) (base : Heap) : FnG P w K mg base 4 f fd ["storm", "hour"] m_check_hour := ok_def (pin := pinL [0, 1]) Fn sc_check_hour rfl (pins_ok rfl) fun le cdv A outer s H hr gd => letI : WC := WC0
  (ms_one (ms_if (mt_not (mt_val (mv_c (cal_is_position B base) bd_is_position hr (by decide) gd (by rfl) (mh_cons (on_ (pv 1)) (mh_cons (ov (mv_blt call_len ok_len (by rfl) B.z_len (by decide +kernel) (mh_cons (ov (mv_c (cal_heights_by B base) bd_heights_by hr (by decide) gd (by rfl) (mh_cons (on_ (pv 0)) mh_nil))) mh_nil))) mh_nil))))) (ms_one ms_never1) ms_nil))
theorem cal_check_hour (B : Facts P w K mg) (base : Heap) : Cal P w K mg base 4 "check_hour" s_check_hour ["storm", "hour"] m_check_hour := let ⟨f, fd, h, F⟩ := B.f_check_hour; ⟨f, fd, ok_check_hour B F base, h, F⟩
abbrev sl_gone_by : List Str := ["land", "plan", "storm", "hour", "at", "first"]
theorem ok_gone_by (B : Facts P w K mg) {f : Addr} {fd : FuncData} (Fn : Fun K "gone_by" "gone_by" s_gone_by f fd) (base : Heap) : FnG P w K mg base 8 f fd ["land", "plan", "storm", "hour"] m_gone_by := ok_def (pin := pinL [0, 1, 2, 3]) Fn sc_gone_by rfl (pins_ok rfl) fun le cdv A outer s H hr gd => letI : WC := WC0
  (ms_cons (ms_drop (mv_c (cal_check_storm B base) bd_check_storm hr (by decide) gd (by rfl) (mh_cons (on_ (pv 0)) (mh_cons (on_ (pv 1)) (mh_cons (on_ (pv 2)) mh_nil)))))
  (ms_cons (ms_drop (mv_c (cal_check_hour B base) bd_check_hour hr (by decide) gd (by rfl) (mh_cons (on_ (pv 2)) (mh_cons (on_ (pv 3)) mh_nil))))
  (ms_one (ms_ret (mv_bty call_tuple_of ok_tuple (by rfl) B.z_tuple (by decide +kernel) (mh_cons (ov (mv_lc (own := [("at", 4), ("first", 5)]) (g := cg1_gone_by) (t := ct1_gone_by) (e := ce1_gone_by) rfl sc_gone_by.nd (mi_any (ov (mv_sortIt rfl (by rfl) B.z_sorted (ov (mv_c (cal_hours_by B base) bd_hours_by hr (by decide) gd (by rfl) (mh_cons (on_ (pv 1)) (mh_cons (on_ (pv 2)) mh_nil))))))) (blkOk_by (own := [("at", 4), ("first", 5)]) (N := sl_gone_by) (sc := defScope s_gone_by) (by decide +kernel)) (fun _ _ _ _ _ => (mg_tup rfl (mgs_cons (mg_name (pg_name (i := 4) sc_gone_by.nd rfl (.inl rfl)) rfl) (mgs_cons (mg_name (pg_name (i := 5) sc_gone_by.nd rfl (.inl rfl)) rfl) mgs_nil)))) (fun _ _ _ _ _ => (mpts_one (mt_le (on_ (pv 5)) (on_ (pv 3))))) (fun _ _ _ _ _ => (mv_tk (pv 4))))) mh_nil))))))
theorem cal_gone_by (B : Facts P w K mg) (base : Heap) : Cal P w K mg base 8 "gone_by" s_gone_by ["land", "plan", "storm", "hour"] m_gone_by := let ⟨f, fd, h, F⟩ := B.f_gone_by; ⟨f, fd, ok_gone_by B F base, h, F⟩
abbrev sl__law_is_less : List Str := ["one", "other"]
theorem ok__law_is_less (B : Facts P w K mg) {f : Addr} {fd : FuncData} (Fn : Fun K "_law_is_less" "_law_is_less" s__law_is_less f fd) (base : Heap) : FnG P w K mg base 1 f fd ["one", "other"] m__law_is_less := ok_def (pin := pinL [0, 1]) Fn sc__law_is_less rfl (pins_ok rfl) fun le cdv A outer s H hr gd => letI : WC := WC0
  (ms_one (ms_ret (mv_and (mv_notN (on_ (pv 1)) (ov mv_non)) (mv_one (mv_or (mv_isN (on_ (pv 0)) (ov mv_non)) (mv_one (mv_lt hr (on_ (pv 0)) (on_ (pv 1)))))))))
theorem cal__law_is_less (B : Facts P w K mg) (base : Heap) : Cal P w K mg base 1 "_law_is_less" s__law_is_less ["one", "other"] m__law_is_less := let ⟨f, fd, h, F⟩ := B.f__law_is_less; ⟨f, fd, ok__law_is_less B F base, h, F⟩
abbrev sl_many_places : List Str := ["land"]
theorem ok_many_places (B : Facts P w K mg) {f : Addr} {fd : FuncData} (Fn : Fun K "many_places" "many_places" s_many_places f fd) (base : Heap) : FnG P w K mg base 1 f fd ["land"] m_many_places := ok_def (pin := pinL [0]) Fn sc_many_places rfl (pins_ok rfl) fun le cdv A outer s H hr gd => letI : WC := WC0
  (ms_one (ms_ret (mv_add (ov (mv_blt call_len ok_len (by rfl) B.z_len (by decide +kernel) (mh_cons (ov (mv_ixD (on_ (pv 0)) (ov mv_int))) mh_nil))) (ov mv_int))))
theorem cal_many_places (B : Facts P w K mg) (base : Heap) : Cal P w K mg base 1 "many_places" s_many_places ["land"] m_many_places := let ⟨f, fd, h, F⟩ := B.f_many_places; ⟨f, fd, ok_many_places B F base, h, F⟩
abbrev sl_check_place : List Str := ["land", "place"]
theorem ok_check_place (B : Facts P w K mg) {f : Addr} {fd : FuncData} (Fn : Fun K "check_place" "check_place" s_check_place f fd) (base : Heap) : FnG P w K mg base 4 f fd ["land", "place"] m_check_place := ok_def (pin := pinL [0, 1]) Fn sc_check_place rfl (pins_ok rfl) fun le cdv A outer s H hr gd => letI : WC := WC0
  (ms_one (ms_if (mt_not (mt_val (mv_c (cal_is_position B base) bd_is_position hr (by decide) gd (by rfl) (mh_cons (on_ (pv 1)) (mh_cons (ov (mv_c (cal_many_places B base) bd_many_places hr (by decide) gd (by rfl) (mh_cons (on_ (pv 0)) mh_nil))) mh_nil))))) (ms_one ms_never1) ms_nil))
theorem cal_check_place (B : Facts P w K mg) (base : Heap) : Cal P w K mg base 4 "check_place" s_check_place ["land", "place"] m_check_place := let ⟨f, fd, h, F⟩ := B.f_check_place; ⟨f, fd, ok_check_place B F base, h, F⟩
abbrev sl_check_field : List Str := ["land", "place"]
theorem ok_check_field (B : Facts P w K mg) {f : Addr} {fd : FuncData} (Fn : Fun K "check_field" "check_field" s_check_field f fd) (base : Heap) : FnG P w K mg base 5 f fd ["land", "place"] m_check_field := ok_def (pin := pinL [0, 1]) Fn sc_check_field rfl (pins_ok rfl) fun le cdv A outer s H hr gd => letI : WC := WC0
  (ms_cons (ms_drop (mv_c (cal_check_place B base) bd_check_place hr (by decide) gd (by rfl) (mh_cons (on_ (pv 0)) (mh_cons (on_ (pv 1)) mh_nil))))
  (ms_one (ms_if (mt_eq hr (on_ (pv 1)) (ov mv_int)) (ms_one ms_never1) ms_nil)))
theorem cal_check_field (B : Facts P w K mg) (base : Heap) : Cal P w K mg base 5 "check_field" s_check_field ["land", "place"] m_check_field := let ⟨f, fd, h, F⟩ := B.f_check_field; ⟨f, fd, ok_check_field B F base, h, F⟩
abbrev sl_check_level : List Str := ["level"]
theorem ok_check_level (B : Facts P w K mg) {f : Addr} {fd : FuncData} (Fn : Fun K "check_level" "check_level" s_check_level f fd) (base : Heap) : FnG P w K mg base 3 f fd ["level"] m_check_level := ok_def (pin := pinL [0]) Fn sc_check_level rfl (pins_ok rfl) fun le cdv A outer s H hr gd => letI : WC := WC0
  (ms_one (ms_if (mt_not (mt_val (mv_c (cal_is_between B base) bd_is_between hr (by decide) gd (by rfl) (mh_cons (on_ (pv 0)) (mh_cons (ov mv_int) (mh_cons (ov (mv_gd B.g_MOST_HEIGHT (by rfl))) mh_nil)))))) (ms_one ms_never1) ms_nil))
theorem cal_check_level (B : Facts P w K mg) (base : Heap) : Cal P w K mg base 3 "check_level" s_check_level ["level"] m_check_level := let ⟨f, fd, h, F⟩ := B.f_check_level; ⟨f, fd, ok_check_level B F base, h, F⟩
abbrev sl_first_hour : List Str := ["land", "plan", "storm", "place", "level", "rows", "some", "at", "row"]
theorem ok_first_hour (B : Facts P w K mg) {f : Addr} {fd : FuncData} (Fn : Fun K "first_hour" "first_hour" s_first_hour f fd) (base : Heap) : FnG P w K mg base 8 f fd ["land", "plan", "storm", "place", "level"] m_first_hour := ok_def (pin := pinL [0, 1, 2, 3, 4]) Fn sc_first_hour rfl (pins_ok rfl) fun le cdv A outer s H hr gd => letI : WC := WC0
  (ms_cons (ms_drop (mv_c (cal_check_storm B base) bd_check_storm hr (by decide) gd (by rfl) (mh_cons (on_ (pv 0)) (mh_cons (on_ (pv 1)) (mh_cons (on_ (pv 2)) mh_nil)))))
  (ms_cons (ms_drop (mv_c (cal_check_field B base) bd_check_field hr (by decide) gd (by rfl) (mh_cons (on_ (pv 0)) (mh_cons (on_ (pv 3)) mh_nil))))
  (ms_cons (ms_drop (mv_c (cal_check_level B base) bd_check_level hr (by decide) gd (by rfl) (mh_cons (on_ (pv 4)) mh_nil)))
  (ms_cons (ms_asg (mv_c (cal_levels_by B base) bd_levels_by hr (by decide) gd (by rfl) (mh_cons (on_ (pv 0)) (mh_cons (on_ (pv 1)) (mh_cons (on_ (pv 2)) mh_nil)))) (mg_name (pg_name (i := 5) sc_first_hour.nd rfl (.inl rfl)) rfl))
  (ms_cons (ms_setLc (i := 6) (own := [("at", 7), ("row", 8)]) (g := cg1_first_hour) (t := ct1_first_hour) (e := ce1_first_hour) rfl rfl sc_first_hour.nd rfl rfl (sw_true rfl rfl rfl (by decide +kernel)) (mi_enumA (by rfl) B.z_enumerate (mh_cons (on_ (pv 5)) mh_nil)) (blkOk_by (own := [("at", 7), ("row", 8)]) (N := sl_first_hour) (sc := defScope s_first_hour) (by decide +kernel)) (fun _ _ _ _ _ => (mg_tup rfl (mgs_cons (mg_name (pg_name (i := 7) sc_first_hour.nd rfl (.inl rfl)) rfl) (mgs_cons (mg_name (pg_name (i := 8) sc_first_hour.nd rfl (.inl rfl)) rfl) mgs_nil)))) (fun _ _ _ _ _ => (mpts_one (mt_not (mt_val (mv_c (cal_is_less B base) bd_is_less hr (by decide) gd (by rfl) (mh_cons (ov (mv_ixD (on_ (pv 8)) (ov (mv_sub (on_ (pv 3)) (ov mv_int))))) (mh_cons (on_ (pv 4)) mh_nil))))))) (fun _ _ _ _ _ => (mv_tk (pv 7))))
  (ms_one (ms_ret (mv_if (mt_ne hr (on_ (pv 6)) (ov (mv_lst ma_nil))) (mv_ixD (on_ (pv 6)) (ov mv_int)) mv_non))))))))
theorem cal_first_hour (B : Facts P w K mg) (base : Heap) : Cal P w K mg base 8 "first_hour" s_first_hour ["land", "plan", "storm", "place", "level"] m_first_hour := let ⟨f, fd, h, F⟩ := B.f_first_hour; ⟨f, fd, ok_first_hour B F base, h, F⟩
abbrev sl__law_right : List Str := ["pot", "late", "land", "plan", "storm", "heights", "gone", "shown", "due", "hour", "some", "turn", "place", "level", "first", "more", "at", "one", "other", "near", "far"]
theorem ok__law_right (B : Facts P w K mg) {f : Addr} {fd : FuncData} (Fn : Fun K "_law_right" "_law_right" s__law_right f fd) (base : Heap) : FnG P w K mg base 10 f fd ["pot", "late"] m__law_right := ok_def (pin := pinL [0, 1]) Fn sc__law_right rfl (pins_ok rfl) fun le cdv A outer s H hr gd => letI : WC := WC0
  (ms_cons (ms_asg (mv_c (cal__law_land B base) bd__law_land hr (by decide) gd (by rfl) (mh_cons (on_ (pv 0)) (mh_cons (ov mv_int) (mh_cons (ov mv_int) (mh_cons (ov mv_int) mh_nil))))) (mg_name (pg_name (i := 2) sc__law_right.nd rfl (.inl rfl)) rfl))
  (ms_cons (ms_asg (mv_c (cal__law_plan B base) bd__law_plan hr (by decide) gd (by rfl) (mh_cons (on_ (pv 0)) (mh_cons (on_ (pv 2)) mh_nil))) (mg_name (pg_name (i := 3) sc__law_right.nd rfl (.inl rfl)) rfl))
  (ms_cons (ms_asg (mv_c (cal__law_storm B base) bd__law_storm hr (by decide) gd (by rfl) (mh_cons (on_ (pv 0)) (mh_cons (on_ (pv 3)) (mh_cons (ov (mv_c (cal__law_draw B base) bd__law_draw hr (by decide) gd (by rfl) (mh_cons (on_ (pv 0)) (mh_cons (ov mv_int) mh_nil)))) mh_nil)))) (mg_name (pg_name (i := 4) sc__law_right.nd rfl (.inl rfl)) rfl))
  (ms_cons (ms_asg (mv_tup (ma_cons (mv_c (cal__law_heights B base) bd__law_heights hr (by decide) gd (by rfl) (mh_cons (on_ (pv 4)) mh_nil)) (ma_cons (mv_c (cal__law_hours B base) bd__law_hours hr (by decide) gd (by rfl) (mh_cons (on_ (pv 2)) (mh_cons (on_ (pv 3)) (mh_cons (on_ (pv 4)) mh_nil)))) (ma_cons (mv_reprL hr gd (by rfl) B.z_repr (mh_cons (on_ (pv 2)) (mh_cons (on_ (pv 4)) mh_nil))) ma_nil)))) (mg_tup rfl (mgs_cons (mg_name (pg_name (i := 5) sc__law_right.nd rfl (.inr rfl)) rfl) (mgs_cons (mg_name (pg_name (i := 6) sc__law_right.nd rfl (.inr rfl)) rfl) (mgs_cons (mg_name (pg_name (i := 7) sc__law_right.nd rfl (.inl rfl)) rfl) mgs_nil)))))
  (ms_cons (ms_asg (mv_c (cal__law_levels B base) bd__law_levels hr (by decide) gd (by rfl) (mh_cons (on_ (pv 2)) (mh_cons (on_ (pv 5)) (mh_cons (on_ (pv 6)) mh_nil)))) (mg_name (pg_name (i := 8) sc__law_right.nd rfl (.inl rfl)) rfl))
  (ms_cons (ms_if (mt_not (mt_val (mv_c (cal__law_same B base) bd__law_same hr (by decide) gd (by rfl) (mh_cons (ov (mv_frz (mv_lst (ma_cons (mv_c (cal_heights_of B base) bd_heights_of hr (by decide) gd (by rfl) (mh_cons (on_ (pv 2)) (mh_cons (on_ (pv 3)) (mh_cons (on_ (pv 4)) mh_nil)))) (ma_cons (mv_ck0 (cal_heights_of B base) kb_heights_of_0_storm_plan_land hr (by decide) gd (by rfl) (mk_cons (ov (mv_bty call_tuple_of ok_tuple (by rfl) B.z_tuple (by decide +kernel) (mh_cons (on_ (pv 4)) mh_nil))) (mk_cons (on_ (pv 3)) (mk_cons (on_ (pv 2)) mk_nil)))) ma_nil))))) (mh_cons (ov (mv_frz (mv_lst (ma_cons (mv_sh (pv 5)) (ma_cons (mv_sh (pv 5)) ma_nil))))) mh_nil))))) (ms_one (ms_ret mv_bl)) ms_nil)
  (ms_cons (ms_if (mt_not (mt_val (mv_c (cal__law_same B base) bd__law_same hr (by decide) gd (by rfl) (mh_cons (ov (mv_frz (mv_lst (ma_cons (mv_c (cal_levels B base) bd_levels hr (by decide) gd (by rfl) (mh_cons (on_ (pv 2)) (mh_cons (on_ (pv 3)) (mh_cons (on_ (pv 4)) mh_nil)))) (ma_cons (mv_ck0 (cal_levels B base) kb_levels_0_storm_plan_land hr (by decide) gd (by rfl) (mk_cons (on_ (pv 4)) (mk_cons (on_ (pv 3)) (mk_cons (on_ (pv 2)) mk_nil)))) ma_nil))))) (mh_cons (ov (mv_frz (mv_lst (ma_cons (mv_sh (pv 8)) (ma_cons (mv_sh (pv 8)) ma_nil))))) mh_nil))))) (ms_one (ms_ret mv_bl)) ms_nil)
  (ms_cons (ms_k1 (ms_for (g := wg4__law_right) (b := wb4__law_right) (pin' := pinU [] (pinL [0, 1])) PassesOwn.never rfl (mi_rng1 (by rfl) B.z_range (mh_cons (ov (mv_blt call_len ok_len (by rfl) B.z_len (by decide +kernel) (mh_cons (on_ (pv 5)) mh_nil))) mh_nil)) (mg_name (pg_name (i := 9) sc__law_right.nd rfl (.inr rfl)) rfl) (ms_cons (ms_asg (mv_bty call_tuple_of ok_tuple (by rfl) B.z_tuple (by decide +kernel) (mh_cons (ov (mv_lc (own := [("at", 16)]) (g := cg1__law_right) (t := ct1__law_right) (e := ce1__law_right) rfl sc__law_right.nd (mi_any (on_ (pv 3))) (blkOk_by (own := [("at", 16)]) (N := sl__law_right) (sc := defScope s__law_right) (by decide +kernel)) (fun _ _ _ _ _ => (mg_name (pg_name (i := 16) sc__law_right.nd rfl (.inl rfl)) rfl)) (fun _ _ _ _ _ => (mpts_one (mt_le (ov (mv_ixD (on_ (pv 6)) (on_ (pv 16)))) (on_ (pv 9))))) (fun _ _ _ _ _ => (mv_tk (pv 16))))) mh_nil)) (mg_name (pg_name (i := 10) sc__law_right.nd rfl (.inl rfl)) rfl))
  (ms_cons (ms_if (mt_not (mt_val (mv_c (cal__law_same B base) bd__law_same hr (by decide) gd (by rfl) (mh_cons (ov (mv_frz (mv_lst (ma_cons (mv_c (cal_gone_by B base) bd_gone_by hr (by decide) gd (by rfl) (mh_cons (on_ (pv 2)) (mh_cons (on_ (pv 3)) (mh_cons (on_ (pv 4)) (mh_cons (on_ (pv 9)) mh_nil))))) (ma_cons (mv_ck0 (cal_gone_by B base) kb_gone_by_0_hour_storm_plan_land hr (by decide) gd (by rfl) (mk_cons (on_ (pv 9)) (mk_cons (on_ (pv 4)) (mk_cons (on_ (pv 3)) (mk_cons (on_ (pv 2)) mk_nil))))) ma_nil))))) (mh_cons (ov (mv_frz (mv_lst (ma_cons (mv_sh (pv 10)) (ma_cons (mv_tk (pv 10)) ma_nil))))) mh_nil))))) (ms_one (ms_ret mv_bl)) ms_nil)
  (ms_cons (ms_if (mt_val (mv_blt (cr_any rfl) ok_any (by rfl) B.z_any (by decide +kernel) (mh_cons (ov (mv_lc (own := [("one", 17)]) (g := cg2__law_right) (t := ct2__law_right) (e := ce2__law_right) rfl sc__law_right.nd (mi_any (ov (mv_ixD (on_ (pv 8)) (on_ (pv 9))))) (blkOk_by (own := [("one", 17)]) (N := sl__law_right) (sc := defScope s__law_right) (by decide +kernel)) (fun _ _ _ _ _ => (mg_name (pg_name (i := 17) sc__law_right.nd rfl (.inl rfl)) rfl)) (fun _ _ _ _ _ => mpts_nil) (fun _ _ _ _ _ => (mv_and (mv_notN (on_ (pv 17)) (ov mv_non)) (mv_one (mv_notIn hr (on_ (pv 17)) (ov (mv_sl (on_ (pv 5)) mp_none (mp_some (ov (mv_add (on_ (pv 9)) (ov mv_int)))))))))))) mh_nil))) (ms_one (ms_ret mv_bl)) ms_nil)
  (ms_one (ms_if (PW.pt (mw_and (mt_gt (on_ (pv 9)) (ov mv_int)) (mw_and1 (mt_val (mv_blt (cr_any rfl) ok_any (by rfl) B.z_any (by decide +kernel) (mh_cons (ov (mv_lc (own := [("one", 17), ("other", 18)]) (g := cg3__law_right) (t := ct3__law_right) (e := ce3__law_right) rfl sc__law_right.nd (mi_zipA (by rfl) B.z_zip (mh_cons (ov (mv_ixD (on_ (pv 8)) (on_ (pv 9)))) (mh_cons (ov (mv_ixD (on_ (pv 8)) (ov (mv_sub (on_ (pv 9)) (ov mv_int))))) mh_nil))) (blkOk_by (own := [("one", 17), ("other", 18)]) (N := sl__law_right) (sc := defScope s__law_right) (by decide +kernel)) (fun _ _ _ _ _ => (mg_tup rfl (mgs_cons (mg_name (pg_name (i := 17) sc__law_right.nd rfl (.inl rfl)) rfl) (mgs_cons (mg_name (pg_name (i := 18) sc__law_right.nd rfl (.inl rfl)) rfl) mgs_nil)))) (fun _ _ _ _ _ => mpts_nil) (fun _ _ _ _ _ => (mv_c (cal__law_is_less B base) bd__law_is_less hr (by decide) gd (by rfl) (mh_cons (on_ (pv 17)) (mh_cons (on_ (pv 18)) mh_nil)))))) mh_nil)))))) (ms_one (ms_ret mv_bl)) ms_nil))))) pinU_le (hs_val hs_nil)))
  (ms_cons (ms_k1 (ms_for (g := wg5__law_right) (b := wb5__law_right) (pin' := pinU [] (pinL [0, 1])) PassesOwn.never rfl (mi_rng1 (by rfl) B.z_range (mh_cons (ov mv_int) mh_nil)) (mg_name (pg_name (i := 11) sc__law_right.nd rfl (.inl rfl)) rfl) (ms_cons (ms_par (ps_par rfl sc__law_right.nd rfl rfl (by decide) rfl rfl (ma_cons (mv_add (ov mv_int) (ov (mv_c (cal__law_draw B base) bd__law_draw hr (by decide) gd (by rfl) (mh_cons (on_ (pv 1)) (mh_cons (ov (mv_blt call_len ok_len (by rfl) B.z_len (by decide +kernel) (mh_cons (ov (mv_ixD (on_ (pv 2)) (ov mv_int))) mh_nil))) mh_nil))))) (ma_cons (mv_c (cal__law_draw B base) bd__law_draw hr (by decide) gd (by rfl) (mh_cons (on_ (pv 1)) (mh_cons (ov mv_int) mh_nil))) ma_nil)) rfl) rfl rfl)
  (ms_cons (ms_asg (mv_c (cal__law_first B base) bd__law_first hr (by decide) gd (by rfl) (mh_cons (on_ (pv 8)) (mh_cons (on_ (pv 12)) (mh_cons (on_ (pv 13)) mh_nil)))) (mg_name (pg_name (i := 14) sc__law_right.nd rfl (.inl rfl)) rfl))
  (ms_one (ms_if (mt_not (mt_val (mv_c (cal__law_same B base) bd__law_same hr (by decide) gd (by rfl) (mh_cons (ov (mv_frz (mv_lst (ma_cons (mv_c (cal_first_hour B base) bd_first_hour hr (by decide) gd (by rfl) (mh_cons (on_ (pv 2)) (mh_cons (on_ (pv 3)) (mh_cons (on_ (pv 4)) (mh_cons (on_ (pv 12)) (mh_cons (on_ (pv 13)) mh_nil)))))) (ma_cons (mv_ck0 (cal_first_hour B base) kb_first_hour_0_level_place_storm_plan_land hr (by decide) gd (by rfl) (mk_cons (on_ (pv 13)) (mk_cons (on_ (pv 12)) (mk_cons (on_ (pv 4)) (mk_cons (on_ (pv 3)) (mk_cons (on_ (pv 2)) mk_nil)))))) ma_nil))))) (mh_cons (ov (mv_frz (mv_lst (ma_cons (mv_sh (pv 14)) (ma_cons (mv_tk (pv 14)) ma_nil))))) mh_nil))))) (ms_one (ms_ret mv_bl)) ms_nil)))) pinU_le (hs_val hs_nil)))
  (ms_cons (ms_asg (mv_c (cal_levels B base) bd_levels hr (by decide) gd (by rfl) (mh_cons (on_ (pv 2)) (mh_cons (on_ (pv 3)) (mh_cons (ov (mv_c (cal__law_more B base) bd__law_more hr (by decide) gd (by rfl) (mh_cons (on_ (pv 1)) (mh_cons (on_ (pv 4)) mh_nil)))) mh_nil)))) (mg_name (pg_name (i := 15) sc__law_right.nd rfl (.inl rfl)) rfl))
  (ms_cons (ms_if (mt_val (mv_blt (cr_any rfl) ok_any (by rfl) B.z_any (by decide +kernel) (mh_cons (ov (mv_lc (own := [("near", 19), ("far", 20)]) (g := cg7__law_right) (t := ct7__law_right) (e := ce7__law_right) rfl sc__law_right.nd (mi_zipA (by rfl) B.z_zip (mh_cons (on_ (pv 15)) (mh_cons (on_ (pv 8)) mh_nil))) (blkOk_by (own := [("near", 19), ("far", 20)]) (N := sl__law_right) (sc := defScope s__law_right) (by decide +kernel)) (fun _ _ _ _ _ => (mg_tup rfl (mgs_cons (mg_name (pg_name (i := 19) sc__law_right.nd rfl (.inl rfl)) rfl) (mgs_cons (mg_name (pg_name (i := 20) sc__law_right.nd rfl (.inl rfl)) rfl) mgs_nil)))) (fun _ _ _ _ _ => mpts_nil) (fun _ _ _ _ _ => (mv_blt (cr_any rfl) ok_any (by rfl) B.z_any (by decide +kernel) (mh_cons (ov (mv_lc (own := [("one", 17), ("other", 18)]) (g := cg6__law_right) (t := ct6__law_right) (e := ce6__law_right) rfl sc__law_right.nd (mi_zipA (by rfl) B.z_zip (mh_cons (on_ (pv 19)) (mh_cons (on_ (pv 20)) mh_nil))) (blkOk_by (own := [("one", 17), ("other", 18)]) (by rfl)) (fun _ _ _ _ _ => (mg_tup rfl (mgs_cons (mg_name (pg_name (i := 17) sc__law_right.nd rfl (.inl rfl)) rfl) (mgs_cons (mg_name (pg_name (i := 18) sc__law_right.nd rfl (.inl rfl)) rfl) mgs_nil)))) (fun _ _ _ _ _ => mpts_nil) (fun _ _ _ _ _ => (mv_c (cal__law_is_less B base) bd__law_is_less hr (by decide) gd (by rfl) (mh_cons (on_ (pv 17)) (mh_cons (on_ (pv 18)) mh_nil)))))) mh_nil))))) mh_nil))) (ms_one (ms_ret mv_bl)) ms_nil)
  (ms_cons (ms_drop (mv_appT (mv_c (cal_levels B base) bd_levels hr (by decide) gd (by rfl) (mh_cons (on_ (pv 2)) (mh_cons (on_ (pv 3)) (mh_cons (on_ (pv 4)) mh_nil)))) (ma_cons mv_non ma_nil)))
  (ms_one (ms_ret (mv_and (mv_c (cal__law_same B base) bd__law_same hr (by decide) gd (by rfl) (mh_cons (ov (mv_frz (mv_c (cal_levels B base) bd_levels hr (by decide) gd (by rfl) (mh_cons (on_ (pv 2)) (mh_cons (on_ (pv 3)) (mh_cons (on_ (pv 4)) mh_nil)))))) (mh_cons (ov (mv_sh (pv 8))) mh_nil))) (mv_one (mv_eq hr (ov (mv_reprL hr gd (by rfl) B.z_repr (mh_cons (on_ (pv 2)) (mh_cons (on_ (pv 4)) mh_nil)))) (on_ (pv 7)))))))))))))))))))
theorem cal__law_right (B : Facts P w K mg) (base : Heap) : Cal P w K mg base 10 "_law_right" s__law_right ["pot", "late"] m__law_right := let ⟨f, fd, h, F⟩ := B.f__law_right; ⟨f, fd, ok__law_right B F base, h, F⟩
abbrev sl_law : List Str := ["script", "pot", "late", "step"]
theorem ok_law (B : Facts P w K mg) {f : Addr} {fd : FuncData} (Fn : Fun K "law" "law" s_law f fd) (base : Heap) : FnG P w K mg base 11 f fd ["script"] m_law := ok_def (pin := pinL [0]) Fn sc_law rfl (pins_ok rfl) fun le cdv A outer s H hr gd => letI : WC := WC0
  (ms_cons (ms_asg (mv_tup (ma_cons (mv_c (cal__law_pot B base) bd__law_pot hr (by decide) gd (by rfl) (mh_cons (on_ (pv 0)) (mh_cons (ov mv_int) mh_nil))) (ma_cons (mv_c (cal__law_pot B base) bd__law_pot hr (by decide) gd (by rfl) (mh_cons (on_ (pv 0)) (mh_cons (ov mv_int) mh_nil))) ma_nil))) (mg_tup rfl (mgs_cons (mg_name (pg_name (i := 1) sc_law.nd rfl (.inr rfl)) rfl) (mgs_cons (mg_name (pg_name (i := 2) sc_law.nd rfl (.inr rfl)) rfl) mgs_nil))))
  (ms_one (ms_ret (mv_blt (cr_all rfl) ok_all (by rfl) B.z_all (by decide +kernel) (mh_cons (ov (mv_lc (own := [("step", 3)]) (g := cg1_law) (t := ct1_law) (e := ce1_law) rfl sc_law.nd (mi_rng1 (by rfl) B.z_range (mh_cons (ov mv_int) mh_nil)) (blkOk_by (own := [("step", 3)]) (N := sl_law) (sc := defScope s_law) (by decide +kernel)) (fun _ _ _ _ _ => (mg_name (pg_name (i := 3) sc_law.nd rfl (.inl rfl)) rfl)) (fun _ _ _ _ _ => mpts_nil) (fun _ _ _ _ _ => (mv_c (cal__law_right B base) bd__law_right hr (by decide) gd (by rfl) (mh_cons (on_ (pv 1)) (mh_cons (on_ (pv 2)) mh_nil)))))) mh_nil)))))
theorem cal_law (B : Facts P w K mg) (base : Heap) : Cal P w K mg base 11 "law" s_law ["script"] m_law := let ⟨f, fd, h, F⟩ := B.f_law; ⟨f, fd, ok_law B F base, h, F⟩
end
theorem facts_mk {P : Program} {w : World} {K : PySem.W.Frag} {h : Heap} {mg : Str → Option Value} (X : K.In h) (G : h.Ns mainGlobals mg)
    {f0 : Addr} {od0 an0 : Option Addr} {sl0 : Array (Option Value)} {oc0 kV0 dc0 pm0 cd0 ct0 : Value} (a0 : PySem.W.nsIn K mainGlobals "_law_pot" = some (some (.ref f0))) (l0 : K.lookup f0 = some ⟨oc0, od0, .func (PySem.W.fnOf "_law_pot" "_law_pot" (defArgs s__law_pot) (defBody s__law_pot) (defScope s__law_pot) .none kV0 dc0 pm0 an0 cd0 ct0), sl0⟩) (c0 : PySem.W.codeIn K cd0 "_law_pot" = true) (k0 : PySem.W.keepIn K (.ref f0) = true)
    {f1 : Addr} {od1 an1 : Option Addr} {sl1 : Array (Option Value)} {oc1 kV1 dc1 pm1 cd1 ct1 : Value} (a1 : PySem.W.nsIn K mainGlobals "_law_draw" = some (some (.ref f1))) (l1 : K.lookup f1 = some ⟨oc1, od1, .func (PySem.W.fnOf "_law_draw" "_law_draw" (defArgs s__law_draw) (defBody s__law_draw) (defScope s__law_draw) .none kV1 dc1 pm1 an1 cd1 ct1), sl1⟩) (c1 : PySem.W.codeIn K cd1 "_law_draw" = true) (k1 : PySem.W.keepIn K (.ref f1) = true)
    {f2 : Addr} {od2 an2 : Option Addr} {sl2 : Array (Option Value)} {oc2 kV2 dc2 pm2 cd2 ct2 : Value} (a2 : PySem.W.nsIn K mainGlobals "_law_land" = some (some (.ref f2))) (l2 : K.lookup f2 = some ⟨oc2, od2, .func (PySem.W.fnOf "_law_land" "_law_land" (defArgs s__law_land) (defBody s__law_land) (defScope s__law_land) .none kV2 dc2 pm2 an2 cd2 ct2), sl2⟩) (c2 : PySem.W.codeIn K cd2 "_law_land" = true) (k2 : PySem.W.keepIn K (.ref f2) = true)
    {f3 : Addr} {od3 an3 : Option Addr} {sl3 : Array (Option Value)} {oc3 kV3 dc3 pm3 cd3 ct3 : Value} (a3 : PySem.W.nsIn K mainGlobals "_law_plan" = some (some (.ref f3))) (l3 : K.lookup f3 = some ⟨oc3, od3, .func (PySem.W.fnOf "_law_plan" "_law_plan" (defArgs s__law_plan) (defBody s__law_plan) (defScope s__law_plan) .none kV3 dc3 pm3 an3 cd3 ct3), sl3⟩) (c3 : PySem.W.codeIn K cd3 "_law_plan" = true) (k3 : PySem.W.keepIn K (.ref f3) = true)
    {f4 : Addr} {od4 an4 : Option Addr} {sl4 : Array (Option Value)} {oc4 kV4 dc4 pm4 cd4 ct4 : Value} (a4 : PySem.W.nsIn K mainGlobals "_law_storm" = some (some (.ref f4))) (l4 : K.lookup f4 = some ⟨oc4, od4, .func (PySem.W.fnOf "_law_storm" "_law_storm" (defArgs s__law_storm) (defBody s__law_storm) (defScope s__law_storm) .none kV4 dc4 pm4 an4 cd4 ct4), sl4⟩) (c4 : PySem.W.codeIn K cd4 "_law_storm" = true) (k4 : PySem.W.keepIn K (.ref f4) = true)
    {f5 : Addr} {od5 an5 : Option Addr} {sl5 : Array (Option Value)} {oc5 kV5 dc5 pm5 cd5 ct5 : Value} (a5 : PySem.W.nsIn K mainGlobals "_law_sill" = some (some (.ref f5))) (l5 : K.lookup f5 = some ⟨oc5, od5, .func (PySem.W.fnOf "_law_sill" "_law_sill" (defArgs s__law_sill) (defBody s__law_sill) (defScope s__law_sill) .none kV5 dc5 pm5 an5 cd5 ct5), sl5⟩) (c5 : PySem.W.codeIn K cd5 "_law_sill" = true) (k5 : PySem.W.keepIn K (.ref f5) = true)
    {f6 : Addr} {od6 an6 : Option Addr} {sl6 : Array (Option Value)} {oc6 kV6 dc6 pm6 cd6 ct6 : Value} (a6 : PySem.W.nsIn K mainGlobals "_law_levels" = some (some (.ref f6))) (l6 : K.lookup f6 = some ⟨oc6, od6, .func (PySem.W.fnOf "_law_levels" "_law_levels" (defArgs s__law_levels) (defBody s__law_levels) (defScope s__law_levels) .none kV6 dc6 pm6 an6 cd6 ct6), sl6⟩) (c6 : PySem.W.codeIn K cd6 "_law_levels" = true) (k6 : PySem.W.keepIn K (.ref f6) = true)
    {f7 : Addr} {od7 an7 : Option Addr} {sl7 : Array (Option Value)} {oc7 kV7 dc7 pm7 cd7 ct7 : Value} (a7 : PySem.W.nsIn K mainGlobals "is_integer" = some (some (.ref f7))) (l7 : K.lookup f7 = some ⟨oc7, od7, .func (PySem.W.fnOf "is_integer" "is_integer" (defArgs s_is_integer) (defBody s_is_integer) (defScope s_is_integer) .none kV7 dc7 pm7 an7 cd7 ct7), sl7⟩) (c7 : PySem.W.codeIn K cd7 "is_integer" = true) (k7 : PySem.W.keepIn K (.ref f7) = true)
    {f8 : Addr} {od8 an8 : Option Addr} {sl8 : Array (Option Value)} {oc8 kV8 dc8 pm8 cd8 ct8 : Value} (a8 : PySem.W.nsIn K mainGlobals "is_between" = some (some (.ref f8))) (l8 : K.lookup f8 = some ⟨oc8, od8, .func (PySem.W.fnOf "is_between" "is_between" (defArgs s_is_between) (defBody s_is_between) (defScope s_is_between) .none kV8 dc8 pm8 an8 cd8 ct8), sl8⟩) (c8 : PySem.W.codeIn K cd8 "is_between" = true) (k8 : PySem.W.keepIn K (.ref f8) = true)
    {f9 : Addr} {od9 an9 : Option Addr} {sl9 : Array (Option Value)} {oc9 kV9 dc9 pm9 cd9 ct9 : Value} (a9 : PySem.W.nsIn K mainGlobals "is_count" = some (some (.ref f9))) (l9 : K.lookup f9 = some ⟨oc9, od9, .func (PySem.W.fnOf "is_count" "is_count" (defArgs s_is_count) (defBody s_is_count) (defScope s_is_count) .none kV9 dc9 pm9 an9 cd9 ct9), sl9⟩) (c9 : PySem.W.codeIn K cd9 "is_count" = true) (k9 : PySem.W.keepIn K (.ref f9) = true)
    {f10 : Addr} {od10 an10 : Option Addr} {sl10 : Array (Option Value)} {oc10 kV10 dc10 pm10 cd10 ct10 : Value} (a10 : PySem.W.nsIn K mainGlobals "is_position" = some (some (.ref f10))) (l10 : K.lookup f10 = some ⟨oc10, od10, .func (PySem.W.fnOf "is_position" "is_position" (defArgs s_is_position) (defBody s_is_position) (defScope s_is_position) .none kV10 dc10 pm10 an10 cd10 ct10), sl10⟩) (c10 : PySem.W.codeIn K cd10 "is_position" = true) (k10 : PySem.W.keepIn K (.ref f10) = true)
    {f11 : Addr} {od11 an11 : Option Addr} {sl11 : Array (Option Value)} {oc11 kV11 dc11 pm11 cd11 ct11 : Value} (a11 : PySem.W.nsIn K mainGlobals "is_stretch" = some (some (.ref f11))) (l11 : K.lookup f11 = some ⟨oc11, od11, .func (PySem.W.fnOf "is_stretch" "is_stretch" (defArgs s_is_stretch) (defBody s_is_stretch) (defScope s_is_stretch) .none kV11 dc11 pm11 an11 cd11 ct11), sl11⟩) (c11 : PySem.W.codeIn K cd11 "is_stretch" = true) (k11 : PySem.W.keepIn K (.ref f11) = true)
    {f12 : Addr} {od12 an12 : Option Addr} {sl12 : Array (Option Value)} {oc12 kV12 dc12 pm12 cd12 ct12 : Value} (a12 : PySem.W.nsIn K mainGlobals "is_name" = some (some (.ref f12))) (l12 : K.lookup f12 = some ⟨oc12, od12, .func (PySem.W.fnOf "is_name" "is_name" (defArgs s_is_name) (defBody s_is_name) (defScope s_is_name) .none kV12 dc12 pm12 an12 cd12 ct12), sl12⟩) (c12 : PySem.W.codeIn K cd12 "is_name" = true) (k12 : PySem.W.keepIn K (.ref f12) = true)
    {f13 : Addr} {od13 an13 : Option Addr} {sl13 : Array (Option Value)} {oc13 kV13 dc13 pm13 cd13 ct13 : Value} (a13 : PySem.W.nsIn K mainGlobals "is_field" = some (some (.ref f13))) (l13 : K.lookup f13 = some ⟨oc13, od13, .func (PySem.W.fnOf "is_field" "is_field" (defArgs s_is_field) (defBody s_is_field) (defScope s_is_field) .none kV13 dc13 pm13 an13 cd13 ct13), sl13⟩) (c13 : PySem.W.codeIn K cd13 "is_field" = true) (k13 : PySem.W.keepIn K (.ref f13) = true)
    {f14 : Addr} {od14 an14 : Option Addr} {sl14 : Array (Option Value)} {oc14 kV14 dc14 pm14 cd14 ct14 : Value} (a14 : PySem.W.nsIn K mainGlobals "is_land" = some (some (.ref f14))) (l14 : K.lookup f14 = some ⟨oc14, od14, .func (PySem.W.fnOf "is_land" "is_land" (defArgs s_is_land) (defBody s_is_land) (defScope s_is_land) .none kV14 dc14 pm14 an14 cd14 ct14), sl14⟩) (c14 : PySem.W.codeIn K cd14 "is_land" = true) (k14 : PySem.W.keepIn K (.ref f14) = true)
    {f15 : Addr} {od15 an15 : Option Addr} {sl15 : Array (Option Value)} {oc15 kV15 dc15 pm15 cd15 ct15 : Value} (a15 : PySem.W.nsIn K mainGlobals "check_land" = some (some (.ref f15))) (l15 : K.lookup f15 = some ⟨oc15, od15, .func (PySem.W.fnOf "check_land" "check_land" (defArgs s_check_land) (defBody s_check_land) (defScope s_check_land) .none kV15 dc15 pm15 an15 cd15 ct15), sl15⟩) (c15 : PySem.W.codeIn K cd15 "check_land" = true) (k15 : PySem.W.keepIn K (.ref f15) = true)
    {f16 : Addr} {od16 an16 : Option Addr} {sl16 : Array (Option Value)} {oc16 kV16 dc16 pm16 cd16 ct16 : Value} (a16 : PySem.W.nsIn K mainGlobals "is_rising" = some (some (.ref f16))) (l16 : K.lookup f16 = some ⟨oc16, od16, .func (PySem.W.fnOf "is_rising" "is_rising" (defArgs s_is_rising) (defBody s_is_rising) (defScope s_is_rising) .none kV16 dc16 pm16 an16 cd16 ct16), sl16⟩) (c16 : PySem.W.codeIn K cd16 "is_rising" = true) (k16 : PySem.W.keepIn K (.ref f16) = true)
    {f17 : Addr} {od17 an17 : Option Addr} {sl17 : Array (Option Value)} {oc17 kV17 dc17 pm17 cd17 ct17 : Value} (a17 : PySem.W.nsIn K mainGlobals "is_plan_of" = some (some (.ref f17))) (l17 : K.lookup f17 = some ⟨oc17, od17, .func (PySem.W.fnOf "is_plan_of" "is_plan_of" (defArgs s_is_plan_of) (defBody s_is_plan_of) (defScope s_is_plan_of) .none kV17 dc17 pm17 an17 cd17 ct17), sl17⟩) (c17 : PySem.W.codeIn K cd17 "is_plan_of" = true) (k17 : PySem.W.keepIn K (.ref f17) = true)
    {f18 : Addr} {od18 an18 : Option Addr} {sl18 : Array (Option Value)} {oc18 kV18 dc18 pm18 cd18 ct18 : Value} (a18 : PySem.W.nsIn K mainGlobals "check_plan" = some (some (.ref f18))) (l18 : K.lookup f18 = some ⟨oc18, od18, .func (PySem.W.fnOf "check_plan" "check_plan" (defArgs s_check_plan) (defBody s_check_plan) (defScope s_check_plan) .none kV18 dc18 pm18 an18 cd18 ct18), sl18⟩) (c18 : PySem.W.codeIn K cd18 "check_plan" = true) (k18 : PySem.W.keepIn K (.ref f18) = true)
    {f19 : Addr} {od19 an19 : Option Addr} {sl19 : Array (Option Value)} {oc19 kV19 dc19 pm19 cd19 ct19 : Value} (a19 : PySem.W.nsIn K mainGlobals "is_list" = some (some (.ref f19))) (l19 : K.lookup f19 = some ⟨oc19, od19, .func (PySem.W.fnOf "is_list" "is_list" (defArgs s_is_list) (defBody s_is_list) (defScope s_is_list) .none kV19 dc19 pm19 an19 cd19 ct19), sl19⟩) (c19 : PySem.W.codeIn K cd19 "is_list" = true) (k19 : PySem.W.keepIn K (.ref f19) = true)
    {f20 : Addr} {od20 an20 : Option Addr} {sl20 : Array (Option Value)} {oc20 kV20 dc20 pm20 cd20 ct20 : Value} (a20 : PySem.W.nsIn K mainGlobals "is_step" = some (some (.ref f20))) (l20 : K.lookup f20 = some ⟨oc20, od20, .func (PySem.W.fnOf "is_step" "is_step" (defArgs s_is_step) (defBody s_is_step) (defScope s_is_step) .none kV20 dc20 pm20 an20 cd20 ct20), sl20⟩) (c20 : PySem.W.codeIn K cd20 "is_step" = true) (k20 : PySem.W.keepIn K (.ref f20) = true)
    {f21 : Addr} {od21 an21 : Option Addr} {sl21 : Array (Option Value)} {oc21 kV21 dc21 pm21 cd21 ct21 : Value} (a21 : PySem.W.nsIn K mainGlobals "is_storm" = some (some (.ref f21))) (l21 : K.lookup f21 = some ⟨oc21, od21, .func (PySem.W.fnOf "is_storm" "is_storm" (defArgs s_is_storm) (defBody s_is_storm) (defScope s_is_storm) .none kV21 dc21 pm21 an21 cd21 ct21), sl21⟩) (c21 : PySem.W.codeIn K cd21 "is_storm" = true) (k21 : PySem.W.keepIn K (.ref f21) = true)
    {f22 : Addr} {od22 an22 : Option Addr} {sl22 : Array (Option Value)} {oc22 kV22 dc22 pm22 cd22 ct22 : Value} (a22 : PySem.W.nsIn K mainGlobals "check_storm" = some (some (.ref f22))) (l22 : K.lookup f22 = some ⟨oc22, od22, .func (PySem.W.fnOf "check_storm" "check_storm" (defArgs s_check_storm) (defBody s_check_storm) (defScope s_check_storm) .none kV22 dc22 pm22 an22 cd22 ct22), sl22⟩) (c22 : PySem.W.codeIn K cd22 "check_storm" = true) (k22 : PySem.W.keepIn K (.ref f22) = true)
    {f23 : Addr} {od23 an23 : Option Addr} {sl23 : Array (Option Value)} {oc23 kV23 dc23 pm23 cd23 ct23 : Value} (a23 : PySem.W.nsIn K mainGlobals "ends_of" = some (some (.ref f23))) (l23 : K.lookup f23 = some ⟨oc23, od23, .func (PySem.W.fnOf "ends_of" "ends_of" (defArgs s_ends_of) (defBody s_ends_of) (defScope s_ends_of) .none kV23 dc23 pm23 an23 cd23 ct23), sl23⟩) (c23 : PySem.W.codeIn K cd23 "ends_of" = true) (k23 : PySem.W.keepIn K (.ref f23) = true)
    {f24 : Addr} {od24 an24 : Option Addr} {sl24 : Array (Option Value)} {oc24 kV24 dc24 pm24 cd24 ct24 : Value} (a24 : PySem.W.nsIn K mainGlobals "is_less" = some (some (.ref f24))) (l24 : K.lookup f24 = some ⟨oc24, od24, .func (PySem.W.fnOf "is_less" "is_less" (defArgs s_is_less) (defBody s_is_less) (defScope s_is_less) .none kV24 dc24 pm24 an24 cd24 ct24), sl24⟩) (c24 : PySem.W.codeIn K cd24 "is_less" = true) (k24 : PySem.W.keepIn K (.ref f24) = true)
    {f25 : Addr} {od25 an25 : Option Addr} {sl25 : Array (Option Value)} {oc25 kV25 dc25 pm25 cd25 ct25 : Value} (a25 : PySem.W.nsIn K mainGlobals "ground_of" = some (some (.ref f25))) (l25 : K.lookup f25 = some ⟨oc25, od25, .func (PySem.W.fnOf "ground_of" "ground_of" (defArgs s_ground_of) (defBody s_ground_of) (defScope s_ground_of) .none kV25 dc25 pm25 an25 cd25 ct25), sl25⟩) (c25 : PySem.W.codeIn K cd25 "ground_of" = true) (k25 : PySem.W.keepIn K (.ref f25) = true)
    {f26 : Addr} {od26 an26 : Option Addr} {sl26 : Array (Option Value)} {oc26 kV26 dc26 pm26 cd26 ct26 : Value} (a26 : PySem.W.nsIn K mainGlobals "sill_at" = some (some (.ref f26))) (l26 : K.lookup f26 = some ⟨oc26, od26, .func (PySem.W.fnOf "sill_at" "sill_at" (defArgs s_sill_at) (defBody s_sill_at) (defScope s_sill_at) .none kV26 dc26 pm26 an26 cd26 ct26), sl26⟩) (c26 : PySem.W.codeIn K cd26 "sill_at" = true) (k26 : PySem.W.keepIn K (.ref f26) = true)
    {f27 : Addr} {od27 an27 : Option Addr} {sl27 : Array (Option Value)} {oc27 kV27 dc27 pm27 cd27 ct27 : Value} (a27 : PySem.W.nsIn K mainGlobals "spread" = some (some (.ref f27))) (l27 : K.lookup f27 = some ⟨oc27, od27, .func (PySem.W.fnOf "spread" "spread" (defArgs s_spread) (defBody s_spread) (defScope s_spread) .none kV27 dc27 pm27 an27 cd27 ct27), sl27⟩) (c27 : PySem.W.codeIn K cd27 "spread" = true) (k27 : PySem.W.keepIn K (.ref f27) = true)
    {f28 : Addr} {od28 an28 : Option Addr} {sl28 : Array (Option Value)} {oc28 kV28 dc28 pm28 cd28 ct28 : Value} (a28 : PySem.W.nsIn K mainGlobals "passes" = some (some (.ref f28))) (l28 : K.lookup f28 = some ⟨oc28, od28, .func (PySem.W.fnOf "passes" "passes" (defArgs s_passes) (defBody s_passes) (defScope s_passes) .none kV28 dc28 pm28 an28 cd28 ct28), sl28⟩) (c28 : PySem.W.codeIn K cd28 "passes" = true) (k28 : PySem.W.keepIn K (.ref f28) = true)
    {f29 : Addr} {od29 an29 : Option Addr} {sl29 : Array (Option Value)} {oc29 kV29 dc29 pm29 cd29 ct29 : Value} (a29 : PySem.W.nsIn K mainGlobals "levels_from" = some (some (.ref f29))) (l29 : K.lookup f29 = some ⟨oc29, od29, .func (PySem.W.fnOf "levels_from" "levels_from" (defArgs s_levels_from) (defBody s_levels_from) (defScope s_levels_from) .none kV29 dc29 pm29 an29 cd29 ct29), sl29⟩) (c29 : PySem.W.codeIn K cd29 "levels_from" = true) (k29 : PySem.W.keepIn K (.ref f29) = true)
    {f30 : Addr} {od30 an30 : Option Addr} {sl30 : Array (Option Value)} {oc30 kV30 dc30 pm30 cd30 ct30 : Value} (a30 : PySem.W.nsIn K mainGlobals "heights_by" = some (some (.ref f30))) (l30 : K.lookup f30 = some ⟨oc30, od30, .func (PySem.W.fnOf "heights_by" "heights_by" (defArgs s_heights_by) (defBody s_heights_by) (defScope s_heights_by) .none kV30 dc30 pm30 an30 cd30 ct30), sl30⟩) (c30 : PySem.W.codeIn K cd30 "heights_by" = true) (k30 : PySem.W.keepIn K (.ref f30) = true)
    {f31 : Addr} {od31 an31 : Option Addr} {sl31 : Array (Option Value)} {oc31 kV31 dc31 pm31 cd31 ct31 : Value} (a31 : PySem.W.nsIn K mainGlobals "hours_by" = some (some (.ref f31))) (l31 : K.lookup f31 = some ⟨oc31, od31, .func (PySem.W.fnOf "hours_by" "hours_by" (defArgs s_hours_by) (defBody s_hours_by) (defScope s_hours_by) .none kV31 dc31 pm31 an31 cd31 ct31), sl31⟩) (c31 : PySem.W.codeIn K cd31 "hours_by" = true) (k31 : PySem.W.keepIn K (.ref f31) = true)
    {f32 : Addr} {od32 an32 : Option Addr} {sl32 : Array (Option Value)} {oc32 kV32 dc32 pm32 cd32 ct32 : Value} (a32 : PySem.W.nsIn K mainGlobals "levels_by" = some (some (.ref f32))) (l32 : K.lookup f32 = some ⟨oc32, od32, .func (PySem.W.fnOf "levels_by" "levels_by" (defArgs s_levels_by) (defBody s_levels_by) (defScope s_levels_by) .none kV32 dc32 pm32 an32 cd32 ct32), sl32⟩) (c32 : PySem.W.codeIn K cd32 "levels_by" = true) (k32 : PySem.W.keepIn K (.ref f32) = true)
    {f33 : Addr} {od33 an33 : Option Addr} {sl33 : Array (Option Value)} {oc33 kV33 dc33 pm33 cd33 ct33 : Value} (a33 : PySem.W.nsIn K mainGlobals "levels" = some (some (.ref f33))) (l33 : K.lookup f33 = some ⟨oc33, od33, .func (PySem.W.fnOf "levels" "levels" (defArgs s_levels) (defBody s_levels) (defScope s_levels) .none kV33 dc33 pm33 an33 cd33 ct33), sl33⟩) (c33 : PySem.W.codeIn K cd33 "levels" = true) (k33 : PySem.W.keepIn K (.ref f33) = true)
    {f34 : Addr} {od34 an34 : Option Addr} {sl34 : Array (Option Value)} {oc34 kV34 dc34 pm34 cd34 ct34 : Value} (a34 : PySem.W.nsIn K mainGlobals "_law_heights" = some (some (.ref f34))) (l34 : K.lookup f34 = some ⟨oc34, od34, .func (PySem.W.fnOf "_law_heights" "_law_heights" (defArgs s__law_heights) (defBody s__law_heights) (defScope s__law_heights) .none kV34 dc34 pm34 an34 cd34 ct34), sl34⟩) (c34 : PySem.W.codeIn K cd34 "_law_heights" = true) (k34 : PySem.W.keepIn K (.ref f34) = true)
    {f35 : Addr} {od35 an35 : Option Addr} {sl35 : Array (Option Value)} {oc35 kV35 dc35 pm35 cd35 ct35 : Value} (a35 : PySem.W.nsIn K mainGlobals "_law_hours" = some (some (.ref f35))) (l35 : K.lookup f35 = some ⟨oc35, od35, .func (PySem.W.fnOf "_law_hours" "_law_hours" (defArgs s__law_hours) (defBody s__law_hours) (defScope s__law_hours) .none kV35 dc35 pm35 an35 cd35 ct35), sl35⟩) (c35 : PySem.W.codeIn K cd35 "_law_hours" = true) (k35 : PySem.W.keepIn K (.ref f35) = true)
    {f36 : Addr} {od36 an36 : Option Addr} {sl36 : Array (Option Value)} {oc36 kV36 dc36 pm36 cd36 ct36 : Value} (a36 : PySem.W.nsIn K mainGlobals "_law_same" = some (some (.ref f36))) (l36 : K.lookup f36 = some ⟨oc36, od36, .func (PySem.W.fnOf "_law_same" "_law_same" (defArgs s__law_same) (defBody s__law_same) (defScope s__law_same) .none kV36 dc36 pm36 an36 cd36 ct36), sl36⟩) (c36 : PySem.W.codeIn K cd36 "_law_same" = true) (k36 : PySem.W.keepIn K (.ref f36) = true)
    {f37 : Addr} {od37 an37 : Option Addr} {sl37 : Array (Option Value)} {oc37 kV37 dc37 pm37 cd37 ct37 : Value} (a37 : PySem.W.nsIn K mainGlobals "_law_first" = some (some (.ref f37))) (l37 : K.lookup f37 = some ⟨oc37, od37, .func (PySem.W.fnOf "_law_first" "_law_first" (defArgs s__law_first) (defBody s__law_first) (defScope s__law_first) .none kV37 dc37 pm37 an37 cd37 ct37), sl37⟩) (c37 : PySem.W.codeIn K cd37 "_law_first" = true) (k37 : PySem.W.keepIn K (.ref f37) = true)
    {f38 : Addr} {od38 an38 : Option Addr} {sl38 : Array (Option Value)} {oc38 kV38 dc38 pm38 cd38 ct38 : Value} (a38 : PySem.W.nsIn K mainGlobals "_law_more" = some (some (.ref f38))) (l38 : K.lookup f38 = some ⟨oc38, od38, .func (PySem.W.fnOf "_law_more" "_law_more" (defArgs s__law_more) (defBody s__law_more) (defScope s__law_more) .none kV38 dc38 pm38 an38 cd38 ct38), sl38⟩) (c38 : PySem.W.codeIn K cd38 "_law_more" = true) (k38 : PySem.W.keepIn K (.ref f38) = true)
    {f39 : Addr} {od39 an39 : Option Addr} {sl39 : Array (Option Value)} {oc39 kV39 dc39 pm39 cd39 ct39 : Value} (a39 : PySem.W.nsIn K mainGlobals "heights_of" = some (some (.ref f39))) (l39 : K.lookup f39 = some ⟨oc39, od39, .func (PySem.W.fnOf "heights_of" "heights_of" (defArgs s_heights_of) (defBody s_heights_of) (defScope s_heights_of) .none kV39 dc39 pm39 an39 cd39 ct39), sl39⟩) (c39 : PySem.W.codeIn K cd39 "heights_of" = true) (k39 : PySem.W.keepIn K (.ref f39) = true)
    {f40 : Addr} {od40 an40 : Option Addr} {sl40 : Array (Option Value)} {oc40 kV40 dc40 pm40 cd40 ct40 : Value} (a40 : PySem.W.nsIn K mainGlobals "check_hour" = some (some (.ref f40))) (l40 : K.lookup f40 = some ⟨oc40, od40, .func (PySem.W.fnOf "check_hour" "check_hour" (defArgs s_check_hour) (defBody s_check_hour) (defScope s_check_hour) .none kV40 dc40 pm40 an40 cd40 ct40), sl40⟩) (c40 : PySem.W.codeIn K cd40 "check_hour" = true) (k40 : PySem.W.keepIn K (.ref f40) = true)
    {f41 : Addr} {od41 an41 : Option Addr} {sl41 : Array (Option Value)} {oc41 kV41 dc41 pm41 cd41 ct41 : Value} (a41 : PySem.W.nsIn K mainGlobals "gone_by" = some (some (.ref f41))) (l41 : K.lookup f41 = some ⟨oc41, od41, .func (PySem.W.fnOf "gone_by" "gone_by" (defArgs s_gone_by) (defBody s_gone_by) (defScope s_gone_by) .none kV41 dc41 pm41 an41 cd41 ct41), sl41⟩) (c41 : PySem.W.codeIn K cd41 "gone_by" = true) (k41 : PySem.W.keepIn K (.ref f41) = true)
    {f42 : Addr} {od42 an42 : Option Addr} {sl42 : Array (Option Value)} {oc42 kV42 dc42 pm42 cd42 ct42 : Value} (a42 : PySem.W.nsIn K mainGlobals "_law_is_less" = some (some (.ref f42))) (l42 : K.lookup f42 = some ⟨oc42, od42, .func (PySem.W.fnOf "_law_is_less" "_law_is_less" (defArgs s__law_is_less) (defBody s__law_is_less) (defScope s__law_is_less) .none kV42 dc42 pm42 an42 cd42 ct42), sl42⟩) (c42 : PySem.W.codeIn K cd42 "_law_is_less" = true) (k42 : PySem.W.keepIn K (.ref f42) = true)
    {f43 : Addr} {od43 an43 : Option Addr} {sl43 : Array (Option Value)} {oc43 kV43 dc43 pm43 cd43 ct43 : Value} (a43 : PySem.W.nsIn K mainGlobals "many_places" = some (some (.ref f43))) (l43 : K.lookup f43 = some ⟨oc43, od43, .func (PySem.W.fnOf "many_places" "many_places" (defArgs s_many_places) (defBody s_many_places) (defScope s_many_places) .none kV43 dc43 pm43 an43 cd43 ct43), sl43⟩) (c43 : PySem.W.codeIn K cd43 "many_places" = true) (k43 : PySem.W.keepIn K (.ref f43) = true)
    {f44 : Addr} {od44 an44 : Option Addr} {sl44 : Array (Option Value)} {oc44 kV44 dc44 pm44 cd44 ct44 : Value} (a44 : PySem.W.nsIn K mainGlobals "check_place" = some (some (.ref f44))) (l44 : K.lookup f44 = some ⟨oc44, od44, .func (PySem.W.fnOf "check_place" "check_place" (defArgs s_check_place) (defBody s_check_place) (defScope s_check_place) .none kV44 dc44 pm44 an44 cd44 ct44), sl44⟩) (c44 : PySem.W.codeIn K cd44 "check_place" = true) (k44 : PySem.W.keepIn K (.ref f44) = true)
    {f45 : Addr} {od45 an45 : Option Addr} {sl45 : Array (Option Value)} {oc45 kV45 dc45 pm45 cd45 ct45 : Value} (a45 : PySem.W.nsIn K mainGlobals "check_field" = some (some (.ref f45))) (l45 : K.lookup f45 = some ⟨oc45, od45, .func (PySem.W.fnOf "check_field" "check_field" (defArgs s_check_field) (defBody s_check_field) (defScope s_check_field) .none kV45 dc45 pm45 an45 cd45 ct45), sl45⟩) (c45 : PySem.W.codeIn K cd45 "check_field" = true) (k45 : PySem.W.keepIn K (.ref f45) = true)
    {f46 : Addr} {od46 an46 : Option Addr} {sl46 : Array (Option Value)} {oc46 kV46 dc46 pm46 cd46 ct46 : Value} (a46 : PySem.W.nsIn K mainGlobals "check_level" = some (some (.ref f46))) (l46 : K.lookup f46 = some ⟨oc46, od46, .func (PySem.W.fnOf "check_level" "check_level" (defArgs s_check_level) (defBody s_check_level) (defScope s_check_level) .none kV46 dc46 pm46 an46 cd46 ct46), sl46⟩) (c46 : PySem.W.codeIn K cd46 "check_level" = true) (k46 : PySem.W.keepIn K (.ref f46) = true)
    {f47 : Addr} {od47 an47 : Option Addr} {sl47 : Array (Option Value)} {oc47 kV47 dc47 pm47 cd47 ct47 : Value} (a47 : PySem.W.nsIn K mainGlobals "first_hour" = some (some (.ref f47))) (l47 : K.lookup f47 = some ⟨oc47, od47, .func (PySem.W.fnOf "first_hour" "first_hour" (defArgs s_first_hour) (defBody s_first_hour) (defScope s_first_hour) .none kV47 dc47 pm47 an47 cd47 ct47), sl47⟩) (c47 : PySem.W.codeIn K cd47 "first_hour" = true) (k47 : PySem.W.keepIn K (.ref f47) = true)
    {f48 : Addr} {od48 an48 : Option Addr} {sl48 : Array (Option Value)} {oc48 kV48 dc48 pm48 cd48 ct48 : Value} (a48 : PySem.W.nsIn K mainGlobals "_law_right" = some (some (.ref f48))) (l48 : K.lookup f48 = some ⟨oc48, od48, .func (PySem.W.fnOf "_law_right" "_law_right" (defArgs s__law_right) (defBody s__law_right) (defScope s__law_right) .none kV48 dc48 pm48 an48 cd48 ct48), sl48⟩) (c48 : PySem.W.codeIn K cd48 "_law_right" = true) (k48 : PySem.W.keepIn K (.ref f48) = true)
    {f49 : Addr} {od49 an49 : Option Addr} {sl49 : Array (Option Value)} {oc49 kV49 dc49 pm49 cd49 ct49 : Value} (a49 : PySem.W.nsIn K mainGlobals "law" = some (some (.ref f49))) (l49 : K.lookup f49 = some ⟨oc49, od49, .func (PySem.W.fnOf "law" "law" (defArgs s_law) (defBody s_law) (defScope s_law) .none kV49 dc49 pm49 an49 cd49 ct49), sl49⟩) (c49 : PySem.W.codeIn K cd49 "law" = true) (k49 : PySem.W.keepIn K (.ref f49) = true)
    (z0 : PySem.W.nsIn K mainGlobals "abs" = some none)
    (z1 : PySem.W.nsIn K mainGlobals "all" = some none)
    (z2 : PySem.W.nsIn K mainGlobals "any" = some none)
    (z3 : PySem.W.nsIn K mainGlobals "bool" = some none)
    (z4 : PySem.W.nsIn K mainGlobals "dict" = some none)
    (z5 : PySem.W.nsIn K mainGlobals "divmod" = some none)
    (z6 : PySem.W.nsIn K mainGlobals "enumerate" = some none)
    (z7 : PySem.W.nsIn K mainGlobals "int" = some none)
    (z8 : PySem.W.nsIn K mainGlobals "isinstance" = some none)
    (z9 : PySem.W.nsIn K mainGlobals "len" = some none)
    (z10 : PySem.W.nsIn K mainGlobals "list" = some none)
    (z11 : PySem.W.nsIn K mainGlobals "max" = some none)
    (z12 : PySem.W.nsIn K mainGlobals "min" = some none)
    (z13 : PySem.W.nsIn K mainGlobals "range" = some none)
    (z14 : PySem.W.nsIn K mainGlobals "repr" = some none)
    (z15 : PySem.W.nsIn K mainGlobals "set" = some none)
    (z16 : PySem.W.nsIn K mainGlobals "sorted" = some none)
    (z17 : PySem.W.nsIn K mainGlobals "str" = some none)
    (z18 : PySem.W.nsIn K mainGlobals "tuple" = some none)
    (z19 : PySem.W.nsIn K mainGlobals "zip" = some none)
    {u0 : Value} (g0 : PySem.W.nsIn K mainGlobals "CLOSED" = some (some u0)) (v0 : CV K u0 (.tup false [(.str (S [102, 105, 101, 108, 100])), (.str (S [103, 114, 111, 117, 110, 100])), (.str (S [104, 111, 117, 115, 101, 115])), (.str (S [119, 97, 108, 108])), (.str (S [116, 111])), (.str (S [99, 114, 101, 115, 116])), (.str (S [97, 98, 111, 118, 101])), (.str (S [108, 105, 107, 101])), (.str (S [114, 97, 105, 115, 101])), (.str (S [116, 105, 109, 101, 115])), (.str (S [101, 97, 99, 104])), (.str (S [103, 97, 117, 103, 101])), (.str (S [115, 101, 97]))]))
    {t1 : Tok} (g1 : PySem.W.nsIn K mainGlobals "LETTERS" = some (some (.str "abcdefghijklmnopqrstuvwxyz" t1)))
    {t2 : Tok} (g2 : PySem.W.nsIn K mainGlobals "MOST_FIELDS" = some (some (.int (12) t2)))
    {t3 : Tok} (g3 : PySem.W.nsIn K mainGlobals "MOST_GROUND" = some (some (.int (999) t3)))
    {t4 : Tok} (g4 : PySem.W.nsIn K mainGlobals "MOST_HEIGHT" = some (some (.int (1000) t4)))
    {t5 : Tok} (g5 : PySem.W.nsIn K mainGlobals "MOST_HOURS" = some (some (.int (48) t5)))
    {t6 : Tok} (g6 : PySem.W.nsIn K mainGlobals "MOST_HOUSES" = some (some (.int (99) t6)))
    {t7 : Tok} (g7 : PySem.W.nsIn K mainGlobals "MOST_LETTERS" = some (some (.int (8) t7)))
    {t8 : Tok} (g8 : PySem.W.nsIn K mainGlobals "MOST_PRICE" = some (some (.int (1000000) t8)))
    {t9 : Tok} (g9 : PySem.W.nsIn K mainGlobals "MOST_STEPS" = some (some (.int (100) t9)))
    {t10 : Tok} (g10 : PySem.W.nsIn K mainGlobals "MOST_STRETCHES" = some (some (.int (30) t10))) : Facts P w K mg where
  f__law_pot := ⟨_, _, PySem.W.mg_of X G a0, fun_mk (st := s__law_pot) l0 c0 k0⟩
  f__law_draw := ⟨_, _, PySem.W.mg_of X G a1, fun_mk (st := s__law_draw) l1 c1 k1⟩
  f__law_land := ⟨_, _, PySem.W.mg_of X G a2, fun_mk (st := s__law_land) l2 c2 k2⟩
  f__law_plan := ⟨_, _, PySem.W.mg_of X G a3, fun_mk (st := s__law_plan) l3 c3 k3⟩
  f__law_storm := ⟨_, _, PySem.W.mg_of X G a4, fun_mk (st := s__law_storm) l4 c4 k4⟩
  f__law_sill := ⟨_, _, PySem.W.mg_of X G a5, fun_mk (st := s__law_sill) l5 c5 k5⟩
  f__law_levels := ⟨_, _, PySem.W.mg_of X G a6, fun_mk (st := s__law_levels) l6 c6 k6⟩
  f_is_integer := ⟨_, _, PySem.W.mg_of X G a7, fun_mk (st := s_is_integer) l7 c7 k7⟩
  f_is_between := ⟨_, _, PySem.W.mg_of X G a8, fun_mk (st := s_is_between) l8 c8 k8⟩
  f_is_count := ⟨_, _, PySem.W.mg_of X G a9, fun_mk (st := s_is_count) l9 c9 k9⟩
  f_is_position := ⟨_, _, PySem.W.mg_of X G a10, fun_mk (st := s_is_position) l10 c10 k10⟩
  f_is_stretch := ⟨_, _, PySem.W.mg_of X G a11, fun_mk (st := s_is_stretch) l11 c11 k11⟩
  f_is_name := ⟨_, _, PySem.W.mg_of X G a12, fun_mk (st := s_is_name) l12 c12 k12⟩
  f_is_field := ⟨_, _, PySem.W.mg_of X G a13, fun_mk (st := s_is_field) l13 c13 k13⟩
  f_is_land := ⟨_, _, PySem.W.mg_of X G a14, fun_mk (st := s_is_land) l14 c14 k14⟩
  f_check_land := ⟨_, _, PySem.W.mg_of X G a15, fun_mk (st := s_check_land) l15 c15 k15⟩
  f_is_rising := ⟨_, _, PySem.W.mg_of X G a16, fun_mk (st := s_is_rising) l16 c16 k16⟩
  f_is_plan_of := ⟨_, _, PySem.W.mg_of X G a17, fun_mk (st := s_is_plan_of) l17 c17 k17⟩
  f_check_plan := ⟨_, _, PySem.W.mg_of X G a18, fun_mk (st := s_check_plan) l18 c18 k18⟩
  f_is_list := ⟨_, _, PySem.W.mg_of X G a19, fun_mk (st := s_is_list) l19 c19 k19⟩
  f_is_step := ⟨_, _, PySem.W.mg_of X G a20, fun_mk (st := s_is_step) l20 c20 k20⟩
  f_is_storm := ⟨_, _, PySem.W.mg_of X G a21, fun_mk (st := s_is_storm) l21 c21 k21⟩
  f_check_storm := ⟨_, _, PySem.W.mg_of X G a22, fun_mk (st := s_check_storm) l22 c22 k22⟩
  f_ends_of := ⟨_, _, PySem.W.mg_of X G a23, fun_mk (st := s_ends_of) l23 c23 k23⟩
  f_is_less := ⟨_, _, PySem.W.mg_of X G a24, fun_mk (st := s_is_less) l24 c24 k24⟩
  f_ground_of := ⟨_, _, PySem.W.mg_of X G a25, fun_mk (st := s_ground_of) l25 c25 k25⟩
  f_sill_at := ⟨_, _, PySem.W.mg_of X G a26, fun_mk (st := s_sill_at) l26 c26 k26⟩
  f_spread := ⟨_, _, PySem.W.mg_of X G a27, fun_mk (st := s_spread) l27 c27 k27⟩
  f_passes := ⟨_, _, PySem.W.mg_of X G a28, fun_mk (st := s_passes) l28 c28 k28⟩
  f_levels_from := ⟨_, _, PySem.W.mg_of X G a29, fun_mk (st := s_levels_from) l29 c29 k29⟩
  f_heights_by := ⟨_, _, PySem.W.mg_of X G a30, fun_mk (st := s_heights_by) l30 c30 k30⟩
  f_hours_by := ⟨_, _, PySem.W.mg_of X G a31, fun_mk (st := s_hours_by) l31 c31 k31⟩
  f_levels_by := ⟨_, _, PySem.W.mg_of X G a32, fun_mk (st := s_levels_by) l32 c32 k32⟩
  f_levels := ⟨_, _, PySem.W.mg_of X G a33, fun_mk (st := s_levels) l33 c33 k33⟩
  f__law_heights := ⟨_, _, PySem.W.mg_of X G a34, fun_mk (st := s__law_heights) l34 c34 k34⟩
  f__law_hours := ⟨_, _, PySem.W.mg_of X G a35, fun_mk (st := s__law_hours) l35 c35 k35⟩
  f__law_same := ⟨_, _, PySem.W.mg_of X G a36, fun_mk (st := s__law_same) l36 c36 k36⟩
  f__law_first := ⟨_, _, PySem.W.mg_of X G a37, fun_mk (st := s__law_first) l37 c37 k37⟩
  f__law_more := ⟨_, _, PySem.W.mg_of X G a38, fun_mk (st := s__law_more) l38 c38 k38⟩
  f_heights_of := ⟨_, _, PySem.W.mg_of X G a39, fun_mk (st := s_heights_of) l39 c39 k39⟩
  f_check_hour := ⟨_, _, PySem.W.mg_of X G a40, fun_mk (st := s_check_hour) l40 c40 k40⟩
  f_gone_by := ⟨_, _, PySem.W.mg_of X G a41, fun_mk (st := s_gone_by) l41 c41 k41⟩
  f__law_is_less := ⟨_, _, PySem.W.mg_of X G a42, fun_mk (st := s__law_is_less) l42 c42 k42⟩
  f_many_places := ⟨_, _, PySem.W.mg_of X G a43, fun_mk (st := s_many_places) l43 c43 k43⟩
  f_check_place := ⟨_, _, PySem.W.mg_of X G a44, fun_mk (st := s_check_place) l44 c44 k44⟩
  f_check_field := ⟨_, _, PySem.W.mg_of X G a45, fun_mk (st := s_check_field) l45 c45 k45⟩
  f_check_level := ⟨_, _, PySem.W.mg_of X G a46, fun_mk (st := s_check_level) l46 c46 k46⟩
  f_first_hour := ⟨_, _, PySem.W.mg_of X G a47, fun_mk (st := s_first_hour) l47 c47 k47⟩
  f__law_right := ⟨_, _, PySem.W.mg_of X G a48, fun_mk (st := s__law_right) l48 c48 k48⟩
  f_law := ⟨_, _, PySem.W.mg_of X G a49, fun_mk (st := s_law) l49 c49 k49⟩
  z_abs := PySem.W.mg_none_of X G z0
  z_all := PySem.W.mg_none_of X G z1
  z_any := PySem.W.mg_none_of X G z2
  z_bool := PySem.W.mg_none_of X G z3
  z_dict := PySem.W.mg_none_of X G z4
  z_divmod := PySem.W.mg_none_of X G z5
  z_enumerate := PySem.W.mg_none_of X G z6
  z_int := PySem.W.mg_none_of X G z7
  z_isinstance := PySem.W.mg_none_of X G z8
  z_len := PySem.W.mg_none_of X G z9
  z_list := PySem.W.mg_none_of X G z10
  z_max := PySem.W.mg_none_of X G z11
  z_min := PySem.W.mg_none_of X G z12
  z_range := PySem.W.mg_none_of X G z13
  z_repr := PySem.W.mg_none_of X G z14
  z_set := PySem.W.mg_none_of X G z15
  z_sorted := PySem.W.mg_none_of X G z16
  z_str := PySem.W.mg_none_of X G z17
  z_tuple := PySem.W.mg_none_of X G z18
  z_zip := PySem.W.mg_none_of X G z19
  g_CLOSED := GD.cv (PySem.W.mg_of X G g0) v0
  g_LETTERS := GD.strS (PySem.W.mg_of X G g1) ks18
  g_MOST_FIELDS := GD.int (PySem.W.mg_of X G g2)
  g_MOST_GROUND := GD.int (PySem.W.mg_of X G g3)
  g_MOST_HEIGHT := GD.int (PySem.W.mg_of X G g4)
  g_MOST_HOURS := GD.int (PySem.W.mg_of X G g5)
  g_MOST_HOUSES := GD.int (PySem.W.mg_of X G g6)
  g_MOST_LETTERS := GD.int (PySem.W.mg_of X G g7)
  g_MOST_PRICE := GD.int (PySem.W.mg_of X G g8)
  g_MOST_STEPS := GD.int (PySem.W.mg_of X G g9)
  g_MOST_STRETCHES := GD.int (PySem.W.mg_of X G g10)
theorem law_in {l : PySem.W.OpenLaw} {w : World} {K : PySem.W.Frag} {h : Heap} {mg : Str → Option Value} {fa : Addr} (B : Facts l.prog w K mg) (hfa : mg "law" = some (.ref fa)) :
    ∃ fd : FuncData, (∀ (s : Shared) (u : Value), BindsTo s fd ⟨[u], []⟩ [("script", u)]) ∧ ∀ base : Heap, K.In base → base.Ns mainGlobals mg → FnG l.prog w K mg base 11 fa fd ["script"] m_law := by
  obtain ⟨f, fd, h, F⟩ := B.f_law
  obtain rfl : f = fa := Value.ref.inj (Option.some.inj (h.symm.trans hfa))
  refine ⟨fd, fun s u => ?_, fun base _ _ => ok_law B F base⟩
  obtain ⟨oc, od, kV, doc, pm, an, cdv, ct, osl, rfl, lk, hcd⟩ := F.ex
  exact .of_eq rfl
end K71

/-! k20: what the mirrors of the program answer on right lands. -/
namespace K71
open PySem PySem.Spec L2 MP

structure Fd where
  nm : List Nat
  g : Int
  h : Int
structure Sr where
  a : Nat
  b : Nat
  c : Int
  p : Option Int
structure Ld where
  fs : List Fd
  ss : List Sr
def oI : Option Int → D
  | none => .non
  | some i => .int i
def Fd.d (f : Fd) : D := .tup false [.str (S [102, 105, 101, 108, 100]), .str (S f.nm), .int f.g, .int f.h]
def Sr.d (s : Sr) : D := .tup false [.str (S [115, 116, 114, 101, 116, 99, 104]), .int (s.a : Nat), .int (s.b : Nat), .int s.c, oI s.p]
def Ld.d (l : Ld) : D := .tup false [.str (S [108, 97, 110, 100]), .tup false (l.fs.map Fd.d), .tup false (l.ss.map Sr.d)]
@[simp] theorem fz_oI (p : Option Int) : (oI p).frozen = true := by cases p <;> rfl
@[simp] theorem fz_Fd (f : Fd) : f.d.frozen = true := by simp [Fd.d]
@[simp] theorem fz_Sr (f : Sr) : f.d.frozen = true := by simp [Sr.d]
theorem fzL_map {α : Type} (r : α → D) (h : ∀ x, (r x).frozen = true) (xs : List α) : frozenL (xs.map r) = true := by
  rw [frozenL_all, List.all_eq_true]
  intro d hd
  obtain ⟨x, _, rfl⟩ := List.mem_map.mp hd
  exact h x
@[simp] theorem fz_Fds (fs : List Fd) : frozenL (fs.map Fd.d) = true := fzL_map _ fz_Fd _
@[simp] theorem fz_Srs (fs : List Sr) : frozenL (fs.map Sr.d) = true := fzL_map _ fz_Sr _
@[simp] theorem fz_Ld (l : Ld) : l.d.frozen = true := by simp [Ld.d]
@[simp] theorem fz_ints (xs : List Int) : frozenL (xs.map D.int) = true := fzL_map _ (fun _ => rfl) _

@[simp] theorem ld_1 (l : Ld) : ixD l.d (.int 1) = some (.tup false (l.fs.map Fd.d)) := by simp [Ld.d]
@[simp] theorem ld_2 (l : Ld) : ixD l.d (.int 2) = some (.tup false (l.ss.map Sr.d)) := by simp [Ld.d]
@[simp] theorem ld_0 (l : Ld) : ixD l.d (.int 0) = some (.str (S [108, 97, 110, 100])) := by simp [Ld.d]
@[simp] theorem ld_n (l : Ld) : lenD [l.d] = some (.int 3) := by simp [Ld.d]
@[simp] theorem ld_t (l : Ld) (T : String) : isD T l.d = some (.bl (isB "tuple" T)) := by simp [Ld.d]
@[simp] theorem fd_0 (f : Fd) : ixD f.d (.int 0) = some (.str (S [102, 105, 101, 108, 100])) := by simp [Fd.d]
@[simp] theorem fd_1 (f : Fd) : ixD f.d (.int 1) = some (.str (S f.nm)) := by simp [Fd.d]
@[simp] theorem fd_2 (f : Fd) : ixD f.d (.int 2) = some (.int f.g) := by simp [Fd.d]
@[simp] theorem fd_3 (f : Fd) : ixD f.d (.int 3) = some (.int f.h) := by simp [Fd.d]
@[simp] theorem fd_n (f : Fd) : lenD [f.d] = some (.int 4) := by simp [Fd.d]
@[simp] theorem fd_t (f : Fd) (T : String) : isD T f.d = some (.bl (isB "tuple" T)) := by simp [Fd.d]
@[simp] theorem sr_0 (f : Sr) : ixD f.d (.int 0) = some (.str (S [115, 116, 114, 101, 116, 99, 104])) := by simp [Sr.d]
@[simp] theorem sr_1 (f : Sr) : ixD f.d (.int 1) = some (.int (f.a : Nat)) := by simp [Sr.d]
@[simp] theorem sr_2 (f : Sr) : ixD f.d (.int 2) = some (.int (f.b : Nat)) := by simp [Sr.d]
@[simp] theorem sr_3 (f : Sr) : ixD f.d (.int 3) = some (.int f.c) := by simp [Sr.d]
@[simp] theorem sr_4 (f : Sr) : ixD f.d (.int 4) = some (oI f.p) := by simp [Sr.d]
@[simp] theorem sr_n (f : Sr) : lenD [f.d] = some (.int 5) := by simp [Sr.d]
@[simp] theorem sr_t (f : Sr) (T : String) : isD T f.d = some (.bl (isB "tuple" T)) := by simp [Sr.d]
def mx3 (i j k : Int) : Int := if (if i < j then j else i) < k then k else (if i < j then j else i)
/-- the ground of a place -/
def gr (fs : List Fd) : Nat → Int
  | 0 => 0
  | n + 1 => match fs[n]? with
    | some f => f.g
    | none => 0
def sil (fs : List Fd) (s : Sr) : Int := mx3 s.c (gr fs s.a) (gr fs s.b)
def sAt (fs : List Fd) (s : Sr) : Prop := s.a ≤ fs.length ∧ s.b ≤ fs.length
theorem p_ground (l : Ld) (p : Nat) (h : p ≤ l.fs.length) : m_ground_of [l.d, .int (p : Nat)] = some (.int (gr l.fs p), [some l.d, some (.int (p : Nat))]) := by
  unfold m_ground_of
  rw [ev_fn]
  cases p with
  | zero => simp [b_ground_of, gr]
  | succ n =>
    have hd : l.fs[n]? = some l.fs[n] := List.getElem?_eq_getElem h
    have e : ((n + 1 : Nat) : Int) - 1 = (n : Nat) := by omega
    have e2 : (0 : Int) < ((n + 1 : Nat) : Int) := by omega
    simp only [gr, hd]
    generalize hk : ((n + 1 : Nat) : Int) = k at e e2 ⊢
    simp [b_ground_of, Ld.d, e, e2, atI_nat', hd, Fd.d]
theorem p_sill (l : Ld) (i : Nat) (s : Sr) (hs : l.ss[i]? = some s) (h : sAt l.fs s) : m_sill_at [l.d, .int (i : Nat)] = some (.int (sil l.fs s), [some l.d, some (.int (i : Nat))]) := by
  unfold m_sill_at
  rw [ev_fn]
  have h1 := p_ground l s.a h.1
  have h2 := p_ground l s.b h.2
  simp [b_sill_at, atI_nat', hs, Ld.d, Sr.d, sil, mx3] at h1 h2 ⊢
  simp [h1, h2]
theorem gr_at (fs : List Fd) (p : Nat) (h : p ≤ fs.length) : (D.int 0 :: fs.map fun f => D.int f.g)[p]? = some (.int (gr fs p)) := by
  cases p with
  | zero => rfl
  | succ n =>
    have hd : fs[n]? = some fs[n] := List.getElem?_eq_getElem h
    rw [List.getElem?_cons_succ, List.getElem?_map, hd]
    simp [gr, hd]
theorem q_sill (l : Ld) (i : Nat) (s : Sr) (hs : l.ss[i]? = some s) (h : sAt l.fs s) (hn : l.fs.length ≤ 100) : m__law_sill [l.d, .int (i : Nat)] = some (.int (sil l.fs s), [some l.d, some (.int (i : Nat))]) := by
  unfold m__law_sill
  rw [ev_fn]
  have hc : cL cg1__law_sill ct1__law_sill ce1__law_sill [4] (l.fs.map Fd.d) [some l.d, some (.int (i : Nat)), none, none, none] = some (l.fs.map (fun f => .int f.g), [some l.d, some (.int (i : Nat)), none, none, none]) :=
    cL_of Fd.d (fun f => .int f.g) l.fs fun f hf => by simp [stepC, e_cg1__law_sill, ct1__law_sill, e_ce1__law_sill]
  have h1 := gr_at l.fs s.a h.1
  have h2 := gr_at l.fs s.b h.2
  have fz : frozenL (l.fs.map fun f => D.int f.g) = true := fzL_map _ (fun _ => rfl) _
  have k1 : l.fs.length ≤ 16777216 := by omega
  have k2 : 1 + l.fs.length ≤ 16777216 := by omega
  simp [b__law_sill, backF, hc, atI_nat', hs, h1, h2, fz, k1, k2, sil, mx3]
end K71

/-! k20: settled lands, housed places, what is unlike. -/
namespace K71
open PySem PySem.Spec L2 MP

theorem enum_map {α : Type} (r : α → D) : ∀ (xs : List α) (n : Nat), enumD n (xs.map r) = (xs.zipIdx n).map fun z => .tup false [.int (z.2 : Nat), r z.1]
  | [], n => rfl
  | x :: xs, n => by
    rw [List.map_cons, enumD, enum_map r xs (n + 1), List.zipIdx_cons, List.map_cons]
theorem zip_map {α β : Type} (r : α → D) (q : β → D) : ∀ (xs : List α) (ys : List β), zipD (xs.map r) (ys.map q) = (xs.zip ys).map fun z => .tup false [r z.1, q z.2]
  | [], _ => by simp [zipD]
  | _ :: _, [] => by simp [zipD]
  | x :: xs, y :: ys => by
    rw [List.map_cons, List.map_cons, zipD, zip_map r q xs ys, List.zip_cons_cons, List.map_cons]
@[simp] theorem ld_sl2 (l : Ld) : slD l.d none (some 2) = some (.tup false [.str (S [108, 97, 110, 100]), .tup false (l.fs.map Fd.d)]) := by
  unfold Ld.d
  rw [sl_tup']
  rfl
@[simp] theorem ld_sl1 (l : Ld) : slD l.d (some 1) none = some (.tup false [.tup false (l.fs.map Fd.d), .tup false (l.ss.map Sr.d)]) := by
  unfold Ld.d
  rw [sl_tup']
  rfl
@[simp] theorem sr_sl3 (l : Sr) : slD l.d none (some 3) = some (.tup false [.str (S [115, 116, 114, 101, 116, 99, 104]), .int (l.a : Nat), .int (l.b : Nat)]) := by
  unfold Sr.d
  rw [sl_tup']
  rfl
@[simp] theorem sr_sl13 (l : Sr) : slD l.d (some 1) (some 3) = some (.tup false [.int (l.a : Nat), .int (l.b : Nat)]) := by
  unfold Sr.d
  rw [sl_tup']
  rfl
/-- what lands are like -/
structure LS (l : Ld) : Prop where
  f2 : l.fs.length ≤ 12
  s1 : l.ss.length ≤ 30
  at_ : ∀ s ∈ l.ss, s.a < s.b ∧ s.b ≤ l.fs.length
theorem LS.sAt {l : Ld} (h : LS l) {i : Nat} {s : Sr} (hs : l.ss[i]? = some s) : sAt l.fs s := by
  have := h.at_ s (List.mem_of_getElem? hs)
  exact ⟨by omega, this.2⟩
/-! ### what is unlike -/
end K71

/-! k20: names, fields, stretches, lands by their looks. -/
namespace K71
open PySem PySem.Spec L2 MP

theorem in_strs (p : List Nat) (o : Bool) (xs : List (List Nat)) : inD (.str (S p)) (.tup o (xs.map fun x => D.str (S x))) = some (.bl (decide (p ∈ xs))) := by
  have h1 : okIn (.str (S p)) (xs.map fun x => D.str (S x)) = true := by
    unfold okIn
    rw [List.all_map]
    simp [D.flat]
  have h2 : inF (.str (S p)) (xs.map fun x => D.str (S x)) = decide (p ∈ xs) := by
    unfold inF inV
    rw [List.map_map, List.any_map, Bool.eq_iff_iff, List.any_eq_true, decide_eq_true_eq]
    constructor
    · rintro ⟨y, h, e⟩
      have e : (S y == S p) = true := e
      rw [S_eq, beq_iff_eq] at e
      rw [← e]
      exact h
    · exact fun h => ⟨p, h, by show (S p == S p) = true; simp⟩
  show (if okIn (.str (S p)) (xs.map fun x => D.str (S x)) = true then some (D.bl (inF (.str (S p)) (xs.map fun x => D.str (S x)))) else none) = _
  rw [if_pos h1, h2]
/-- the closed words -/
def closed : List (List Nat) := [[102, 105, 101, 108, 100], [103, 114, 111, 117, 110, 100], [104, 111, 117, 115, 101, 115], [119, 97, 108, 108], [116, 111], [99, 114, 101, 115, 116], [97, 98, 111, 118, 101], [108, 105, 107, 101], [114, 97, 105, 115, 101], [116, 105, 109, 101, 115], [101, 97, 99, 104], [103, 97, 117, 103, 101], [115, 101, 97]]
theorem closed_D : D.tup false [(.str (S [102, 105, 101, 108, 100])), (.str (S [103, 114, 111, 117, 110, 100])), (.str (S [104, 111, 117, 115, 101, 115])), (.str (S [119, 97, 108, 108])), (.str (S [116, 111])), (.str (S [99, 114, 101, 115, 116])), (.str (S [97, 98, 111, 118, 101])), (.str (S [108, 105, 107, 101])), (.str (S [114, 97, 105, 115, 101])), (.str (S [116, 105, 109, 101, 115])), (.str (S [101, 97, 99, 104])), (.str (S [103, 97, 117, 103, 101])), (.str (S [115, 101, 97]))] = .tup false (closed.map fun x => D.str (S x)) := rfl
theorem lets_iff (c : Nat) : c ∈ kc18 ↔ 97 ≤ c ∧ c ≤ 122 := by
  unfold kc18
  simp only [List.mem_cons, List.not_mem_nil, or_false]
  omega
def nameB (n : List Nat) : Bool := decide (1 ≤ n.length) && decide (n.length ≤ 8) && !decide (n ∈ closed) && n.all fun c => decide (c ∈ kc18)
theorem p_name (n : List Nat) (hn : n.length ≤ 1000) : m_is_name [.str (S n)] = some (.bl (nameB n), [some (.str (S n))]) := by
  unfold m_is_name
  rw [ev_fn]
  have hc : cL cg1_is_name ct1_is_name ce1_is_name [1] (n.map signD) [some (.str (S n)), none] = some (n.map fun c => D.bl (decide (c ∈ kc18)), [some (.str (S n)), none]) := by
    exact cL_of signD (fun c => D.bl (decide (c ∈ kc18))) n fun c hc => by simp [stepC, e_cg1_is_name, ct1_is_name, e_ce1_is_name]
  have hm : (n.map fun c => D.bl (decide (c ∈ kc18))) = (n.map fun c => decide (c ∈ kc18)).map D.bl := by
    rw [List.map_map]
    rfl
  rw [hm] at hc
  have k1 : n.length ≤ 16777216 := by omega
  have k2 : (n.map fun c => decide (c ∈ kc18)).length ≤ 16777216 := by simpa using k1
  unfold b_is_name
  rw [closed_D]
  by_cases c1 : 1 ≤ n.length
  · have c1' : (1 : Int) ≤ (n.length : Nat) := by omega
    by_cases c2 : n.length ≤ 8
    · have c2' : ((n.length : Nat) : Int) ≤ 8 := by omega
      by_cases c3 : n ∈ closed
      · simp [isB, k1, c1, c2, c1', c2', in_strs, c3, nameB]
      · have e : ((n.map fun c => decide (c ∈ kc18)).all id) = n.all fun c => decide (c ∈ kc18) := by
          rw [List.all_map]
          rfl
        simp [isB, k1, c1, c2, c1', c2', in_strs, c3, nameB, hc, backF, e, -List.map_map]
    · have c2' : ¬ ((n.length : Nat) : Int) ≤ 8 := by omega
      simp [isB, k1, c1, c2, c1', c2', nameB]
  · have c1' : ¬ (1 : Int) ≤ (n.length : Nat) := by omega
    simp [isB, k1, c1, c1', nameB]
theorem p_integer (i : Int) : m_is_integer [.int i] = some (.bl true, [some (.int i)]) := by
  unfold m_is_integer
  rw [ev_fn]
  simp [b_is_integer, isB]
theorem p_integerN : m_is_integer [.non] = some (.bl false, [some .non]) := by
  unfold m_is_integer
  rw [ev_fn]
  simp [b_is_integer, isB]
theorem p_integerB (b : Bool) : m_is_integer [.bl b] = some (.bl false, [some (.bl b)]) := by
  unfold m_is_integer
  rw [ev_fn]
  simp [b_is_integer, isB]
theorem p_between (i a b : Int) : m_is_between [.int i, .int a, .int b] = some (.bl (decide (a ≤ i) && decide (i ≤ b)), [some (.int i), some (.int a), some (.int b)]) := by
  unfold m_is_between
  rw [ev_fn]
  by_cases h : a ≤ i <;> simp [b_is_between, p_integer, h]
theorem p_betweenN (a b : Int) : m_is_between [.non, .int a, .int b] = some (.bl false, [some .non, some (.int a), some (.int b)]) := by
  unfold m_is_between
  rw [ev_fn]
  simp [b_is_between, p_integerN]
theorem p_betweenB (c : Bool) (a b : Int) : m_is_between [.bl c, .int a, .int b] = some (.bl false, [some (.bl c), some (.int a), some (.int b)]) := by
  unfold m_is_between
  rw [ev_fn]
  simp [b_is_between, p_integerB]
theorem p_count (i : Int) : m_is_count [.int i] = some (.bl (decide (0 ≤ i)), [some (.int i)]) := by
  unfold m_is_count
  rw [ev_fn]
  simp [b_is_count, p_integer]
theorem p_countB (b : Bool) : m_is_count [.bl b] = some (.bl false, [some (.bl b)]) := by
  unfold m_is_count
  rw [ev_fn]
  simp [b_is_count, p_integerB]
theorem p_position (i n : Int) : m_is_position [.int i, .int n] = some (.bl (decide (0 ≤ i) && decide (i < n)), [some (.int i), some (.int n)]) := by
  unfold m_is_position
  rw [ev_fn]
  by_cases h : 0 ≤ i <;> simp [b_is_position, p_count, h]
theorem p_positionB (b : Bool) (n : Int) : m_is_position [.bl b, .int n] = some (.bl false, [some (.bl b), some (.int n)]) := by
  unfold m_is_position
  rw [ev_fn]
  simp [b_is_position, p_countB]
def fieldB (f : Fd) : Bool := nameB f.nm && (decide (0 ≤ f.g) && decide (f.g ≤ 999)) && (decide (0 ≤ f.h) && decide (f.h ≤ 99))
theorem p_field (f : Fd) (hn : f.nm.length ≤ 1000) : m_is_field [f.d] = some (.bl (fieldB f), [some f.d]) := by
  unfold m_is_field
  rw [ev_fn]
  have k1 := p_name f.nm hn
  by_cases h1 : nameB f.nm = true
  · rw [h1] at k1
    by_cases h2 : (decide (0 ≤ f.g) && decide (f.g ≤ 999)) = true
    · have h2' := h2
      rw [Bool.and_eq_true, decide_eq_true_eq, decide_eq_true_eq] at h2'
      simp [b_is_field, isB, k1, p_between, h1, h2'.1, h2'.2, fieldB]
    · rw [Bool.not_eq_true] at h2
      simp [b_is_field, isB, k1, p_between, h1, h2, fieldB]
  · rw [Bool.not_eq_true] at h1
    rw [h1] at k1
    simp [b_is_field, isB, k1, h1, fieldB]
def priceB : Option Int → Bool
  | none => true
  | some p => decide (0 ≤ p) && decide (p ≤ 1000000)
def strB (s : Sr) (n : Nat) : Bool := decide (s.a < n) && decide (s.b < n) && decide (s.a < s.b) && (decide (0 ≤ s.c) && decide (s.c ≤ 999)) && priceB s.p
theorem p_stretch (s : Sr) (n : Nat) (h1 : s.a < s.b) (h2 : s.b < n) (h3 : 0 ≤ s.c ∧ s.c ≤ 999) (h4 : priceB s.p = true) : m_is_stretch [s.d, .int (n : Nat)] = some (.bl true, [some s.d, some (.int (n : Nat))]) := by
  unfold m_is_stretch
  rw [ev_fn]
  have e1 : ((s.a : Nat) : Int) < (n : Nat) := by omega
  have e2 : ((s.b : Nat) : Int) < (n : Nat) := by omega
  have e3 : ¬ ((s.b : Nat) : Int) ≤ (s.a : Nat) := by omega
  cases hp : s.p with
  | none => simp [b_is_stretch, isB, p_position, p_between, e1, e2, e3, h3.1, h3.2, hp, oI]
  | some p =>
    rw [hp] at h4
    unfold priceB at h4
    rw [Bool.and_eq_true, decide_eq_true_eq, decide_eq_true_eq] at h4
    simp [b_is_stretch, isB, p_position, p_between, e1, e2, e3, h3.1, h3.2, hp, oI, h4.1, h4.2]
end K71

/-! k20: lands by their looks. -/
namespace K71
open PySem PySem.Spec L2 MP

abbrev LW : D := .str (S [108, 97, 110, 100])
def landB (ds es : List D) (bF : D → Bool) (nm : D → Str) (bS : D → Bool) : Bool :=
  (decide (1 ≤ ds.length) && decide (ds.length ≤ 12)) && (ds.all bF && !decide ((ded (ds.map nm)).length < ds.length)) && (decide (es.length ≤ 30) && es.all bS)
theorem fzL_of {ds : List D} (h : ∀ d ∈ ds, d.frozen = true) : frozenL ds = true := by
  rw [frozenL_all, List.all_eq_true]
  exact h
theorem p_land (ds es : List D) (bF : D → Bool) (nm : D → Str) (bS : D → Bool) (h0 : ∀ d ∈ ds, d.frozen = true) (h0' : ∀ d ∈ es, d.frozen = true) (h1 : ∀ d ∈ ds, m_is_field [d] = some (.bl (bF d), [some d]))
    (h2 : (∀ d ∈ ds, bF d = true) → ∀ d ∈ ds, ixD d (.int 1) = some (.str (nm d)))
    (h3 : ∀ d ∈ es, m_is_stretch [d, .int ((ds.length : Nat) + 1 : Int)] = some (.bl (bS d), [some d, some (.int ((ds.length : Nat) + 1 : Int))])) (hd : ds.length ≤ 100) (he : es.length ≤ 1000) :
    m_is_land [.tup false [LW, .tup false ds, .tup false es]] = some (.bl (landB ds es bF nm bS), [some (.tup false [LW, .tup false ds, .tup false es])]) := by
  unfold m_is_land
  rw [ev_fn]
  have f1 := fzL_of h0
  have f2 := fzL_of h0'
  have sl : slD (.tup false [LW, .tup false ds, .tup false es]) (some 1) none = some (.tup false [.tup false ds, .tup false es]) := by
    rw [sl_tup']
    rfl
  generalize hL : D.tup false [LW, .tup false ds, .tup false es] = L at sl ⊢
  have lt : ∀ T, isD T L = some (.bl (isB "tuple" T)) := fun T => by rw [← hL]; rfl
  have ln : lenD [L] = some (.int 3) := by rw [← hL]; rfl
  have l0 : ixD L (.int 0) = some LW := by rw [← hL]; simp
  have lf : L.frozen = true := by rw [← hL]; simp [f1, f2]
  have c2 : cL cg2_is_land ct2_is_land ce2_is_land [3] ds [some L, some (.tup false ds), some (.tup false es), none] = some ((ds.map bF).map D.bl, [some L, some (.tup false ds), some (.tup false es), none]) := by
    rw [List.map_map]
    exact cL_map (fun d => D.bl (bF d)) ds fun d h => by simp [stepC, e_cg2_is_land, ct2_is_land, e_ce2_is_land, h1 d h, h0 d h]
  have c3 : cL cg3_is_land ct3_is_land ce3_is_land [3] es [some L, some (.tup false ds), some (.tup false es), none] = some ((es.map bS).map D.bl, [some L, some (.tup false ds), some (.tup false es), none]) := by
    rw [List.map_map]
    exact cL_map (fun d => D.bl (bS d)) es fun d h => by simp [stepC, e_cg3_is_land, ct3_is_land, e_ce3_is_land, h3 d h, h0' d h]
  have a2 : ((ds.map bF).all id) = ds.all bF := by
    rw [List.all_map]
    rfl
  have a3 : ((es.map bS).all id) = es.all bS := by
    rw [List.all_map]
    rfl
  have k1 : ds.length ≤ 16777216 := by omega
  have k2 : es.length ≤ 16777216 := by omega
  by_cases b1 : 1 ≤ ds.length
  · have b1' : (1 : Int) ≤ (ds.length : Nat) := by omega
    by_cases b2 : ds.length ≤ 12
    · have b2' : ((ds.length : Nat) : Int) ≤ 12 := by omega
      by_cases b3 : ds.all bF = true
      · have c1 : cL cg1_is_land ct1_is_land ce1_is_land [3] ds [some L, some (.tup false ds), some (.tup false es), none] = some ((ds.map nm).map D.str, [some L, some (.tup false ds), some (.tup false es), none]) := by
          rw [List.map_map]
          exact cL_map (fun d => D.str (nm d)) ds fun d h => by simp [stepC, e_cg1_is_land, ct1_is_land, e_ce1_is_land, h2 (List.all_eq_true.mp b3) d h, h0 d h]
        have k3 : ds.length < 4000 := by omega
        by_cases b4 : (ded (ds.map nm)).length < ds.length
        · have b4' : (((ded (ds.map nm)).length : Nat) : Int) < (ds.length : Nat) := by omega
          simp [b_is_land, isB, lt, ln, l0, lf, sl, f1, f2, b1', b2', c2, c1, a2, b3, k1, k3, b4, b4', backF, landB, -List.map_map, -List.all_eq_true]
        · have b4' : ¬ (((ded (ds.map nm)).length : Nat) : Int) < (ds.length : Nat) := by omega
          by_cases b5 : es.length ≤ 30
          · have b5' : ((es.length : Nat) : Int) ≤ 30 := by omega
            simp [b_is_land, isB, lt, ln, l0, lf, sl, f1, f2, b1, b2, b1', b2', c2, c1, c3, a2, a3, b3, k1, k2, k3, b4, b4', b5, b5', backF, landB, -List.map_map, -List.all_eq_true]
          · have b5' : ¬ ((es.length : Nat) : Int) ≤ 30 := by omega
            simp [b_is_land, isB, lt, ln, l0, lf, sl, f1, f2, b1', b2', c2, c1, a2, b3, k1, k3, b4, b4', b5, b5', backF, landB, -List.map_map, -List.all_eq_true]
      · rw [Bool.not_eq_true] at b3
        simp [b_is_land, isB, lt, ln, l0, lf, sl, f1, f2, b1', b2', c2, a2, b3, k1, backF, landB, -List.map_map, -List.all_eq_true, -List.all_eq_false]
    · have b2' : ¬ ((ds.length : Nat) : Int) ≤ 12 := by omega
      simp [b_is_land, isB, lt, ln, l0, lf, sl, f1, f2, b1', b2, b2', landB]
  · have b1' : ¬ (1 : Int) ≤ (ds.length : Nat) := by omega
    simp [b_is_land, isB, lt, ln, l0, lf, sl, f1, f2, b1, b1', landB]
end K71

/-! k20: right lands; the program's functions on them. -/
namespace K71
open PySem PySem.Spec L2 MP

structure NmOk (i : Nat) (n : List Nat) : Prop where
  lo : 1 ≤ n.length
  hi : n.length ≤ 8
  low : ∀ c ∈ n, 97 ≤ c ∧ c ≤ 122
  last : n.getLast? = some (97 + i)
  open_ : n ∉ closed
theorem NmOk.b {i : Nat} {n : List Nat} (h : NmOk i n) : nameB n = true := by
  unfold nameB
  have h1 := h.lo
  have h2 := h.hi
  have h3 := h.open_
  simp only [h1, h2, h3, decide_true, decide_false, Bool.not_false, Bool.true_and, List.all_eq_true, decide_eq_true_eq]
  exact fun c hc => (lets_iff c).mpr (h.low c hc)
structure LOk (l : Ld) : Prop extends LS l where
  f1 : 1 ≤ l.fs.length
  nm : ∀ i f, l.fs[i]? = some f → NmOk i f.nm ∧ (0 ≤ f.g ∧ f.g ≤ 999) ∧ (0 ≤ f.h ∧ f.h ≤ 99)
  st : ∀ s ∈ l.ss, (0 ≤ s.c ∧ s.c ≤ 999) ∧ priceB s.p = true
theorem LOk.fld {l : Ld} (h : LOk l) {f : Fd} (hf : f ∈ l.fs) : fieldB f = true ∧ f.nm.length ≤ 1000 := by
  obtain ⟨i, hi⟩ := List.mem_iff_getElem?.mp hf
  obtain ⟨h1, h2, h3⟩ := h.nm i f hi
  have := h1.hi
  refine ⟨?_, by omega⟩
  unfold fieldB
  rw [h1.b]
  simp [h2.1, h2.2, h3.1, h3.2]
theorem ded_nodup : ∀ (xs σ : List Str), (σ ++ xs).Nodup → xs.foldl dedStep σ = σ ++ xs
  | [], σ, _ => by simp
  | x :: xs, σ, h => by
    have hx : σ.any (· == x) = false := by
      rw [List.any_eq_false]
      intro y hy e
      rw [beq_iff_eq] at e
      subst e
      exact (List.nodup_append.mp h).2.2 y hy y (.head _) rfl
    have e : dedStep σ x = σ ++ [x] := by
      unfold dedStep
      rw [hx]
      rfl
    rw [List.foldl_cons, e, ded_nodup xs (σ ++ [x]) (by simpa using h)]
    simp
def nmD : D → Str
  | .tup _ [_, .str s, _, _] => s
  | _ => default
theorem nmD_fd (f : Fd) : nmD f.d = S f.nm := rfl
theorem names_nodup {l : Ld} (h : LOk l) : (l.fs.map fun f => S f.nm).Nodup := by
  unfold List.Nodup
  rw [List.pairwise_iff_getElem]
  intro i j hi hj hij e
  rw [List.getElem_map, List.getElem_map, S_inj] at e
  have a := (h.nm i _ (List.getElem?_eq_getElem (by simpa using hi))).1.last
  have b := (h.nm j _ (List.getElem?_eq_getElem (by simpa using hj))).1.last
  rw [e, b] at a
  have := Option.some.inj a
  omega
theorem l_land {l : Ld} (h : LOk l) : m_is_land [l.d] = some (.bl true, [some l.d]) := by
  have q := p_land (l.fs.map Fd.d) (l.ss.map Sr.d) (fun _ => true) nmD (fun _ => true) ?_ ?_ ?_ ?_ ?_ ?_ ?_
  · have e : landB (l.fs.map Fd.d) (l.ss.map Sr.d) (fun _ => true) nmD (fun _ => true) = true := by
      unfold landB
      have e1 : (l.fs.map Fd.d).map nmD = l.fs.map fun f => S f.nm := by
        rw [List.map_map]
        rfl
      have e2 : ded (l.fs.map fun f => S f.nm) = l.fs.map fun f => S f.nm := by
        have := ded_nodup (l.fs.map fun f => S f.nm) [] (by simpa using names_nodup h)
        simpa [ded] using this
      have h1 := h.f1
      have h2 := h.f2
      have h3 := h.s1
      have a1 : ∀ xs : List D, xs.all (fun _ => true) = true := fun xs => by simp
      rw [e1, e2, a1, a1]
      simp [h1, h2, h3]
    rw [e] at q
    exact q
  · intro d hd
    obtain ⟨f, _, rfl⟩ := List.mem_map.mp hd
    exact fz_Fd f
  · intro d hd
    obtain ⟨f, _, rfl⟩ := List.mem_map.mp hd
    exact fz_Sr f
  · intro d hd
    obtain ⟨f, hf, rfl⟩ := List.mem_map.mp hd
    have q := p_field f (h.fld hf).2
    rw [(h.fld hf).1] at q
    exact q
  · intro _ d hd
    obtain ⟨f, _, rfl⟩ := List.mem_map.mp hd
    exact fd_1 f
  · intro d hd
    obtain ⟨s, hs, rfl⟩ := List.mem_map.mp hd
    have a := h.at_ s hs
    have b := h.st s hs
    rw [List.length_map]
    exact p_stretch s (l.fs.length + 1) a.1 (by omega) b.1 b.2
  · have := h.f2
    simp
    omega
  · have := h.s1
    simp
    omega
theorem l_check {l : Ld} (h : LOk l) : m_check_land [l.d] = some (.non, [some l.d]) := by
  unfold m_check_land
  rw [ev_fn]
  simp [b_check_land, l_land h]
theorem p_many (l : Ld) : m_many_places [l.d] = some (.int ((l.fs.length : Nat) + 1 : Int), [some l.d]) := by
  unfold m_many_places
  rw [ev_fn]
  simp [b_many_places]
end K71

/-! k20: the same part by part; two right lands. -/
namespace K71
open PySem PySem.Spec L2 MP

@[simp] theorem isn_bl (b : Bool) : isNon (.bl b) .non = some (.bl false) := rfl
/-- plain frozen data of a depth -/
inductive Sm : Nat → D → Prop where
  | non {n : Nat} : Sm n .non
  | bl {n : Nat} (b : Bool) : Sm n (.bl b)
  | int {n : Nat} (i : Int) : Sm n (.int i)
  | str {n : Nat} (s : Str) : Sm n (.str s)
  | tup {n : Nat} {ds : List D} : (∀ d ∈ ds, Sm n d) → ds.length ≤ 16777216 → Sm (n + 1) (.tup false ds)
  | lst {n : Nat} {ds : List D} : (∀ d ∈ ds, Sm n d) → ds.length ≤ 16777216 → Sm (n + 1) (.lst false ds)
theorem Sm.fz {n : Nat} : ∀ {d : D}, Sm n d → d.frozen = true := fun {d} h => by
  induction h with
  | non => rfl
  | bl _ => rfl
  | int _ => rfl
  | str _ => rfl
  | tup h _ ih =>
    rw [fz_tup, frozenL_all]
    simp only [Bool.not_false, Bool.true_and, List.all_eq_true]
    exact ih
  | lst h _ ih =>
    rw [fz_lst, frozenL_all]
    simp only [Bool.not_false, Bool.true_and, List.all_eq_true]
    exact ih
theorem zip_self (ds : List D) : zipD ds ds = ds.map fun d => .tup false [d, d] := by
  induction ds with
  | nil => rfl
  | cons d ds ih => rw [zipD, ih, List.map_cons]
theorem all_true {α : Type} (xs : List α) : (xs.map fun _ => true).all id = true := by
  rw [List.all_map, List.all_eq_true]
  exact fun _ _ => rfl
theorem same_ok : ∀ (n : Nat) (d : D), Sm n d → mr__law_same (n + 1) [d, d] = some (.bl true, [some d, some d]) := fun n => by
  induction n with
  | zero =>
    intro d h
    rw [mr__law_same, ev_fn]
    cases h with
    | non => simp [b__law_same, isB]
    | bl b => simp [b__law_same, isB]
    | int i => simp [b__law_same, isB]
    | str s => simp [b__law_same, isB]
  | succ n ih =>
    intro d h
    rw [mr__law_same, ev_fn]
    cases h with
    | non => simp [b__law_same, isB]
    | bl b => simp [b__law_same, isB]
    | int i => simp [b__law_same, isB]
    | str s => simp [b__law_same, isB]
    | @tup _ ds h hl =>
      have fz : frozenL ds = true := fzL_of fun d hd => (h d hd).fz
      have hc : cL (cg1__law_same (mr__law_same (n + 1))) (ct1__law_same (mr__law_same (n + 1))) (ce1__law_same (mr__law_same (n + 1))) [2, 3] (zipD ds ds) [some (.tup false ds), some (.tup false ds), none, none] = some ((ds.map fun _ => true).map D.bl, [some (.tup false ds), some (.tup false ds), none, none]) := by
        rw [zip_self, List.map_map]
        exact cL_of (fun d => D.tup false [d, d]) (fun _ => D.bl true) ds fun d hd => by
          have q := ih d (h d hd)
          have f := (h d hd).fz
          simp [stepC, e_cg1__law_same, ct1__law_same, e_ce1__law_same, q, f]
      simp [b__law_same, isB, fz, hc, hl, all_true, backF, -List.map_map]
    | @lst _ ds h hl =>
      have fz : frozenL ds = true := fzL_of fun d hd => (h d hd).fz
      have hc : cL (cg2__law_same (mr__law_same (n + 1))) (ct2__law_same (mr__law_same (n + 1))) (ce2__law_same (mr__law_same (n + 1))) [2, 3] (zipD ds ds) [some (.lst false ds), some (.lst false ds), none, none] = some ((ds.map fun _ => true).map D.bl, [some (.lst false ds), some (.lst false ds), none, none]) := by
        rw [zip_self, List.map_map]
        exact cL_of (fun d => D.tup false [d, d]) (fun _ => D.bl true) ds fun d hd => by
          have q := ih d (h d hd)
          have f := (h d hd).fz
          simp [stepC, e_cg2__law_same, ct2__law_same, e_ce2__law_same, q, f]
      simp [b__law_same, isB, fz, hc, hl, all_true, backF, -List.map_map]
theorem Sm.mono {n m : Nat} {d : D} (h : Sm n d) : n ≤ m → Sm m d := by
  induction h generalizing m with
  | non => exact fun _ => .non
  | bl b => exact fun _ => .bl b
  | int i => exact fun _ => .int i
  | str s => exact fun _ => .str s
  | tup h hl ih =>
    intro e
    obtain ⟨k, rfl⟩ : ∃ k, m = k + 1 := ⟨m - 1, by omega⟩
    exact .tup (fun d hd => ih d hd (by omega)) hl
  | lst h hl ih =>
    intro e
    obtain ⟨k, rfl⟩ : ∃ k, m = k + 1 := ⟨m - 1, by omega⟩
    exact .lst (fun d hd => ih d hd (by omega)) hl
theorem same7 {d : D} (h : Sm 7 d) : m__law_same [d, d] = some (.bl true, [some d, some d]) := same_ok 7 d h
theorem sm_oI {n : Nat} (p : Option Int) : Sm n (oI p) := by
  cases p
  · exact .non
  · exact .int _
theorem sm_fd (f : Fd) : Sm 1 f.d := .tup (fun d hd => by
  simp only [List.mem_cons, List.not_mem_nil, or_false] at hd
  rcases hd with rfl | rfl | rfl | rfl
  · exact .str _
  · exact .str _
  · exact .int _
  · exact .int _) (by simp)
theorem sm_sr (f : Sr) : Sm 1 f.d := .tup (fun d hd => by
  simp only [List.mem_cons, List.not_mem_nil, or_false] at hd
  rcases hd with rfl | rfl | rfl | rfl | rfl
  · exact .str _
  · exact .int _
  · exact .int _
  · exact .int _
  · exact sm_oI _) (by simp)
theorem sm_ld {l : Ld} (h : LS l) : Sm 3 l.d := .tup (fun d hd => by
  simp only [List.mem_cons, List.not_mem_nil, or_false] at hd
  rcases hd with rfl | rfl | rfl
  · exact .str _
  · refine .tup (fun d hd => ?_) (by have := h.f2; simp; omega)
    obtain ⟨f, _, rfl⟩ := List.mem_map.mp hd
    exact sm_fd f
  · refine .tup (fun d hd => ?_) (by have := h.s1; simp; omega)
    obtain ⟨f, _, rfl⟩ := List.mem_map.mp hd
    exact sm_sr f) (by simp)
theorem Sm.ls {n : Nat} {ds : List D} (h : ∀ d ∈ ds, Sm n d) (hl : ds.length ≤ 16777216) : frzL ds = ds := frzL_of_frozen ds (fzL_of fun d hd => (h d hd).fz)
theorem gr_ok {l : Ld} (h : LOk l) (p : Nat) : 0 ≤ gr l.fs p ∧ gr l.fs p ≤ 999 := by
  cases p with
  | zero =>
    show (0 : Int) ≤ 0 ∧ (0 : Int) ≤ 999
    omega
  | succ n =>
    cases e : l.fs[n]? with
    | none =>
      have : gr l.fs (n + 1) = 0 := by simp [gr, e]
      omega
    | some f =>
      have : gr l.fs (n + 1) = f.g := by simp [gr, e]
      rw [this]
      exact (h.nm n f e).2.1
theorem mx_ok {z x y : Int} (h1 : 0 ≤ z ∧ z ≤ 999) (h2 : 0 ≤ x ∧ x ≤ 999) (h3 : 0 ≤ y ∧ y ≤ 999) : 0 ≤ mx3 z x y ∧ mx3 z x y ≤ 999 := by
  unfold mx3
  by_cases e1 : z < x
  · by_cases e2 : x < y
    · rw [if_pos e1, if_pos e2]; exact h3
    · rw [if_pos e1, if_neg e2]; exact h2
  · by_cases e2 : z < y
    · rw [if_neg e1, if_pos e2]; exact h3
    · rw [if_neg e1, if_neg e2]; exact h1
@[simp] theorem frz_Ld' (l : Ld) : l.d.frz = l.d := frz_of_frozen _ (fz_Ld l)
end K71

/-! k20: the draws. -/
namespace K71
open PySem PySem.Spec L2 MP
/-- what a pot may hold -/
def Pt (x y : Int) : Prop := 0 ≤ x ∧ 0 ≤ y ∧ y < 4294967296
def dB (y : Int) : Int := (y * 40692 + 3631) % 2147483563
def dV (x y m : Int) : Int := if 0 < x then x % m else (dB y * dB y) % 2147483549 / 43 % m
def dX (x y m : Int) : Int := if 0 < x then x / m else x
def dY (x y m : Int) : Int := if 0 < x then y else dB y
theorem dB_ok (y : Int) : 0 ≤ dB y ∧ dB y < 2147483563 := ⟨Int.emod_nonneg _ (by decide), Int.emod_lt_of_pos _ (by decide)⟩
theorem pt_next {x y m : Int} (h : Pt x y) (hm : 0 < m) : Pt (dX x y m) (dY x y m) := by
  obtain ⟨h1, h2, h3⟩ := h
  have hb := dB_ok y
  unfold dX dY
  split
  · exact ⟨Int.ediv_nonneg h1 (Int.le_of_lt hm), h2, h3⟩
  · exact ⟨h1, hb.1, by omega⟩
theorem dV_ok (x y m : Int) (hm : 0 < m) : 0 ≤ dV x y m ∧ dV x y m < m := by
  unfold dV
  split
  · exact ⟨Int.emod_nonneg _ (by omega), Int.emod_lt_of_pos _ hm⟩
  · exact ⟨Int.emod_nonneg _ (by omega), Int.emod_lt_of_pos _ hm⟩
theorem q_draw (x y m : Int) (h : Pt x y) (hm : 0 < m) (hm2 : m < 1073741824) : m__law_draw [.lst true [.int x, .int y], .int m] = some (.int (dV x y m), [some (.lst true [.int (dX x y m), .int (dY x y m)]), some (.int m)]) := by
  obtain ⟨h1, h2, h3⟩ := h
  have hb := dB_ok y
  unfold m__law_draw
  rw [ev_fn]
  by_cases hx : 0 < x
  · simp [b__law_draw, hx, hm, hm2, dV, dX, dY]
  · have e1 : in64 y = true := by
      unfold in64
      rw [decide_eq_true_eq]
      omega
    have e2 : in64 ((y * 40692 + 3631) % 2147483563) = true := by
      have := dB_ok y
      unfold dB at this
      unfold in64
      rw [decide_eq_true_eq]
      omega
    simp [b__law_draw, hx, hm, hm2, dV, dX, dY, e1, e2, dB]
theorem e3 : powOk 10 18 = true := by
  unfold powOk
  rw [decide_eq_true_eq]
  omega
theorem pot_fin (c : Int) (k : Nat) (hk : k < 2) : Pt (if c - 1000000000000000000 > 0 then c - 1000000000000000000 else 0) ((c % 2147483549 * 40014 + 3631 * k + 2969) % 2147483563 + 1) := by
  have h1 := Int.emod_nonneg (c % 2147483549 * 40014 + 3631 * k + 2969) (show (2147483563 : Int) ≠ 0 by omega)
  have h2 := Int.emod_lt_of_pos (c % 2147483549 * 40014 + 3631 * k + 2969) (show (0 : Int) < 2147483563 by omega)
  refine ⟨?_, by omega, by omega⟩
  split <;> omega
theorem e1 (c : Int) : in64 (c % 2147483549) = true := by
  have h1 := Int.emod_nonneg c (show (2147483549 : Int) ≠ 0 by omega)
  have h2 := Int.emod_lt_of_pos c (show (0 : Int) < 2147483549 by omega)
  unfold in64
  rw [decide_eq_true_eq]
  omega
theorem q_pot (ns : List Int) (k : Nat) (hk : k < 2) : ∃ x y, Pt x y ∧ m__law_pot [.scr ns, .int k] = some (.lst true [.int x, .int y], [some (.scr ns), some (.int k)]) := by
  have e2 : in64 3631 = true := by decide
  have e4 : in64 2267 = true := by decide
  by_cases h : k < ns.length
  · have hd := List.getElem?_eq_getElem h
    have h' : (k : Int) < ns.length := by omega
    obtain ⟨c, hc⟩ : ∃ c, absD [.int ns[k]] = some (.int c) := ⟨_, rfl⟩
    refine ⟨_, _, pot_fin c k hk, ?_⟩
    unfold m__law_pot
    rw [ev_fn]
    simp [b__law_pot, h', atI_nat', hd, e1, e2, e3, -abs_int', hc]
  · have h' : ¬ (k : Int) < ns.length := by omega
    obtain ⟨c, hc⟩ : ∃ c : Int, c = 2267 * (k : Int) + 1979 := ⟨_, rfl⟩
    have ha : ∀ E : En, E[1]? = some (some (.int k)) → op2 addD (oV (op2 mulDT (oV (xC (.int 2267))) (oN 1))) (oV (xC (.int 1979))) E = some (.int c, E) := fun E hE => by
      simp [hE, e4, hc]
    refine ⟨_, _, pot_fin c k hk, ?_⟩
    unfold m__law_pot
    rw [ev_fn]
    have hb : (ifX (toB (op2 ltD (oN 1) (oV (opN lenD (hCons (oN 0) hNil))))) (opN absD (hCons (oV (op2 ixD (oN 0) (oN 1))) hNil)) (op2 addD (oV (op2 mulDT (oV (xC (.int (2267)))) (oN 1))) (oV (xC (.int (1979)))))) [some (.scr ns), some (.int k), none] = some (.int c, [some (.scr ns), some (.int k), none]) := by
      rw [ev_ifX]
      have : (toB (op2 ltD (oN 1) (oV (opN lenD (hCons (oN 0) hNil))))) [some (.scr ns), some (.int k), none] = some (false, [some (.scr ns), some (.int k), none]) := by simp [h']
      rw [this]
      exact ha [some (.scr ns), some (.int k), none] rfl
    simp [b__law_pot, -ev_ifX, hb, e1, e2, e3]
end K71

/-! k20: drawn lands. -/
namespace K71
open PySem PySem.Spec L2 MP

def Pot (p : D) : Prop := ∃ x y, Pt x y ∧ p = .lst true [.int x, .int y]
theorem Pot.fz {p : D} (h : Pot p) : p.frozen = false := by
  obtain ⟨x, y, _, rfl⟩ := h
  rfl
theorem draw {p : D} (h : Pot p) (m : Int) (h0 : 0 < m) (h1 : m < 1073741824) : ∃ (v : Nat) (p' : D), (v : Int) < m ∧ Pot p' ∧ m__law_draw [p, .int m] = some (.int (v : Nat), [some p', some (.int m)]) := by
  obtain ⟨x, y, hp, rfl⟩ := h
  have q := q_draw x y m hp h0 h1
  have hv := dV_ok x y m h0
  refine ⟨(dV x y m).toNat, _, by omega, ⟨_, _, pt_next hp h0, rfl⟩, ?_⟩
  rw [q, Int.toNat_of_nonneg hv.1]
theorem kc0_get (i : Nat) (h : i < 12) : kc0[i]? = some (97 + i) := by
  have : ∀ i, i < 12 → kc0[i]? = some (97 + i) := by decide
  exact this i h
theorem rng_cons (a : Int) (n : Nat) : rngD a (n + 1) = .int a :: rngD (a + 1) n := by
  unfold rngD
  rw [List.range_succ_eq_map, List.map_cons, List.map_map]
  congr 1
  · simp
  · apply List.map_congr_left
    intro i _
    show D.int (a + ((i + 1 : Nat) : Int)) = D.int (a + 1 + (i : Nat))
    congr 1
    omega
/-- a field that is drawn -/
structure FOk (i : Nat) (f : Fd) : Prop where
  nm : NmOk i f.nm
  g : 0 ≤ f.g ∧ f.g ≤ 999
  h : 0 ≤ f.h ∧ f.h ≤ 99
theorem one_nm (i : Nat) (h : i < 12) : NmOk i [97 + i] where
  lo := by simp
  hi := by simp
  low := fun c hc => by
    rw [List.mem_singleton] at hc
    omega
  last := rfl
  open_ := by simp [closed]
def FsOk (fs : List Fd) : Prop := ∀ (j : Nat) (f : Fd), fs[j]? = some f → FOk j f
theorem FsOk.snoc {fs : List Fd} {f : Fd} (h : FsOk fs) (hf : FOk fs.length f) : FsOk (fs ++ [f]) := fun j g e => by
  rw [List.getElem?_append] at e
  split at e
  · exact h j g e
  · rename_i hj
    have : j - fs.length = 0 := by
      by_cases q : j - fs.length = 0
      · exact q
      · rw [List.getElem?_eq_none (by simp; omega)] at e
        cases e
    rw [this] at e
    cases e
    have : j = fs.length := by omega
    rw [this]
    exact hf
theorem land_loop1 (a b c : Int) (n : Nat) (hn : n ≤ 12) : ∀ (k : Nat) (p : D) (fs : List Fd), Pot p → FsOk fs → fs.length + k = n →
    ∃ p' fs', Pot p' ∧ FsOk fs' ∧ fs'.length = n ∧ sForL wg1__law_land wb1__law_land [7, 8] (rngD (fs.length : Nat) k) [some p, some (.int a), some (.int b), some (.int c), some (.int (n : Nat)), some (.lst true (fs.map Fd.d)), some (.lst true []), none, none, none, none, none]
      = some (.nx, [some p', some (.int a), some (.int b), some (.int c), some (.int (n : Nat)), some (.lst true (fs'.map Fd.d)), some (.lst true []), none, none, none, none, none])
  | 0, p, fs, hp, hf, e => ⟨p, fs, hp, hf, e, rfl⟩
  | k + 1, p, fs, hp, hf, e => by
    have hi : fs.length < 12 := by omega
    have kg := kc0_get fs.length hi
    have kl : kc0.length = 12 := rfl
    have kb : fs.length ≤ 16777215 := by omega
    have f0 := hp.fz
    -- how a turn ends
    have fin : ∀ (p' : D) (g h : Nat), Pot p' → (g : Int) < 4 → (h : Int) < 10 → ∃ p'' fs', Pot p'' ∧ FsOk fs' ∧ fs'.length = n ∧
        sForL wg1__law_land wb1__law_land [7, 8] (rngD ((fs.length : Nat) + 1) k) [some p', some (.int a), some (.int b), some (.int c), some (.int (n : Nat)), some (.lst true (fs.map Fd.d ++ [.tup false [.str (S [102, 105, 101, 108, 100]), .str (S [97 + fs.length]), .int (g : Nat), .int (h : Nat)]])), some (.lst true []), none, none, none, none, none]
        = some (.nx, [some p'', some (.int a), some (.int b), some (.int c), some (.int (n : Nat)), some (.lst true (fs'.map Fd.d)), some (.lst true []), none, none, none, none, none]) := fun p' g h hp' hg hh => by
      have fo : FOk fs.length ⟨[97 + fs.length], (g : Nat), (h : Nat)⟩ := ⟨one_nm _ hi, ⟨by simp only []; omega, by simp only []; omega⟩, ⟨by simp only []; omega, by simp only []; omega⟩⟩
      have ih := land_loop1 a b c n hn k p' (fs ++ [⟨[97 + fs.length], (g : Nat), (h : Nat)⟩]) hp' (hf.snoc fo) (by simp; omega)
      rw [List.map_append, List.length_append] at ih
      exact ih
    rw [rng_cons, ev_for1]
    by_cases c1 : ((fs.length : Nat) : Int) = (n : Nat) - 1
    · obtain ⟨v1, p1, h1, hp1, d1⟩ := draw hp 9 (by decide) (by decide)
      obtain ⟨v2, p2, h2, hp2, d2⟩ := draw hp1 4 (by decide) (by decide)
      obtain ⟨p3, fs', r1, r2, r3, r4⟩ := fin p2 v2 (v1 + 1) hp2 h2 (by omega)
      refine ⟨p3, fs', r1, r2, r3, ?_⟩
      have f1 := hp1.fz
      have f2 := hp2.fz
      have e1 : (1 : Int) + (v1 : Nat) = ((v1 + 1 : Nat) : Int) := by omega
      have c1' : (((fs.length : Nat) : Int) == (n : Nat) - 1) = true := beq_iff_eq.mpr c1
      rw [← r4]
      simp [e_wg1__law_land, e_wb1__law_land, c1', d1, d2, f0, f1, f2, e1, atI_nat', kg, kl, kb]
    · have c1' : (((fs.length : Nat) : Int) == (n : Nat) - 1) = false := beq_eq_false_iff_ne.mpr c1
      obtain ⟨v0, p0, h0, hp0, d0⟩ := draw hp 4 (by decide) (by decide)
      have g0 := hp0.fz
      by_cases c2 : v0 = 0
      · subst c2
        obtain ⟨v1, p1, h1, hp1, d1⟩ := draw hp0 9 (by decide) (by decide)
        obtain ⟨v2, p2, h2, hp2, d2⟩ := draw hp1 4 (by decide) (by decide)
        obtain ⟨p3, fs', r1, r2, r3, r4⟩ := fin p2 v2 (v1 + 1) hp2 h2 (by omega)
        refine ⟨p3, fs', r1, r2, r3, ?_⟩
        have f1 := hp1.fz
        have f2 := hp2.fz
        have e1 : (1 : Int) + (v1 : Nat) = ((v1 + 1 : Nat) : Int) := by omega
        rw [← r4]
        simp [e_wg1__law_land, e_wb1__law_land, c1', d0, d1, d2, f0, g0, f1, f2, e1, atI_nat', kg, kl, kb]
      · have c2' : (((v0 : Nat) : Int) == 0) = false := beq_eq_false_iff_ne.mpr (by omega)
        obtain ⟨v2, p2, h2, hp2, d2⟩ := draw hp0 4 (by decide) (by decide)
        obtain ⟨p3, fs', r1, r2, r3, r4⟩ := fin p2 v2 0 hp2 h2 (by omega)
        refine ⟨p3, fs', r1, r2, r3, ?_⟩
        have f2 := hp2.fz
        rw [← r4]
        simp [e_wg1__law_land, e_wb1__law_land, c1', c2', d0, d2, f0, g0, f2, atI_nat', kg, kl, kb]

/-- stretches of so many fields -/
def SsOk (n : Nat) (ss : List Sr) : Prop := ∀ s ∈ ss, (s.a < s.b ∧ s.b ≤ n) ∧ (0 ≤ s.c ∧ s.c ≤ 999) ∧ priceB s.p = true
theorem SsOk.snoc {n : Nat} {ss : List Sr} {s : Sr} (h : SsOk n ss) (hs : (s.a < s.b ∧ s.b ≤ n) ∧ (0 ≤ s.c ∧ s.c ≤ 999) ∧ priceB s.p = true) : SsOk n (ss ++ [s]) := fun t ht => by
  rcases List.mem_append.mp ht with ht | ht
  · exact h t ht
  · rw [List.mem_singleton.mp ht]
    exact hs
def tl2 : MP.Sm := (sIf (toB (op2 neE (oN 9) (oN 10))) (sSeq (sAsg (ifX (toB (op2 eqE (oV (xCall m__law_draw (hCons (oN 0) (hCons (oV (xC (.int (7)))) hNil)))) (oV (xC (.int (0)))))) (xC .non) (xCall m__law_draw (hCons (oN 0) (hCons (oV (op2 addD (oN 3) (oV (xC (.int (1)))))) hNil)))) (gSet 11))
  (sDrop (xAppend 6 (xCons (dTup (xCons (xC (.str (S [115, 116, 114, 101, 116, 99, 104]))) (xCons (opN minD (hCons (oN 9) (hCons (oN 10) hNil))) (xCons (opN maxD (hCons (oN 9) (hCons (oN 10) hNil))) (xCons (xCall m__law_draw (hCons (oN 0) (hCons (oV (xC (.int (8)))) hNil))) (xCons (xTk 11) xNil)))))) xNil)))) sSkip)
def hd2 : MP.Sm := (sIf (andT (toB (op2 ltD (oN 7) (oN 4))) (toB (op2 gtD (oV (xCall m__law_draw (hCons (oN 0) (hCons (oV (xC (.int (3)))) hNil)))) (oV (xC (.int (0))))))) (sPar 9 10 (xCons (xCall m__law_draw (hCons (oN 0) (hCons (oV (op2 addD (oN 7) (oV (xC (.int (1)))))) hNil))) (xCons (op2 addD (oN 7) (oV (xC (.int (1))))) xNil))) sSkip)
theorem e_wb2' (E : En) : wb2__law_land E = (sSeq (sPar 9 10 (xCons (xCall m__law_draw (hCons (oN 0) (hCons (oV (op2 addD (oN 4) (oV (xC (.int (1)))))) hNil))) (xCons (xCall m__law_draw (hCons (oN 0) (hCons (oV (op2 addD (oN 4) (oV (xC (.int (1)))))) hNil))) xNil))) (sSeq hd2 tl2)) E := nr rfl
theorem land_loop2 (a b : Int) (n : Nat) (hn : n ≤ 12) (m : Nat) (hm : m ≤ 30) (F : D) (hF : ∃ fs, F = .lst true fs) : ∀ (k : Nat) (p : D) (ss : List Sr) (i : Nat), Pot p → SsOk n ss → i + k = m → ss.length ≤ i →
    ∃ p' ss', Pot p' ∧ SsOk n ss' ∧ ss'.length ≤ m ∧ sForL wg2__law_land wb2__law_land [7, 9, 10, 11] (rngD (i : Nat) k) [some p, some (.int a), some (.int b), some (.int 9), some (.int (n : Nat)), some F, some (.lst true (ss.map Sr.d)), none, none, none, none, none]
      = some (.nx, [some p', some (.int a), some (.int b), some (.int 9), some (.int (n : Nat)), some F, some (.lst true (ss'.map Sr.d)), none, none, none, none, none])
  | 0, p, ss, i, hp, hs, e, hl => ⟨p, ss, hp, hs, by omega, rfl⟩
  | k + 1, p, ss, i, hp, hs, e, hl => by
    obtain ⟨fs0, rfl⟩ := hF
    have f0 := hp.fz
    have kb : ss.length ≤ 16777215 := by omega
    rw [rng_cons, ev_for1]
    -- a turn without a new one
    have skip : ∀ p', Pot p' → ∃ p'' ss', Pot p'' ∧ SsOk n ss' ∧ ss'.length ≤ m ∧ sForL wg2__law_land wb2__law_land [7, 9, 10, 11] (rngD ((i : Nat) + 1) k) [some p', some (.int a), some (.int b), some (.int 9), some (.int (n : Nat)), some (.lst true fs0), some (.lst true (ss.map Sr.d)), none, none, none, none, none]
      = some (.nx, [some p'', some (.int a), some (.int b), some (.int 9), some (.int (n : Nat)), some (.lst true fs0), some (.lst true (ss'.map Sr.d)), none, none, none, none, none]) := fun p' hp' =>
      land_loop2 a b n hn m hm (.lst true fs0) ⟨_, rfl⟩ k p' ss (i + 1) hp' hs (by omega) (by omega)
    have more : ∀ p' (s : Sr), Pot p' → ((s.a < s.b ∧ s.b ≤ n) ∧ (0 ≤ s.c ∧ s.c ≤ 999) ∧ priceB s.p = true) → ∃ p'' ss', Pot p'' ∧ SsOk n ss' ∧ ss'.length ≤ m ∧ sForL wg2__law_land wb2__law_land [7, 9, 10, 11] (rngD ((i : Nat) + 1) k) [some p', some (.int a), some (.int b), some (.int 9), some (.int (n : Nat)), some (.lst true fs0), some (.lst true (ss.map Sr.d ++ [s.d])), none, none, none, none, none]
      = some (.nx, [some p'', some (.int a), some (.int b), some (.int 9), some (.int (n : Nat)), some (.lst true fs0), some (.lst true (ss'.map Sr.d)), none, none, none, none, none]) := fun p' s hp' ho => by
      have ih := land_loop2 a b n hn m hm (.lst true fs0) ⟨_, rfl⟩ k p' (ss ++ [s]) (i + 1) hp' (hs.snoc ho) (by omega) (by simp; omega)
      rw [List.map_append] at ih
      exact ih
    have tail : ∀ (p' : D) (u w : Nat), Pot p' → u ≤ n → w ≤ n → ∃ p'' ss', Pot p'' ∧ SsOk n ss' ∧ ss'.length ≤ m ∧ loopK (tl2 [some p', some (.int a), some (.int b), some (.int 9), some (.int (n : Nat)), some (.lst true fs0), some (.lst true (ss.map Sr.d)), some (.int (i : Nat)), none, some (.int (u : Nat)), some (.int (w : Nat)), none]) [7, 9, 10, 11] (sForL wg2__law_land wb2__law_land [7, 9, 10, 11] (rngD ((i : Nat) + 1) k))
      = some (.nx, [some p'', some (.int a), some (.int b), some (.int 9), some (.int (n : Nat)), some (.lst true fs0), some (.lst true (ss'.map Sr.d)), none, none, none, none, none]) := fun p' u w hp' hu hw => by
      have g0 := hp'.fz
      by_cases c1 : u = w
      · obtain ⟨p'', ss', r1, r2, r3, r4⟩ := skip p' hp'
        refine ⟨p'', ss', r1, r2, r3, ?_⟩
        have c1' : (((u : Nat) : Int) == (w : Nat)) = true := beq_iff_eq.mpr (by omega)
        rw [← r4]
        simp [tl2, c1']
      · have c1' : (((u : Nat) : Int) == (w : Nat)) = false := beq_eq_false_iff_ne.mpr (by omega)
        obtain ⟨v0, p0, h0, hp0, d0⟩ := draw hp' 7 (by decide) (by decide)
        have g1 := hp0.fz
        by_cases c2 : v0 = 0
        · subst c2
          obtain ⟨v2, p2, h2, hp2, d2⟩ := draw hp0 8 (by decide) (by decide)
          have g2 := hp2.fz
          by_cases lt : w < u
          · have lt2 : ¬ u < w := by omega
            obtain ⟨p'', ss', r1, r2, r3, r4⟩ := more p2 ⟨w, u, (v2 : Nat), none⟩ hp2 ⟨⟨lt, hu⟩, ⟨by simp only []; omega, by simp only []; omega⟩, rfl⟩
            refine ⟨p'', ss', r1, r2, r3, ?_⟩
            rw [← r4]
            simp [tl2, c1', d0, d2, g0, g1, g2, lt, lt2, kb, Sr.d, oI]
          · have lt2 : u < w := by omega
            obtain ⟨p'', ss', r1, r2, r3, r4⟩ := more p2 ⟨u, w, (v2 : Nat), none⟩ hp2 ⟨⟨lt2, hw⟩, ⟨by simp only []; omega, by simp only []; omega⟩, rfl⟩
            refine ⟨p'', ss', r1, r2, r3, ?_⟩
            rw [← r4]
            simp [tl2, c1', d0, d2, g0, g1, g2, lt, lt2, kb, Sr.d, oI]
        · have c2' : (((v0 : Nat) : Int) == 0) = false := beq_eq_false_iff_ne.mpr (by omega)
          obtain ⟨v1, p1, h1, hp1, d1⟩ := draw hp0 10 (by decide) (by decide)
          have g3 := hp1.fz
          obtain ⟨v2, p2, h2, hp2, d2⟩ := draw hp1 8 (by decide) (by decide)
          have g2 := hp2.fz
          have pb : priceB (some ((v1 : Nat) : Int)) = true := by
            unfold priceB
            rw [Bool.and_eq_true, decide_eq_true_eq, decide_eq_true_eq]
            omega
          by_cases lt : w < u
          · have lt2 : ¬ u < w := by omega
            obtain ⟨p'', ss', r1, r2, r3, r4⟩ := more p2 ⟨w, u, (v2 : Nat), some (v1 : Nat)⟩ hp2 ⟨⟨lt, hu⟩, ⟨by simp only []; omega, by simp only []; omega⟩, pb⟩
            refine ⟨p'', ss', r1, r2, r3, ?_⟩
            rw [← r4]
            simp [tl2, c1', c2', d0, d1, d2, g0, g1, g2, g3, lt, lt2, kb, Sr.d, oI]
          · have lt2 : u < w := by omega
            obtain ⟨p'', ss', r1, r2, r3, r4⟩ := more p2 ⟨u, w, (v2 : Nat), some (v1 : Nat)⟩ hp2 ⟨⟨lt2, hw⟩, ⟨by simp only []; omega, by simp only []; omega⟩, pb⟩
            refine ⟨p'', ss', r1, r2, r3, ?_⟩
            rw [← r4]
            simp [tl2, c1', c2', d0, d1, d2, g0, g1, g2, g3, lt, lt2, kb, Sr.d, oI]
    obtain ⟨u, q1, hu, hq1, e1⟩ := draw hp ((n : Nat) + 1 : Int) (by omega) (by omega)
    obtain ⟨w, q2, hw, hq2, e2⟩ := draw hq1 ((n : Nat) + 1 : Int) (by omega) (by omega)
    have f1 := hq1.fz
    have f2 := hq2.fz
    by_cases c0 : i < n
    · obtain ⟨v, q3, hv, hq3, e3⟩ := draw hq2 3 (by decide) (by decide)
      have f3 := hq3.fz
      by_cases c3 : 0 < v
      · obtain ⟨u2, q4, hu2, hq4, e4⟩ := draw hq3 ((i : Nat) + 1 : Int) (by omega) (by omega)
        have f4 := hq4.fz
        obtain ⟨p'', ss', r1, r2, r3, r4⟩ := tail q4 u2 (i + 1) hq4 (by omega) (by omega)
        refine ⟨p'', ss', r1, r2, r3, ?_⟩
        rw [← r4]
        have c0' : ((i : Nat) : Int) < (n : Nat) := by omega
        simp [e_wg2__law_land, e_wb2', hd2, f0, f1, f2, f3, f4, e1, e2, e3, e4, c0, c3]
      · obtain ⟨p'', ss', r1, r2, r3, r4⟩ := tail q3 u w hq3 (by omega) (by omega)
        refine ⟨p'', ss', r1, r2, r3, ?_⟩
        rw [← r4]
        simp [e_wg2__law_land, e_wb2', hd2, f0, f1, f2, f3, e1, e2, e3, c0, c3]
    · obtain ⟨p'', ss', r1, r2, r3, r4⟩ := tail q2 u w hq2 (by omega) (by omega)
      refine ⟨p'', ss', r1, r2, r3, ?_⟩
      rw [← r4]
      simp [e_wg2__law_land, e_wb2', hd2, f0, f1, f2, e1, e2, c0]
end K71

/-! k20: drawn lands, whole; lands changed. -/
namespace K71
open PySem PySem.Spec L2 MP

theorem lok_of {fs : List Fd} {ss : List Sr} (h1 : FsOk fs) (h2 : SsOk fs.length ss) (h3 : 1 ≤ fs.length) (h4 : fs.length ≤ 12) (h5 : ss.length ≤ 30) : LOk ⟨fs, ss⟩ where
  f2 := h4
  s1 := h5
  at_ := fun s hs => (h2 s hs).1
  f1 := h3
  nm := fun i f e => ⟨(h1 i f e).nm, (h1 i f e).g, (h1 i f e).h⟩
  st := fun s hs => (h2 s hs).2
theorem LOk.fsok {l : Ld} (h : LOk l) : FsOk l.fs := fun i f e => ⟨(h.nm i f e).1, (h.nm i f e).2.1, (h.nm i f e).2.2⟩
theorem LOk.ssok {l : Ld} (h : LOk l) : SsOk l.fs.length l.ss := fun s hs => ⟨h.at_ s hs, (h.st s hs).1, (h.st s hs).2⟩
theorem smallI_nat {n : Int} (h0 : 0 ≤ n) (h : n ≤ 1000) : smallI n = true := by
  unfold smallI
  rw [decide_eq_true_eq]
  omega
theorem q_land {p : D} (hp : Pot p) : ∃ (l : Ld) (p' : D), LOk l ∧ Pot p' ∧ m__law_land [p, .int 4, .int 3, .int 9] = some (l.d, [some p', some (.int 4), some (.int 3), some (.int 9)]) := by
  obtain ⟨v, p1, hv, hp1, e1⟩ := draw hp 4 (by decide) (by decide)
  obtain ⟨p2, fs, hp2, hf, hfl, e2⟩ := land_loop1 4 3 9 (v + 1) (by omega) (v + 1) p1 [] hp1 (fun j f e => by simp at e) (by simp)
  obtain ⟨w, p3, hw, hp3, e3⟩ := draw hp2 4 (by decide) (by decide)
  obtain ⟨p4, ss, hp4, hs, hsl, e4⟩ := land_loop2 4 3 (v + 1) (by omega) (v + 1 + w) (by omega) (.lst true (fs.map Fd.d)) ⟨_, rfl⟩ (v + 1 + w) p3 [] 0 hp3 (fun s hs => by cases hs) (by omega) (by simp)
  refine ⟨⟨fs, ss⟩, p4, lok_of hf (by rw [hfl]; exact hs) (by omega) (by omega) (by omega), hp4, ?_⟩
  have f0 := hp.fz
  have f1 := hp1.fz
  have f2 := hp2.fz
  have f3 := hp3.fz
  have f4 := hp4.fz
  have s1 : smallI (1 + (v : Nat)) = true := smallI_nat (by omega) (by omega)
  have t1 : ((1 : Int) + (v : Nat)).toNat = v + 1 := by omega
  have s2 : smallI (1 + (v : Nat) + (w : Nat)) = true := smallI_nat (by omega) (by omega)
  have t2 : ((1 : Int) + (v : Nat) + (w : Nat)).toNat = v + 1 + w := by omega
  have ev : ((v + 1 : Nat) : Int) = 1 + (v : Nat) := by omega
  rw [ev] at e2 e4
  simp only [List.length_nil, List.map_nil] at e2 e4
  unfold m__law_land
  rw [ev_fn]
  have z0 : (((0 : Nat) : Int)) = 0 := rfl
  rw [z0] at e2 e4
  simp [b__law_land, e1, f0, f1, s1, t1, e2, e3, f2, f3, s2, t2, e4, tupleD, Ld.d]
end K71

/-! k71: levels, plain: what a pass of water is, that it ends, what it keeps. -/
namespace K71
open PySem PySem.Spec L2 MP

abbrev Lv := List (Option Int)
/-- whether x is less than y, None below all -/
def up : Option Int → Option Int → Bool
  | _, none => false
  | none, some _ => true
  | some a, some b => decide (a < b)
def ole (x y : Option Int) : Prop := up y x = false
theorem ole_refl (x : Option Int) : ole x x := by
  cases x with
  | none => rfl
  | some a => simp [ole, up]
theorem ole_trans {x y z : Option Int} (a : ole x y) (b : ole y z) : ole x z := by
  cases x <;> cases y <;> cases z <;> simp [ole, up] at a b ⊢
  omega
theorem up_ole {x y : Option Int} (h : up x y = true) : ole x y := by
  cases x <;> cases y <;> simp [ole, up] at h ⊢
  omega
theorem up_of_up_ole {x y z : Option Int} (h : up x y = true) (k : ole y z) : up x z = true := by
  cases x <;> cases y <;> cases z <;> simp [ole, up] at h k ⊢
  omega
def gt (F : Lv) (i : Nat) : Option Int := F.getD i none
theorem gt_set (F : Lv) (j : Nat) (x : Option Int) (i : Nat) (hj : j < F.length) : gt (F.set j x) i = if i = j then x else gt F i := by
  unfold gt
  rw [List.getD_eq_getElem?_getD, List.getD_eq_getElem?_getD, List.getElem?_set]
  by_cases e : j = i
  · subst e
    simp [hj]
  · have e' : ¬ i = j := fun z => e z.symm
    simp [e, e']
theorem gt_some {F : Lv} {i : Nat} (h : i < F.length) : F[i]? = some (gt F i) := by
  unfold gt
  rw [List.getD_eq_getElem?_getD, List.getElem?_eq_getElem h]
  rfl
def rel1 (c : Int) (i j : Nat) (p : Lv × Bool) : Lv × Bool :=
  if 0 < j ∧ up (some c) (gt p.1 i) = true ∧ up (gt p.1 j) (gt p.1 i) = true then (p.1.set j (gt p.1 i), true) else p
def relS (l : Ld) (s : Sr) (p : Lv × Bool) : Lv × Bool := rel1 (sil l.fs s) s.b s.a (rel1 (sil l.fs s) s.a s.b p)
def relA (l : Ld) (p : Lv × Bool) (k : Nat) : Lv × Bool := match l.ss[k]? with
  | some s => relS l s p
  | none => p
def pass (l : Ld) (lt : List Nat) (F : Lv) : Lv × Bool := lt.foldl (relA l) (F, false)
def run (l : Ld) (lt : List Nat) : Nat → Lv → Lv
  | 0, F => F
  | n + 1, F => if (pass l lt F).2 = true then run l lt n (pass l lt F).1 else (pass l lt F).1

/-! ### what each step keeps, the whole keeps -/
/-- water that may go from i to j -/
def Way (l : Ld) (lt : List Nat) (c : Int) (i j : Nat) : Prop := ∃ k s, k ∈ lt ∧ l.ss[k]? = some s ∧ c = sil l.fs s ∧ ((i = s.a ∧ j = s.b) ∨ (i = s.b ∧ j = s.a))
section
variable {l : Ld} {lt : List Nat} {P : Lv → Prop}
def Keeps (l : Ld) (lt : List Nat) (P : Lv → Prop) : Prop := ∀ F c i j, Way l lt c i j → P F → 0 < j → up (some c) (gt F i) = true → up (gt F j) (gt F i) = true → P (F.set j (gt F i))
theorem rel1_keeps (h : Keeps l lt P) {c : Int} {i j : Nat} (w : Way l lt c i j) {p : Lv × Bool} (hp : P p.1) : P (rel1 c i j p).1 := by
  unfold rel1
  split
  · rename_i e
    exact h p.1 c i j w hp e.1 e.2.1 e.2.2
  · exact hp
theorem relA_keeps (h : Keeps l lt P) {k : Nat} (hk : k ∈ lt) {p : Lv × Bool} (hp : P p.1) : P (relA l p k).1 := by
  unfold relA
  split
  · rename_i s hs
    unfold relS
    exact rel1_keeps h ⟨k, s, hk, hs, rfl, .inr ⟨rfl, rfl⟩⟩ (rel1_keeps h ⟨k, s, hk, hs, rfl, .inl ⟨rfl, rfl⟩⟩ hp)
  · exact hp
theorem fold_keeps (h : Keeps l lt P) : ∀ (ks : List Nat) (p : Lv × Bool), (∀ k ∈ ks, k ∈ lt) → P p.1 → P (ks.foldl (relA l) p).1
  | [], p, _, hp => hp
  | k :: ks, p, hk, hp => fold_keeps h ks _ (fun z hz => hk z (List.mem_cons_of_mem _ hz)) (relA_keeps h (hk k List.mem_cons_self) hp)
theorem pass_keeps (h : Keeps l lt P) {F : Lv} (hp : P F) : P (pass l lt F).1 := fold_keeps h lt (F, false) (fun _ z => z) hp
theorem run_keeps (h : Keeps l lt P) : ∀ (n : Nat) (F : Lv), P F → P (run l lt n F)
  | 0, F, hp => hp
  | n + 1, F, hp => by
    unfold run
    split
    · exact run_keeps h n _ (pass_keeps h hp)
    · exact pass_keeps h hp
end

/-! ### it ends -/
def val : Option Int → Nat
  | none => 0
  | some a => a.toNat + 1
def phi (F : Lv) : Nat := (F.map val).sum
structure Okl (n : Nat) (F : Lv) : Prop where
  len : F.length = n
  bd : ∀ x ∈ F, x = none ∨ ∃ a, x = some a ∧ 0 ≤ a ∧ a ≤ 2000
theorem Okl.at {n : Nat} {F : Lv} (h : Okl n F) (i : Nat) : gt F i = none ∨ ∃ a, gt F i = some a ∧ 0 ≤ a ∧ a ≤ 2000 := by
  by_cases hi : i < F.length
  · exact h.bd _ (List.mem_of_getElem? (gt_some hi))
  · left
    unfold gt
    rw [List.getD_eq_getElem?_getD, List.getElem?_eq_none (by omega)]
    rfl
theorem Okl.set {n : Nat} {F : Lv} (h : Okl n F) (i j : Nat) : Okl n (F.set j (gt F i)) := by
  refine ⟨by rw [List.length_set]; exact h.len, fun x hx => ?_⟩
  rcases List.mem_or_eq_of_mem_set hx with z | z
  · exact h.bd x z
  · rw [z]
    exact h.at i
theorem okl_keeps (l : Ld) (lt : List Nat) (n : Nat) : Keeps l lt (Okl n) := fun F c i j _ h _ _ _ => h.set i j
theorem sum_set : ∀ (F : Lv) (j : Nat) (x : Option Int), j < F.length → phi (F.set j x) + val (gt F j) = phi F + val x
  | [], j, x, h => by simp at h
  | y :: F, 0, x, h => by
    simp only [phi, gt, List.set_cons_zero, List.map_cons, List.sum_cons, List.getD_cons_zero]
    omega
  | y :: F, j + 1, x, h => by
    have ih := sum_set F j x (by simpa using h)
    simp only [phi, gt, List.set_cons_succ, List.map_cons, List.sum_cons, List.getD_cons_succ] at ih ⊢
    omega
theorem val_up {x y : Option Int} (h : up x y = true) (hx : x = none ∨ ∃ a, x = some a ∧ 0 ≤ a ∧ a ≤ 2000) : val x < val y := by
  cases y with
  | none => cases x <;> simp [up] at h
  | some b =>
    cases x with
    | none => simp [val]
    | some a =>
      simp only [up, decide_eq_true_eq] at h
      rcases hx with z | ⟨a', z, h1, h2⟩
      · cases z
      · cases z
        simp only [val]
        omega
theorem phi_le {n : Nat} {F : Lv} (h : Okl n F) : phi F ≤ n * 2001 := by
  obtain ⟨h1, h2⟩ := h
  subst h1
  induction F with
  | nil => simp [phi]
  | cons x F ih =>
    have := ih fun y hy => h2 y (List.mem_cons_of_mem _ hy)
    have hx : val x ≤ 2001 := by
      rcases h2 x List.mem_cons_self with rfl | ⟨a, rfl, _, _⟩
      · simp [val]
      · simp only [val]
        omega
    simp only [phi, List.map_cons, List.sum_cons, List.length_cons] at this ⊢
    omega
/-- ways whose ends are there -/
def InL (l : Ld) (n : Nat) : Prop := ∀ s ∈ l.ss, s.a < n ∧ s.b < n
section
variable {l : Ld} {lt : List Nat} {n : Nat}
theorem rel1_phi {c : Int} {i j : Nat} {p : Lv × Bool} (h : Okl n p.1) (hj : j < n) : Okl n (rel1 c i j p).1 ∧ phi p.1 ≤ phi (rel1 c i j p).1 ∧ ((rel1 c i j p).2 = true → p.2 = false → phi p.1 < phi (rel1 c i j p).1) ∧ ((rel1 c i j p).2 = false → (rel1 c i j p) = p) ∧ (p.2 = true → (rel1 c i j p).2 = true) := by
  unfold rel1
  split
  · rename_i e
    have h1 := sum_set p.1 j (gt p.1 i) (by rw [h.len]; exact hj)
    have h2 := val_up e.2.2 (h.at j)
    refine ⟨h.set i j, ?_, fun _ _ => ?_, fun z => (nomatch z), fun _ => rfl⟩
    · show phi p.1 ≤ phi (p.1.set j (gt p.1 i))
      omega
    · show phi p.1 < phi (p.1.set j (gt p.1 i))
      omega
  · exact ⟨h, Nat.le_refl _, fun a b => (by rw [a] at b; cases b), fun _ => rfl, fun z => z⟩
/-- what a walk does to (levels, flag) -/
structure Stp2 (n : Nat) (p q : Lv × Bool) : Prop where
  ok : Okl n q.1
  le : phi p.1 ≤ phi q.1
  lt : q.2 = true → p.2 = false → phi p.1 < phi q.1
  eq : q.2 = false → q = p
  up : p.2 = true → q.2 = true
theorem Stp2.trans {p q r : Lv × Bool} (a : Stp2 n p q) (b : Stp2 n q r) : Stp2 n p r := by
  refine ⟨b.ok, Nat.le_trans a.le b.le, fun h1 h2 => ?_, fun h => ?_, fun h => b.up (a.up h)⟩
  · cases e : q.2 with
    | false =>
      have := b.lt h1 e
      have := a.le
      omega
    | true =>
      have := a.lt e h2
      have := b.le
      omega
  · have e := b.eq h
    have e2 : q.2 = false := by rw [← e]; exact h
    rw [e, a.eq e2]
theorem rel1_st {c : Int} {i j : Nat} {p : Lv × Bool} (h : Okl n p.1) (hj : j < n) : Stp2 n p (rel1 c i j p) := by
  obtain ⟨a, b, c, d, e⟩ := rel1_phi (c := c) (i := i) h hj
  exact ⟨a, b, c, d, e⟩
theorem relA_st (hl : InL l n) {p : Lv × Bool} (h : Okl n p.1) (k : Nat) : Stp2 n p (relA l p k) := by
  unfold relA
  split
  · rename_i s hs
    have hb := hl s (List.mem_of_getElem? hs)
    have h1 := rel1_st (c := sil l.fs s) (i := s.a) h hb.2
    exact h1.trans (rel1_st h1.ok hb.1)
  · exact ⟨h, Nat.le_refl _, fun a b => (by rw [a] at b; cases b), fun _ => rfl, fun z => z⟩
theorem fold_st (hl : InL l n) : ∀ (ks : List Nat) (p : Lv × Bool), Okl n p.1 → Stp2 n p (ks.foldl (relA l) p)
  | [], p, h => ⟨h, Nat.le_refl _, fun a b => (by rw [show ([] : List Nat).foldl (relA l) p = p from rfl, b] at a; cases a), fun _ => rfl, fun z => z⟩
  | k :: ks, p, h => (relA_st hl h k).trans (fold_st hl ks _ (relA_st hl h k).ok)
theorem pass_st (hl : InL l n) {F : Lv} (h : Okl n F) : Stp2 n (F, false) (pass l lt F) := fold_st hl lt (F, false) h
/-- nothing goes on -/
def Shut (l : Ld) (lt : List Nat) (F : Lv) : Prop := ∀ c i j, Way l lt c i j → 0 < j → up (some c) (gt F i) = true → ole (gt F i) (gt F j)
theorem relA_shut {p : Lv × Bool} {k : Nat} {s : Sr} (hl : InL l n) (hs : l.ss[k]? = some s) (h : Okl n p.1) (e : (relA l p k).2 = false) : ∀ i j, ((i = s.a ∧ j = s.b) ∨ (i = s.b ∧ j = s.a)) → 0 < j → up (some (sil l.fs s)) (gt p.1 i) = true → ole (gt p.1 i) (gt p.1 j) := by
  unfold relA at e
  rw [hs] at e
  have hb := hl s (List.mem_of_getElem? hs)
  have h1 := rel1_st (c := sil l.fs s) (i := s.a) (p := p) h hb.2
  have h2 := rel1_st (c := sil l.fs s) (i := s.b) h1.ok hb.1
  have e2 := h2.eq e
  have e3 : (rel1 (sil l.fs s) s.a s.b p).2 = false := by rw [← e2]; exact e
  have e4 := h1.eq e3
  intro i j hij hj hc
  cases z : up (gt p.1 j) (gt p.1 i) with
  | false => exact z
  | true =>
    exfalso
    rcases hij with ⟨rfl, rfl⟩ | ⟨rfl, rfl⟩
    · have : (rel1 (sil l.fs s) s.a s.b p).2 = true := by
        unfold rel1
        rw [if_pos ⟨hj, hc, z⟩]
      rw [this] at e3
      cases e3
    · have e5 : (rel1 (sil l.fs s) s.b s.a (rel1 (sil l.fs s) s.a s.b p)).2 = false := e
      rw [e4] at e5
      have : (rel1 (sil l.fs s) s.b s.a p).2 = true := by
        unfold rel1
        rw [if_pos ⟨hj, hc, z⟩]
      rw [this] at e5
      cases e5
theorem fold_shut (hl : InL l n) : ∀ (ks : List Nat) (p : Lv × Bool), Okl n p.1 → (ks.foldl (relA l) p).2 = false → ks.foldl (relA l) p = p ∧ Shut l ks p.1
  | [], p, h, e => ⟨rfl, fun c i j w => by
    obtain ⟨k, s, hk, _⟩ := w
    cases hk⟩
  | k :: ks, p, h, e => by
    have h1 := relA_st hl h k
    obtain ⟨e1, e2⟩ := fold_shut hl ks _ h1.ok e
    have e3 : (relA l p k).2 = false := by
      have e : (ks.foldl (relA l) (relA l p k)).2 = false := e
      rw [e1] at e
      exact e
    have e4 := h1.eq e3
    refine ⟨by rw [List.foldl_cons, e1, e4], fun c i j w hj hc => ?_⟩
    rw [e4] at e2
    obtain ⟨k', s, hk, hs, rfl, hij⟩ := w
    rcases List.mem_cons.mp hk with rfl | hk
    · exact relA_shut hl hs h e3 i j hij hj hc
    · exact e2 _ i j ⟨k', s, hk, hs, rfl, hij⟩ hj hc
theorem run_shut (hl : InL l n) : ∀ (m : Nat) (F : Lv), Okl n F → n * 2001 < phi F + m → Shut l lt (run l lt m F)
  | 0, F, h, hm => by
    have := phi_le h
    omega
  | m + 1, F, h, hm => by
    have st := pass_st (lt := lt) hl h
    unfold run
    split
    · rename_i e
      have := st.lt e rfl
      exact run_shut hl m _ st.ok (by show n * 2001 < phi (pass l lt F).1 + m; simp only at this; omega)
    · rename_i e
      have e' : (pass l lt F).2 = false := by simpa using e
      obtain ⟨e1, e2⟩ := fold_shut hl lt (F, false) h e'
      have : pass l lt F = (F, false) := e1
      rw [this]
      exact e2
end

/-! ### order, place by place -/
def leF (F G : Lv) : Prop := ∀ i, ole (gt F i) (gt G i)
theorem leF_refl (F : Lv) : leF F F := fun i => ole_refl _
theorem leF_trans {F G H : Lv} (a : leF F G) (b : leF G H) : leF F H := fun i => ole_trans (a i) (b i)
theorem up_keeps (l : Ld) (lt : List Nat) (F0 : Lv) : Keeps l lt (fun F => leF F0 F) := fun F c i j _ h _ _ hu k => by
  by_cases hj : j < F.length
  · rw [gt_set F j _ k hj]
    split
    · rename_i e
      subst e
      exact ole_trans (h k) (up_ole hu)
    · exact h k
  · rw [List.set_eq_of_length_le (by omega)]
    exact h k
theorem below_keeps {l : Ld} {lt lt' : List Nat} {G : Lv} (hs : Shut l lt' G) (hsub : ∀ k ∈ lt, k ∈ lt') : Keeps l lt (fun F => leF F G) := fun F c i j w h hj hc hu k => by
  by_cases hl : j < F.length
  · rw [gt_set F j _ k hl]
    split
    · rename_i e
      subst e
      obtain ⟨k', s, hk, hss, e1, e2⟩ := w
      refine ole_trans (h i) (hs c i k ⟨k', s, hsub _ hk, hss, e1, e2⟩ hj (up_of_up_ole hc (h i)))
    · exact h k
  · rw [List.set_eq_of_length_le (by omega)]
    exact h k
theorem mem_keeps (l : Ld) (lt : List Nat) (S : Int → Prop) : Keeps l lt (fun F => ∀ x ∈ F, ∀ a, x = some a → S a) := fun F c i j _ h _ _ _ x hx a e => by
  rcases List.mem_or_eq_of_mem_set hx with z | z
  · exact h x z a e
  · rw [z] at e
    by_cases hi : i < F.length
    · exact h _ (List.mem_of_getElem? (gt_some hi)) a e
    · have : gt F i = none := by
        unfold gt
        rw [List.getD_eq_getElem?_getD, List.getElem?_eq_none (by omega)]
        rfl
      rw [this] at e
      cases e
theorem zero_keeps (l : Ld) (lt : List Nat) (x : Option Int) : Keeps l lt (fun F => gt F 0 = x) := fun F c i j _ h hj _ _ => by
  show gt (F.set j (gt F i)) 0 = x
  by_cases hl : j < F.length
  · rw [gt_set F j _ 0 hl, if_neg (by omega)]
    exact h
  · rw [List.set_eq_of_length_le (by omega)]
    exact h
end K71

/-! k71: levels hour by hour, plain. -/
namespace K71
open PySem PySem.Spec L2 MP

def letOf (m : Nat) (g : Nat → Nat) (h : Nat) : List Nat := (List.range m).filter fun k => decide (g k ≤ h)
def NL (l : Ld) : Nat := (l.fs.length + 1) * 2001 + 1
def hourF (l : Ld) (g : Nat → Nat) (k : Nat) (h : Int) (fs : Lv) : Lv := (run l (letOf l.ss.length g k) (NL l) (some h :: fs)).tail
def rowsF (l : Ld) (g : Nat → Nat) : Nat → List Int → Lv → List Lv
  | _, [], _ => []
  | k, h :: hs, fs => hourF l g k h fs :: rowsF l g (k + 1) hs (hourF l g k h fs)
def rows (l : Ld) (g : Nat → Nat) (hs : List Int) : List Lv := rowsF l g 0 hs (List.replicate l.fs.length none)
def Hok (hs : List Int) : Prop := ∀ h ∈ hs, 0 ≤ h ∧ h ≤ 2000
theorem inL_of {l : Ld} (h : LS l) : InL l (l.fs.length + 1) := fun s hs => by
  have := h.at_ s hs
  omega
section
variable {l : Ld} {g : Nat → Nat} {k : Nat} {h : Int} {fs : Lv}
theorem okl_cons (ok : Okl l.fs.length fs) (hh : 0 ≤ h ∧ h ≤ 2000) : Okl (l.fs.length + 1) (some h :: fs) := by
  refine ⟨by rw [List.length_cons, ok.len], fun x hx => ?_⟩
  rcases List.mem_cons.mp hx with rfl | hx
  · exact .inr ⟨h, rfl, hh⟩
  · exact ok.bd x hx
theorem run_eq (ok : Okl l.fs.length fs) (hh : 0 ≤ h ∧ h ≤ 2000) : run l (letOf l.ss.length g k) (NL l) (some h :: fs) = some h :: hourF l g k h fs := by
  have h0 : gt (run l (letOf l.ss.length g k) (NL l) (some h :: fs)) 0 = some h := run_keeps (zero_keeps l _ (some h)) _ _ rfl
  unfold hourF
  cases e : run l (letOf l.ss.length g k) (NL l) (some h :: fs) with
  | nil =>
    rw [e] at h0
    cases h0
  | cons x r =>
    rw [e] at h0
    have : x = some h := h0
    rw [this]
    rfl
theorem hourF_ok (ok : Okl l.fs.length fs) (hh : 0 ≤ h ∧ h ≤ 2000) : Okl l.fs.length (hourF l g k h fs) := by
  have a := run_keeps (okl_keeps l (letOf l.ss.length g k) (l.fs.length + 1)) (NL l) _ (okl_cons ok hh)
  rw [run_eq ok hh] at a
  exact ⟨by have := a.len; rw [List.length_cons] at this; omega, fun x hx => a.bd x (List.mem_cons_of_mem _ hx)⟩
theorem gt_cons (x : Option Int) (F : Lv) (i : Nat) : gt (x :: F) (i + 1) = gt F i := by
  unfold gt
  rfl
theorem hourF_ge (ok : Okl l.fs.length fs) (hh : 0 ≤ h ∧ h ≤ 2000) : leF fs (hourF l g k h fs) := fun i => by
  have a := run_keeps (up_keeps l (letOf l.ss.length g k) (some h :: fs)) (NL l) _ (leF_refl _) (i + 1)
  rw [run_eq ok hh, gt_cons, gt_cons] at a
  exact a
theorem hourF_mem {S : Int → Prop} (ok : Okl l.fs.length fs) (hh : 0 ≤ h ∧ h ≤ 2000) (hf : ∀ x ∈ fs, ∀ a, x = some a → S a) (hs : S h) : ∀ x ∈ hourF l g k h fs, ∀ a, x = some a → S a := fun x hx => by
  have a := run_keeps (mem_keeps l (letOf l.ss.length g k) S) (NL l) (some h :: fs) (fun x hx a e => by
    rcases List.mem_cons.mp hx with rfl | hx
    · cases e
      exact hs
    · exact hf x hx a e)
  rw [run_eq ok hh] at a
  exact a x (List.mem_cons_of_mem _ hx)
theorem leF_cons {x y : Option Int} {F G : Lv} (h : ole x y) (k : leF F G) : leF (x :: F) (y :: G) := fun i => by
  cases i with
  | zero => exact h
  | succ i => exact k i
theorem hourF_mono {g' : Nat → Nat} {h' : Int} {fs' : Lv} (hl : LS l) (ok : Okl l.fs.length fs) (hh : 0 ≤ h ∧ h ≤ 2000) (ok' : Okl l.fs.length fs') (hh' : 0 ≤ h' ∧ h' ≤ 2000) (hg : ∀ i, g' i ≤ g i) (hle : h ≤ h') (hf : leF fs fs') :
    leF (hourF l g k h fs) (hourF l g' k h' fs') := fun i => by
  have sh : Shut l (letOf l.ss.length g' k) (run l (letOf l.ss.length g' k) (NL l) (some h' :: fs')) := run_shut (inL_of hl) (NL l) _ (okl_cons ok' hh') (by unfold NL; omega)
  have up' := run_keeps (up_keeps l (letOf l.ss.length g' k) (some h' :: fs')) (NL l) _ (leF_refl _)
  have hsub : ∀ z ∈ letOf l.ss.length g k, z ∈ letOf l.ss.length g' k := fun z hz => by
    unfold letOf at hz ⊢
    rw [List.mem_filter, decide_eq_true_eq] at hz ⊢
    exact ⟨hz.1, Nat.le_trans (hg z) hz.2⟩
  have a := run_keeps (below_keeps sh hsub) (NL l) (some h :: fs) (leF_trans (leF_cons (by simp [ole, up]; omega) hf) up') (i + 1)
  rw [run_eq ok hh, run_eq ok' hh', gt_cons, gt_cons] at a
  exact a
end
theorem okl_none (n : Nat) : Okl n (List.replicate n none) := ⟨List.length_replicate .., fun x hx => .inl (List.eq_of_mem_replicate hx)⟩
section
variable {l : Ld} {g : Nat → Nat}
theorem rowsF_len : ∀ (hs : List Int) (k : Nat) (fs : Lv), (rowsF l g k hs fs).length = hs.length
  | [], k, fs => rfl
  | h :: hs, k, fs => by rw [rowsF, List.length_cons, List.length_cons, rowsF_len hs]
theorem rowsF_ok : ∀ (hs : List Int) (k : Nat) (fs : Lv), Hok hs → Okl l.fs.length fs → ∀ r ∈ rowsF l g k hs fs, Okl l.fs.length r
  | [], k, fs, hh, ok, r, hr => by cases hr
  | h :: hs, k, fs, hh, ok, r, hr => by
    have o1 := hourF_ok (g := g) (k := k) ok (hh h List.mem_cons_self)
    rcases List.mem_cons.mp hr with rfl | hr
    · exact o1
    · exact rowsF_ok hs _ _ (fun z hz => hh z (List.mem_cons_of_mem _ hz)) o1 r hr
/-- each level is the height of some hour till then -/
theorem rowsF_mem : ∀ (hs : List Int) (k : Nat) (fs : Lv) (pre : List Int), Hok hs → Okl l.fs.length fs → (∀ x ∈ fs, ∀ a, x = some a → a ∈ pre) → ∀ (i : Nat) (r : Lv), (rowsF l g k hs fs)[i]? = some r → ∀ x ∈ r, ∀ a, x = some a → a ∈ pre ++ hs.take (i + 1)
  | [], k, fs, pre, hh, ok, hf, i, r, e => by simp [rowsF] at e
  | h :: hs, k, fs, pre, hh, ok, hf, i, r, e => by
    have h0 := hh h List.mem_cons_self
    have o1 := hourF_ok (g := g) (k := k) ok h0
    have m1 := hourF_mem (g := g) (k := k) (S := fun a => a ∈ pre ++ [h]) ok h0 (fun x hx a e => List.mem_append_left _ (hf x hx a e)) (by simp)
    cases i with
    | zero =>
      have e := Option.some.inj e
      subst e
      simpa using m1
    | succ i =>
      have := rowsF_mem hs (k + 1) _ (pre ++ [h]) (fun z hz => hh z (List.mem_cons_of_mem _ hz)) o1 m1 i r (by simpa [rowsF] using e)
      simpa using this
/-- no level falls -/
theorem rowsF_rise : ∀ (hs : List Int) (k : Nat) (fs : Lv), Hok hs → Okl l.fs.length fs → ∀ (i : Nat) (r r' : Lv), (fs :: rowsF l g k hs fs)[i]? = some r → (rowsF l g k hs fs)[i]? = some r' → leF r r'
  | [], k, fs, hh, ok, i, r, r', e, e' => by simp [rowsF] at e'
  | h :: hs, k, fs, hh, ok, i, r, r', e, e' => by
    have h0 := hh h List.mem_cons_self
    have o1 := hourF_ok (g := g) (k := k) ok h0
    cases i with
    | zero =>
      have e := Option.some.inj e
      have e' := Option.some.inj e'
      subst e e'
      exact hourF_ge ok h0
    | succ i => exact rowsF_rise hs (k + 1) _ (fun z hz => hh z (List.mem_cons_of_mem _ hz)) o1 i r r' (by simpa [rowsF] using e) (by simpa [rowsF] using e')
/-- with greater heights, with what goes sooner, no level is less -/
theorem rowsF_mono {g' : Nat → Nat} (hl : LS l) (hg : ∀ i, g' i ≤ g i) : ∀ (hs hs' : List Int) (k : Nat) (fs fs' : Lv), Hok hs → Hok hs' → Okl l.fs.length fs → Okl l.fs.length fs' → leF fs fs' → (∀ z ∈ hs.zip hs', z.1 ≤ z.2) →
    ∀ z ∈ (rowsF l g' k hs' fs').zip (rowsF l g k hs fs), leF z.2 z.1
  | [], hs', k, fs, fs', hh, hh', ok, ok', hf, hz, z, h => by simp [rowsF] at h
  | h :: hs, [], k, fs, fs', hh, hh', ok, ok', hf, hz, z, h1 => by simp [rowsF] at h1
  | h :: hs, h' :: hs', k, fs, fs', hh, hh', ok, ok', hf, hz, z, h1 => by
    have a := hh h List.mem_cons_self
    have b := hh' h' List.mem_cons_self
    have o1 := hourF_ok (g := g) (k := k) ok a
    have o2 := hourF_ok (g := g') (k := k) ok' b
    have m := hourF_mono (k := k) hl ok a ok' b hg (hz (h, h') (by simp)) hf
    rw [rowsF, rowsF, List.zip_cons_cons] at h1
    rcases List.mem_cons.mp h1 with rfl | h1
    · exact m
    · exact rowsF_mono hl hg hs hs' (k + 1) _ _ (fun z hz => hh z (List.mem_cons_of_mem _ hz)) (fun z hz => hh' z (List.mem_cons_of_mem _ hz)) o1 o2 m (fun z q => hz z (by rw [List.zip_cons_cons]; exact List.mem_cons_of_mem _ q)) z h1
end
end K71

/-! k71: storms: heights, hours, in the program and in the law. -/
namespace K71
open PySem PySem.Spec L2 MP

structure Stp where
  h : Bool
  n : Nat
def wd (b : Bool) : List Nat := if b = true then [104, 111, 117, 114] else [103, 111, 110, 101]
def Stp.d (s : Stp) : D := .tup false [.str (S (wd s.h)), .int (s.n : Nat)]
@[simp] theorem fz_st (s : Stp) : s.d.frozen = true := by simp [Stp.d]
@[simp] theorem fz_sts (ss : List Stp) : frozenL (ss.map Stp.d) = true := fzL_map _ fz_st _
@[simp] theorem st_0 (s : Stp) : ixD s.d (.int 0) = some (.str (S (wd s.h))) := by simp [Stp.d]
@[simp] theorem st_1 (s : Stp) : ixD s.d (.int 1) = some (.int (s.n : Nat)) := by simp [Stp.d]
@[simp] theorem st_n (s : Stp) : lenD [s.d] = some (.int 2) := by simp [Stp.d]
@[simp] theorem st_t (s : Stp) (T : String) : isD T s.d = some (.bl (isB "tuple" T)) := by simp [Stp.d]
@[simp] theorem wd_h (b : Bool) : eqE (.str (S (wd b))) (.str (S [104, 111, 117, 114])) = some (.bl b) := by cases b <;> rfl
@[simp] theorem wd_g (b : Bool) : eqE (.str (S (wd b))) (.str (S [103, 111, 110, 101])) = some (.bl (!b)) := by cases b <;> rfl
@[simp] theorem wd_bh (b : Bool) : (wd b == [104, 111, 117, 114]) = b := by cases b <;> rfl
@[simp] theorem wd_bg (b : Bool) : (wd b == [103, 111, 110, 101]) = !b := by cases b <;> rfl
@[simp] theorem wd_th : (wd true == [104, 111, 117, 114]) = true := rfl
@[simp] theorem wd_fh : (wd false == [104, 111, 117, 114]) = false := rfl
/-- the heights -/
def hts (st : List Stp) : List Int := st.filterMap fun s => if s.h = true then some ((s.n : Nat) : Int) else none
theorem hts_le (st : List Stp) : (hts st).length ≤ st.length := List.length_filterMap_le _ _
/-- a storm as it comes -/
def IsSt (x : D) (st : List Stp) : Prop := x = .lst true (st.map Stp.d) ∨ x = .lst false (st.map Stp.d) ∨ x = .tup false (st.map Stp.d)
theorem p_heights (x : D) (st : List Stp) (hx : IsSt x st) (hz : st.length ≤ 1000) : m_heights_by [x] = some (.lst true ((hts st).map D.int), [some x]) := by
  have hc : ∀ x0 : Option D, cL cg1_heights_by ct1_heights_by ce1_heights_by [1] (st.map Stp.d) [x0, none] = some ((hts st).map D.int, [x0, none]) := fun x0 => by
    rw [cL_fo _ (fun s => if s.h = true then some (D.int ((s.n : Nat) : Int)) else none) _ fun s hs => ?_]
    · unfold hts
      rw [List.map_filterMap]
      refine congrArg (fun q => some (List.filterMap q st, _)) (funext fun z => ?_)
      split <;> rfl
    · cases e : s.h <;> simp [stepC, e_cg1_heights_by, e_ct1_heights_by, e_ce1_heights_by, e]
  unfold m_heights_by
  rw [ev_fn]
  have hl : (hts st).length ≤ 16777216 := by have := hts_le st; omega
  rcases hx with rfl | rfl | rfl <;> simp [b_heights_by, backF, hc, hl]
theorem q_heights (x : D) (st : List Stp) (hx : IsSt x st) (hz : st.length ≤ 1000) : m__law_heights [x] = some (.lst true ((hts st).map D.int), [some x]) := by
  have hc : ∀ x0 : Option D, cL cg1__law_heights ct1__law_heights ce1__law_heights [1] (st.map Stp.d) [x0, none] = some ((hts st).map D.int, [x0, none]) := fun x0 => by
    rw [cL_fo _ (fun s => if s.h = true then some (D.int ((s.n : Nat) : Int)) else none) _ fun s hs => ?_]
    · unfold hts
      rw [List.map_filterMap]
      refine congrArg (fun q => some (List.filterMap q st, _)) (funext fun z => ?_)
      split <;> rfl
    · cases e : s.h <;> simp [stepC, e_cg1__law_heights, e_ct1__law_heights, e_ce1__law_heights, e]
  unfold m__law_heights
  rw [ev_fn]
  have hl : (hts st).length ≤ 16777216 := by have := hts_le st; omega
  rcases hx with rfl | rfl | rfl <;> simp [b__law_heights, backF, hc, hl]

/-! ### hours -/
/-- from which hour on each stretch is gone -/
def gF (f : Nat → Nat) : Nat → List Stp → Nat → Nat
  | _, [] => f
  | k, s :: r => if s.h = true then gF f (k + 1) r else gF (fun i => if i = s.n then k else f i) k r
def kI (i : Nat) : Key := .inl (i : Nat)
def dctF (pl : List Nat) (f : Nat → Nat) : D := .dct true (pl.map kI) (pl.map fun i => .int (f i : Nat))
theorem kI_inj {i j : Nat} : kI i = kI j ↔ i = j := by
  unfold kI
  constructor
  · intro h
    have := Sum.inl.inj h
    omega
  · intro h
    rw [h]
theorem hasK_map (pl : List Nat) (i : Nat) : hasK (pl.map kI) (kI i) = decide (i ∈ pl) := by
  unfold hasK
  rw [List.any_map]
  induction pl with
  | nil => rfl
  | cons j pl ih =>
    rw [List.any_cons, ih]
    by_cases h : j = i
    · simp [kI_inj, h]
    · have h' : ¬ i = j := fun e => h e.symm
      simp [kI_inj, h, h']
theorem putAll_map (pl : List Nat) (f : Nat → D) (i : Nat) (v : D) : putAll (pl.map kI) (pl.map f) (kI i) v = pl.map fun j => if j = i then v else f j := by
  induction pl with
  | nil => rfl
  | cons j pl ih =>
    rw [List.map_cons, List.map_cons, putAll, ih, List.map_cons]
    simp only [kI_inj]
theorem dct_put (pl : List Nat) (f : Nat → Nat) (i k : Nat) (h : i ∈ pl) : D.dct true (putKs (pl.map kI) (kI i)) (putDs (pl.map kI) (pl.map fun i => D.int (f i : Nat)) (kI i) (.int (k : Nat))) = dctF pl fun j => if j = i then k else f j := by
  unfold putKs putDs dctF
  rw [hasK_map, decide_eq_true h, if_pos rfl, if_pos rfl, putAll_map]
  refine congrArg (D.dct true _) (List.map_congr_left fun j _ => ?_)
  by_cases e : j = i
  · rw [if_pos e]
    show _ = D.int ((if j = i then k else f j : Nat) : Int)
    rw [if_pos e]
  · rw [if_neg e]
    show _ = D.int ((if j = i then k else f j : Nat) : Int)
    rw [if_neg e]
theorem fz_nats (pl : List Nat) (f : Nat → Nat) : frozenL (pl.map fun i => D.int (f i : Nat)) = true := fzL_map _ (fun _ => rfl) _
theorem hours_loop (pd : D) (x : Option D) (pl : List Nat) (hpl : pl.length ≤ 1000) : ∀ (st : List Stp) (k : Nat) (f : Nat → Nat), (∀ s ∈ st, s.h = false → s.n ∈ pl) → k + st.length ≤ 1000 →
    ∃ k', sForL wg2_hours_by wb2_hours_by [4, 5] (st.map Stp.d) [some pd, x, some (dctF pl f), some (.int (k : Nat)), none, none, none] = some (.nx, [some pd, x, some (dctF pl (gF f k st)), some (.int (k' : Nat)), none, none, none])
  | [], k, f, _, _ => ⟨k, rfl⟩
  | s :: st, k, f, hs, hk => by
    rw [List.length_cons] at hk
    rw [List.map_cons, ev_for1]
    have sd : s.d = .tup false [.str (S (wd s.h)), .int (s.n : Nat)] := rfl
    cases e : s.h with
    | true =>
      obtain ⟨k', ih⟩ := hours_loop pd x pl hpl st (k + 1) f (fun z hz => hs z (List.mem_cons_of_mem _ hz)) (by omega)
      refine ⟨k', ?_⟩
      have e2 : gF f k (s :: st) = gF f (k + 1) st := by rw [gF, e, if_pos rfl]
      rw [e2, ← ih]
      have e3 : (((k + 1 : Nat)) : Int) = (k : Nat) + 1 := by omega
      simp [sd, e, e_wg2_hours_by, e_wb2_hours_by, e3]
    | false =>
      have hm := hs s List.mem_cons_self e
      obtain ⟨k', ih⟩ := hours_loop pd x pl hpl st k (fun i => if i = s.n then k else f i) (fun z hz => hs z (List.mem_cons_of_mem _ hz)) (by omega)
      refine ⟨k', ?_⟩
      have e2 : gF f k (s :: st) = gF (fun i => if i = s.n then k else f i) k st := by
        rw [gF, e]
        rfl
      rw [e2, ← ih]
      have dp : D.dct true (putKs (pl.map kI) (.inl (s.n : Nat))) (putDs (pl.map kI) (pl.map fun i => D.int (f i : Nat)) (.inl (s.n : Nat)) (.int (k : Nat))) = dctF pl fun j => if j = s.n then k else f j := dct_put pl f s.n k hm
      have fz := fz_nats pl f
      have hl : pl.length ≤ 16777215 := by omega
      rw [← dp]
      simp [sd, e, e_wg2_hours_by, e_wb2_hours_by, dctF, fz, hl]
end K71

/-! k71: hours of stretches; whether one lets by; less. -/
namespace K71
open PySem PySem.Spec L2 MP

def plD (pl : List Nat) : D := .tup false (pl.map fun i => .int (i : Nat))
@[simp] theorem fz_plD (pl : List Nat) : (plD pl).frozen = true := by
  unfold plD
  simp [fzL_map (fun i : Nat => D.int (i : Nat)) (fun _ => rfl)]
@[simp] theorem fz_plL (pl : List Nat) : frozenL (pl.map fun i => D.int (i : Nat)) = true := fzL_map _ (fun _ => rfl) _
def f0 (pl : List Nat) (m : Nat) (i : Nat) : Nat := if i ∈ pl then m else 0
theorem kvOf_map (pl : List Nat) (m : Nat) : kvOf (pl.map fun i => D.tup false [.int (i : Nat), .int (m : Nat)]) = some (pl.map fun i => (kI i, D.int (m : Nat))) := by
  induction pl with
  | nil => rfl
  | cons i pl ih =>
    rw [List.map_cons, kvOf, ih]
    rfl
theorem merge_map (m : Nat) : ∀ (pl qs : List Nat), (qs ++ pl).Nodup → mergeA (pl.map fun i => (kI i, D.int (m : Nat))) (qs.map kI) (qs.map fun _ => D.int (m : Nat)) = .dct true ((qs ++ pl).map kI) ((qs ++ pl).map fun _ => D.int (m : Nat))
  | [], qs, _ => by simp [mergeA]
  | i :: pl, qs, h => by
    have hi : i ∉ qs := fun z => (List.nodup_append.mp h).2.2 i z i List.mem_cons_self rfl
    have ih := merge_map m pl (qs ++ [i]) (by simpa using h)
    rw [List.map_cons, mergeA]
    have e1 : putKs (qs.map kI) (kI i) = (qs ++ [i]).map kI := by
      unfold putKs
      rw [hasK_map, decide_eq_false hi, if_neg Bool.false_ne_true, List.map_append]
      rfl
    have e2 : putDs (qs.map kI) (qs.map fun _ => D.int (m : Nat)) (kI i) (.int (m : Nat)) = (qs ++ [i]).map fun _ => D.int (m : Nat) := by
      unfold putDs
      rw [hasK_map, decide_eq_false hi, if_neg Bool.false_ne_true, List.map_append]
      rfl
    rw [e1, e2, ih]
    simp
theorem dict_map (o : Bool) (pl : List Nat) (m : Nat) (h : pl.Nodup) : dictD [.lst o (pl.map fun i => D.tup false [.int (i : Nat), .int (m : Nat)])] = some (dctF pl (f0 pl m)) := by
  have e0 : dictD [.lst o (pl.map fun i => D.tup false [.int (i : Nat), .int (m : Nat)])] = (match kvOf (pl.map fun i => D.tup false [.int (i : Nat), .int (m : Nat)]) with | some kvs => some (mergeA kvs [] []) | none => none) := rfl
  rw [e0, kvOf_map]
  have := merge_map m pl [] (by simpa using h)
  simp only [List.map_nil, List.nil_append] at this
  show some (mergeA _ [] []) = _
  rw [this]
  unfold dctF
  refine congrArg some (congrArg (D.dct true _) (List.map_congr_left fun i hi => ?_))
  unfold f0
  rw [if_pos hi]
def gN (pl : List Nat) (st : List Stp) : Nat → Nat := gF (f0 pl (hts st).length) 0 st
theorem p_hours (x : D) (pl : List Nat) (st : List Stp) (hx : IsSt x st) (hz : st.length ≤ 900) (hp : pl.Nodup) (hpl : pl.length ≤ 1000) (hs : ∀ s ∈ st, s.h = false → s.n ∈ pl) :
    m_hours_by [plD pl, x] = some (dctF pl (gN pl st), [some (plD pl), some x]) := by
  have ph := p_heights x st hx (by omega)
  have hc : cL cg1_hours_by ct1_hours_by ce1_hours_by [6] (pl.map fun i => D.int (i : Nat)) [some (plD pl), some x, none, none, none, none, none] = some (pl.map fun i => D.tup false [.int (i : Nat), .int ((hts st).length : Nat)], [some (plD pl), some x, none, none, none, none, none]) :=
    cL_of (fun i : Nat => D.int (i : Nat)) (fun i => D.tup false [.int (i : Nat), .int ((hts st).length : Nat)]) pl fun i hi => by
      cases fb : x.frozen <;> simp [stepC, e_cg1_hours_by, ct1_hours_by, e_ce1_hours_by, ph, fb]
  have hd := dict_map true pl (hts st).length hp
  have hfz : frozenL (pl.map fun i => D.tup false [D.int (i : Nat), D.int ((hts st).length : Nat)]) = true := fzL_map _ (fun _ => rfl) _
  have hl : pl.length ≤ 16777216 := by omega
  unfold m_hours_by
  rw [ev_fn]
  have wk : ∀ y : Option D, ∃ k', sForL wg2_hours_by wb2_hours_by [4, 5] (st.map Stp.d) [some (plD pl), y, some (dctF pl (f0 pl (hts st).length)), some (.int 0), none, none, none] = some (.nx, [some (plD pl), y, some (dctF pl (gN pl st)), some (.int (k' : Nat)), none, none, none]) := fun y =>
    hours_loop (plD pl) y pl hpl st 0 (f0 pl (hts st).length) hs (by omega)
  have e0 : plD pl = .tup false (pl.map fun i => .int (i : Nat)) := rfl
  have fd : (dctF pl (gN pl st)).frozen = false := by simp [dctF]
  rcases hx with rfl | rfl | rfl
  · obtain ⟨k', e⟩ := wk none
    rw [e0] at hc e ⊢
    simp [b_hours_by, backF, hc, hd, hfz, hl, e, fd]
  · obtain ⟨k', e⟩ := wk (some (.lst false (st.map Stp.d)))
    rw [e0] at hc e ⊢
    simp [b_hours_by, backF, hc, hd, hfz, hl, e, fd]
  · obtain ⟨k', e⟩ := wk (some (.tup false (st.map Stp.d)))
    rw [e0] at hc e ⊢
    simp [b_hours_by, backF, hc, hd, hfz, hl, e, fd]
end K71

/-! k71: what lets by, less; a pass of water in the program. -/
namespace K71
open PySem PySem.Spec L2 MP

theorem getA_map (pl : List Nat) (f : Nat → D) (i : Nat) : getA (pl.map kI) (pl.map f) (kI i) = if i ∈ pl then some (f i) else none := by
  induction pl with
  | nil => rfl
  | cons j pl ih =>
    rw [List.map_cons, List.map_cons, getA, ih]
    by_cases h : j = i
    · subst h
      simp
    · have h' : ¬ i = j := fun e => h e.symm
      have h2 : ¬ kI j = kI i := fun e => h (kI_inj.mp e)
      simp [h2, h']
theorem p_passes (pl : List Nat) (g : Nat → Nat) (i k : Nat) (hg : i ∉ pl → g i = 0) : m_passes [dctF pl g, .int (i : Nat), .int (k : Nat)] = some (.bl (decide (g i ≤ k)), [some (dctF pl g), some (.int (i : Nat)), some (.int (k : Nat))]) := by
  have h1 : niK (.int (i : Nat)) (dctF pl g) = some (.bl (!decide (i ∈ pl))) := by
    show some (D.bl (!hasK (pl.map kI) (kI i))) = _
    rw [hasK_map]
  have fd : (dctF pl g).frozen = false := by simp [dctF]
  unfold m_passes
  rw [ev_fn]
  by_cases h : i ∈ pl
  · have h2 : ixK (dctF pl g) (.int (i : Nat)) = some (.int (g i : Nat)) := by
      show (match getA (pl.map kI) (pl.map fun i => D.int (g i : Nat)) (kI i) with | some d => if d.frozen = true then some d else none | none => none) = _
      rw [getA_map, if_pos h]
      rfl
    simp [b_passes, h1, h2, h, fd]
  · have := hg h
    simp [b_passes, h1, h, this, fd]
theorem p_less (x y : Option Int) : m_is_less [oI x, oI y] = some (.bl (up x y), [some (oI x), some (oI y)]) := by
  unfold m_is_less
  rw [ev_fn]
  cases x <;> cases y <;> simp [b_is_less, oI, up]
theorem q_less (x y : Option Int) : m__law_is_less [oI x, oI y] = some (.bl (up x y), [some (oI x), some (oI y)]) := by
  unfold m__law_is_less
  rw [ev_fn]
  cases x <;> cases y <;> simp [b__law_is_less, oI, up]
theorem p_lessI (x : Int) (y : Option Int) : m_is_less [.int x, oI y] = some (.bl (up (some x) y), [some (.int x), some (oI y)]) := p_less (some x) y
theorem p_ends (l : Ld) (k : Nat) (s : Sr) (hs : l.ss[k]? = some s) : m_ends_of [l.d, .int (k : Nat)] = some (.tup false [.int (s.a : Nat), .int (s.b : Nat)], [some l.d, some (.int (k : Nat))]) := by
  unfold m_ends_of
  rw [ev_fn]
  simp [b_ends_of, atI_nat', hs, Sr.d]
@[simp] theorem fz_lv (F : Lv) : frozenL (F.map oI) = true := fzL_map _ fz_oI _
@[simp] theorem frz_oI (x : Option Int) : (oI x).frz = oI x := frz_of_frozen _ (fz_oI x)
theorem ix_lv (b : Bool) (F : Lv) (i : Nat) (h : i < F.length) : ixD (.lst b (F.map oI)) (.int (i : Nat)) = some (oI (gt F i)) := by
  have e : (F.map oI)[i]? = some (oI (gt F i)) := by
    rw [List.getElem?_map, gt_some h]
    rfl
  simp [atI_nat', e]
theorem spread1 (l : Ld) (hl : LS l) (k : Nat) (s : Sr) (hs : l.ss[k]? = some s) (F : Lv) (i j : Nat) (hi : i < F.length) (hj : j < F.length) (b : Bool) (x1 x2 x3 x7 x8 : Option D) (K : En → Option (Ctl × En)) :
    bnd (wg1_spread (.tup false [.int (i : Nat), .int (j : Nat)]) [some l.d, x1, x2, x3, some (.lst true (F.map oI)), some (.bl b), some (.int (k : Nat)), x7, x8, none, none]) (fun E1 => loopK (wb1_spread E1) [9, 10] K)
      = K [some l.d, x1, x2, x3, some (.lst true ((rel1 (sil l.fs s) i j (F, b)).1.map oI)), some (.bl (rel1 (sil l.fs s) i j (F, b)).2), some (.int (k : Nat)), x7, x8, none, none] := by
  have h1 := p_sill l k s hs (hl.sAt hs)
  have h2 := ix_lv true F i hi
  have h3 := ix_lv true F j hj
  have h4 := p_lessI (sil l.fs s) (gt F i)
  have h5 := p_less (gt F j) (gt F i)
  have hj' : ixN (F.map oI).length (j : Nat) = some j := by
    unfold ixN
    rw [List.length_map, if_pos (by omega), if_pos (by omega)]
    rfl
  have hjj : ixN F.length (j : Nat) = some j := by rw [List.length_map] at hj'; exact hj'
  unfold rel1
  by_cases c0 : 0 < j
  · have c0' : (0 : Int) < (j : Nat) := by omega
    cases e1 : up (some (sil l.fs s)) (gt F i) with
    | false => simp [e_wg1_spread, e_wb1_spread, c0, c0', h1, h2, h3, h4, e1]
    | true =>
      cases e2 : up (gt F j) (gt F i) with
      | false => simp [e_wg1_spread, e_wb1_spread, c0, c0', h1, h2, h3, h4, h5, e1, e2]
      | true => simp [e_wg1_spread, e_wb1_spread, c0, c0', h1, h2, h3, h4, h5, e1, e2, hjj, List.map_set]
  · have c0' : ¬ (0 : Int) < (j : Nat) := by omega
    simp [e_wg1_spread, e_wb1_spread, c0, c0']
end K71

/-! k71: water in the program, hour by hour. -/
namespace K71
open PySem PySem.Spec L2 MP

theorem rel1_len (c : Int) (i j : Nat) (p : Lv × Bool) : (rel1 c i j p).1.length = p.1.length := by
  unfold rel1
  split
  · show (p.1.set j _).length = _
    rw [List.length_set]
  · rfl
theorem relA_len (l : Ld) (p : Lv × Bool) (k : Nat) : (relA l p k).1.length = p.1.length := by
  unfold relA
  split
  · unfold relS
    rw [rel1_len, rel1_len]
  · rfl
theorem fold_len (l : Ld) : ∀ (ks : List Nat) (p : Lv × Bool), (ks.foldl (relA l) p).1.length = p.1.length
  | [], p => rfl
  | k :: ks, p => by rw [List.foldl_cons, fold_len l ks, relA_len]
theorem spread_in (l : Ld) (hl : LS l) (k : Nat) (s : Sr) (hs : l.ss[k]? = some s) (F : Lv) (hF : F.length = l.fs.length + 1) (b : Bool) (x1 x2 x3 x7 x8 : Option D) :
    sForL wg1_spread wb1_spread [9, 10] [.tup false [.int (s.a : Nat), .int (s.b : Nat)], .tup false [.int (s.b : Nat), .int (s.a : Nat)]] [some l.d, x1, x2, x3, some (.lst true (F.map oI)), some (.bl b), some (.int (k : Nat)), x7, x8, none, none]
      = some (.nx, [some l.d, x1, x2, x3, some (.lst true ((relS l s (F, b)).1.map oI)), some (.bl (relS l s (F, b)).2), some (.int (k : Nat)), x7, x8, none, none]) := by
  have a := hl.sAt hs
  unfold sAt at a
  have h2 := rel1_len (sil l.fs s) s.a s.b (F, b)
  rw [ev_for1, spread1 l hl k s hs F s.a s.b (by omega) (by omega) b x1 x2 x3 x7 x8, ev_for1]
  have := spread1 l hl k s hs (rel1 (sil l.fs s) s.a s.b (F, b)).1 s.b s.a (by rw [h2]; simp only; omega) (by rw [h2]; simp only; omega) (rel1 (sil l.fs s) s.a s.b (F, b)).2 x1 x2 x3 x7 x8
  rw [this]
  rfl
theorem spread2 (l : Ld) (hl : LS l) (k : Nat) (hk : k < l.ss.length) (F : Lv) (hF : F.length = l.fs.length + 1) (b : Bool) (x1 x2 x3 : Option D) (K : En → Option (Ctl × En)) :
    bnd (wg2_spread (.int (k : Nat)) [some l.d, x1, x2, x3, some (.lst true (F.map oI)), some (.bl b), none, none, none, none, none]) (fun E1 => loopK (wb2_spread E1) [6, 7, 8, 9, 10] K)
      = K [some l.d, x1, x2, x3, some (.lst true ((relA l (F, b) k).1.map oI)), some (.bl (relA l (F, b) k).2), none, none, none, none, none] := by
  have hs : l.ss[k]? = some l.ss[k] := List.getElem?_eq_getElem hk
  have h1 := p_ends l k _ hs
  have h2 := spread_in l hl k _ hs F hF b x1 x2 x3 (some (.int (l.ss[k].a : Nat))) (some (.int (l.ss[k].b : Nat)))
  have e : relA l (F, b) k = relS l l.ss[k] (F, b) := by
    unfold relA
    rw [hs]
  rw [e]
  simp [e_wg2_spread, e_wb2_spread, h1, h2]
theorem spread_for (l : Ld) (hl : LS l) (x1 x2 x3 : Option D) : ∀ (ks : List Nat) (p : Lv × Bool), (∀ k ∈ ks, k < l.ss.length) → p.1.length = l.fs.length + 1 →
    sForL wg2_spread wb2_spread [6, 7, 8, 9, 10] (ks.map fun i => D.int (i : Nat)) [some l.d, x1, x2, x3, some (.lst true (p.1.map oI)), some (.bl p.2), none, none, none, none, none]
      = some (.nx, [some l.d, x1, x2, x3, some (.lst true ((ks.foldl (relA l) p).1.map oI)), some (.bl (ks.foldl (relA l) p).2), none, none, none, none, none])
  | [], p, _, _ => rfl
  | k :: ks, p, hk, hp => by
    rw [List.map_cons, ev_for1, spread2 l hl k (hk k List.mem_cons_self) p.1 hp p.2 x1 x2 x3]
    exact spread_for l hl x1 x2 x3 ks (relA l p k) (fun z hz => hk z (List.mem_cons_of_mem _ hz)) (by rw [relA_len]; exact hp)
def letD (lt : List Nat) : D := .lst true (lt.map fun i => .int (i : Nat))
theorem spread_wb (l : Ld) (hl : LS l) (lt : List Nat) (hlt : ∀ k ∈ lt, k < l.ss.length) (F : Lv) (hF : F.length = l.fs.length + 1) (x2 x3 : Option D) :
    wb3_spread [some l.d, some (letD lt), x2, x3, some (.lst true (F.map oI)), some (.bl true), none, none, none, none, none]
      = some (.nx, [some l.d, some (letD lt), x2, x3, some (.lst true ((pass l lt F).1.map oI)), some (.bl (pass l lt F).2), none, none, none, none, none]) := by
  have h := spread_for l hl none x2 x3 lt (F, false) hlt hF
  have e : lt.foldl (relA l) (F, false) = pass l lt F := rfl
  rw [e] at h
  simp only at h
  unfold letD
  simp [e_wb3_spread, h]
theorem spread_wh (l : Ld) (hl : LS l) (lt : List Nat) (hlt : ∀ k ∈ lt, k < l.ss.length) (x2 x3 : Option D) : ∀ (m n : Nat) (F : Lv), Okl (l.fs.length + 1) F → (l.fs.length + 1) * 2001 < phi F + m → m < n →
    sWhile wc3_spread wb3_spread [6, 7, 8, 9, 10] n [some l.d, some (letD lt), x2, x3, some (.lst true (F.map oI)), some (.bl true), none, none, none, none, none]
      = some (.nx, [some l.d, some (letD lt), x2, x3, some (.lst true ((run l lt m F).map oI)), some (.bl false), none, none, none, none, none])
  | 0, n, F, ok, hm, hn => by
    have := phi_le ok
    omega
  | m + 1, 0, F, ok, hm, hn => absurd hn (by omega)
  | m + 1, n + 1, F, ok, hm, hn => by
    have st := pass_st (lt := lt) (inL_of hl) ok
    rw [ev_while]
    have hw := spread_wb l hl lt hlt F ok.len x2 x3
    have hc : wc3_spread [some l.d, some (letD lt), x2, x3, some (.lst true (F.map oI)), some (.bl true), none, none, none, none, none] = some (true, [some l.d, some (letD lt), x2, x3, some (.lst true (F.map oI)), some (.bl true), none, none, none, none, none]) := by simp [e_wc3_spread]
    rw [hc]
    unfold run
    cases e : (pass l lt F).2 with
    | true =>
      have h3 := st.lt e rfl
      have ih := spread_wh l hl lt hlt x2 x3 m n (pass l lt F).1 st.ok (by simp only at h3; omega) (by omega)
      rw [if_pos rfl, ← ih]
      simp [hw, e]
    | false =>
      obtain ⟨n, rfl⟩ : ∃ k, n = k + 1 := ⟨n - 1, by omega⟩
      rw [if_neg Bool.false_ne_true]
      have hc2 : wc3_spread [some l.d, some (letD lt), x2, x3, some (.lst true ((pass l lt F).1.map oI)), some (.bl false), none, none, none, none, none] = some (false, [some l.d, some (letD lt), x2, x3, some (.lst true ((pass l lt F).1.map oI)), some (.bl false), none, none, none, none, none]) := by simp [e_wc3_spread]
      simp [hw, e, ev_while, hc2]
end K71

/-! k71: levels hour by hour, in the program. -/
namespace K71
open PySem PySem.Spec L2 MP

theorem rng0 (n : Nat) : rngD 0 n = (List.range n).map fun i => D.int (i : Nat) := by
  unfold rngD
  refine List.map_congr_left fun i _ => ?_
  rw [Int.zero_add]
theorem mk_rng (n : Nat) (h : n ≤ 1000) : mkRng1 [.int (n : Nat)] = some ((List.range n).map fun i => D.int (i : Nat)) := by
  rw [rng1, smallI_nat (by omega) (by omega), if_pos rfl, ← rng0]
  rfl
theorem cut_tl (x : D) (ds : List D) : cutD (x :: ds) (some 1) none = ds := by
  unfold cutD
  have e : HT.sIx (x :: ds).length 0 (some 1) = 1 := by
    have := HT.sIx_nat (x :: ds).length 0 1
    rw [show ((1 : Nat) : Int) = 1 from rfl] at this
    rw [this, List.length_cons]
    omega
  rw [e, HT.sIx_none]
  simp
theorem p_spread (l : Ld) (hl : LS l) (lt : List Nat) (hlt : ∀ k ∈ lt, k < l.ss.length) (h : Int) (hh : 0 ≤ h ∧ h ≤ 2000) (fs : Lv) (ok : Okl l.fs.length fs) :
    m_spread [l.d, letD lt, .int h, .tup false (fs.map oI)] = some (.tup false ((run l lt (NL l) (some h :: fs)).tail.map oI), [some l.d, some (letD lt), some (.int h), some (.tup false (fs.map oI))]) := by
  have ok1 := okl_cons ok hh
  have e := spread_wh l hl lt hlt (some (.int h)) (some (.tup false (fs.map oI))) (NL l) fu (some h :: fs) ok1 (by unfold NL; omega) (by
    unfold NL
    have := hl.f2
    show _ < 1099511627776
    omega)
  have h0 : gt (run l lt (NL l) (some h :: fs)) 0 = some h := run_keeps (zero_keeps l _ (some h)) _ _ rfl
  obtain ⟨r, hr⟩ : ∃ r, run l lt (NL l) (some h :: fs) = some h :: r := by
    cases q : run l lt (NL l) (some h :: fs) with
    | nil => rw [q] at h0; cases h0
    | cons x r =>
      rw [q] at h0
      exact ⟨r, by rw [show x = some h from h0]⟩
  have okr := run_keeps (okl_keeps l lt (l.fs.length + 1)) (NL l) _ ok1
  rw [hr] at okr
  have hrl : r.length ≤ 16777216 := by
    have := okr.len
    have := hl.f2
    rw [List.length_cons] at *
    omega
  rw [hr] at e ⊢
  have k1 : fs.length ≤ 16777216 := by have := ok.len; have := hl.f2; omega
  have k2 : 1 + fs.length ≤ 16777216 := by have := ok.len; have := hl.f2; omega
  have fl : (letD lt).frozen = false := by simp [letD]
  have e' : (sWhile wc3_spread wb3_spread [6, 7, 8, 9, 10] fu) [some l.d, some (letD lt), some (.int h), some (.tup false (fs.map oI)), some (.lst true (.int h :: fs.map oI)), some (.bl true), none, none, none, none, none]
      = some (.nx, [some l.d, some (letD lt), some (.int h), some (.tup false (fs.map oI)), some (.lst true (.int h :: r.map oI)), some (.bl false), none, none, none, none, none]) := e
  unfold m_spread
  rw [ev_fn]
  simp [b_spread, tupleD, listD, k1, k2, e', cut_tl, fl, hrl]
end K71

/-! k71: levels hour by hour, in the program. -/
namespace K71
open PySem PySem.Spec L2 MP

def rowD (F : Lv) : D := .tup false (F.map oI)
@[simp] theorem fz_row (F : Lv) : (rowD F).frozen = true := by simp [rowD]
@[simp] theorem frz_row (F : Lv) : (rowD F).frz = rowD F := frz_of_frozen _ (fz_row F)
@[simp] theorem fz_rows (Fs : List Lv) : frozenL (Fs.map rowD) = true := fzL_map _ fz_row _
theorem fm_filter {α β : Type} (p : α → Bool) (f : α → β) (xs : List α) : xs.filterMap (fun x => if p x = true then some (f x) else none) = (xs.filter p).map f := by
  induction xs with
  | nil => rfl
  | cons x xs ih =>
    rw [List.filterMap_cons, List.filter_cons]
    cases e : p x with
    | true => rw [if_pos rfl, if_pos rfl, List.map_cons, ih]
    | false => rw [if_neg Bool.false_ne_true, if_neg Bool.false_ne_true, ih]
theorem p_let (l : Ld) (pl : List Nat) (g : Nat → Nat) (hg : ∀ i, i ∉ pl → g i = 0) (k : Nat) (x1 x3 x4 x6 : Option D) :
    cL cg1_levels_from ct1_levels_from ce1_levels_from [8] ((List.range l.ss.length).map fun i => D.int (i : Nat)) [some l.d, x1, some (dctF pl g), x3, x4, some (.int (k : Nat)), x6, none, none]
      = some ((letOf l.ss.length g k).map fun i => D.int (i : Nat), [some l.d, x1, some (dctF pl g), x3, x4, some (.int (k : Nat)), x6, none, none]) := by
  have fd : (dctF pl g).frozen = false := by simp [dctF]
  rw [cL_fo (fun i : Nat => D.int (i : Nat)) (fun i => if decide (g i ≤ k) = true then some (D.int (i : Nat)) else none) _ fun i hi => ?_, fm_filter]
  · rfl
  · have h := p_passes pl g i k (hg i)
    by_cases c : g i ≤ k <;> simp [stepC, e_cg1_levels_from, e_ct1_levels_from, e_ce1_levels_from, h, c, fd]
theorem let_lt (m : Nat) (g : Nat → Nat) (k : Nat) : ∀ z ∈ letOf m g k, z < m := fun z hz => by
  unfold letOf at hz
  exact List.mem_range.mp (List.mem_filter.mp hz).1
theorem from_loop (l : Ld) (hl : LS l) (pl : List Nat) (g : Nat → Nat) (hg : ∀ i, i ∉ pl → g i = 0) (x1 : Option D) : ∀ (hs : List Int) (k : Nat) (fs : Lv) (acc : List Lv), Hok hs → Okl l.fs.length fs → acc.length + hs.length ≤ 1000 →
    ∃ x, sForL wg2_levels_from wb2_levels_from [5, 6, 7, 8] (enumD k (hs.map D.int)) [some l.d, x1, some (dctF pl g), some (.lst true (acc.map rowD)), some (rowD fs), none, none, none, none]
      = some (.nx, [some l.d, x1, some (dctF pl g), some (.lst true ((acc ++ rowsF l g k hs fs).map rowD)), x, none, none, none, none])
  | [], k, fs, acc, _, _, _ => ⟨_, by rw [rowsF, List.append_nil]; rfl⟩
  | h :: hs, k, fs, acc, hh, ok, ha => by
    have h0 := hh h List.mem_cons_self
    rw [List.length_cons] at ha
    have ok2 := hourF_ok (g := g) (k := k) ok h0
    obtain ⟨x, ih⟩ := from_loop l hl pl g hg x1 hs (k + 1) (hourF l g k h fs) (acc ++ [hourF l g k h fs]) (fun z hz => hh z (List.mem_cons_of_mem _ hz)) ok2 (by rw [List.length_append, List.length_singleton]; omega)
    refine ⟨x, ?_⟩
    have e0 : acc ++ rowsF l g k (h :: hs) fs = acc ++ [hourF l g k h fs] ++ rowsF l g (k + 1) hs (hourF l g k h fs) := by
      rw [rowsF, List.append_assoc]
      rfl
    rw [e0, ← ih, List.map_cons, enumD, ev_for1]
    have e1 := p_let l pl g hg k x1 (some (.lst true (acc.map rowD))) (some (rowD fs)) (some (.int h))
    have e2 := p_spread l hl (letOf l.ss.length g k) (let_lt _ g k) h h0 fs ok
    have e3 : (run l (letOf l.ss.length g k) (NL l) (some h :: fs)).tail = hourF l g k h fs := rfl
    rw [e3] at e2
    simp only [letD] at e2
    have e2' : m_spread [l.d, .lst true ((letOf l.ss.length g k).map fun i => D.int (i : Nat)), .int h, rowD fs] = some (rowD (hourF l g k h fs), [some l.d, some (.lst true ((letOf l.ss.length g k).map fun i => D.int (i : Nat))), some (.int h), some (rowD fs)]) := e2
    have k1 : (letOf l.ss.length g k).length ≤ 16777216 := by
      have : (letOf l.ss.length g k).length ≤ (List.range l.ss.length).length := List.length_filter_le _ _
      rw [List.length_range] at this
      have := hl.s1
      omega
    have k2 : acc.length ≤ 16777215 := by omega
    have rn := mk_rng l.ss.length (by have := hl.s1; omega)
    have rn' := rn
    rw [rng1] at rn'
    have fd : (dctF pl g).frozen = false := by simp [dctF]
    simp [e_wg2_levels_from, e_wb2_levels_from, backF, rn, -rng1, e1, e2', k1, k2, fd]
end K71

/-! k71: levels in the program. -/
namespace K71
open PySem PySem.Spec L2 MP

theorem enum_ints (hs : List Int) (b : Bool) : mkEnumA [.lst b (hs.map D.int)] = some (enumD 0 (hs.map D.int)) := by
  show (if frozenL (hs.map D.int) = true then some (enumD 0 (hs.map D.int)) else none) = _
  rw [fz_ints, if_pos rfl]
theorem nn_mul (n : Nat) (hn : n ≤ 1000) : mulDT (.lst true [.non]) (.int (n : Nat)) = some (.lst true ((List.replicate n none).map oI)) := by
  rw [mulDT, mulD]
  have h1 : (-(2 ^ 63) ≤ (n : Int) ∧ (n : Int) < 2 ^ 63) := by omega
  have h2 : lineOk ([D.non].length * (n : Int).toNat) = true := by
    unfold lineOk
    rw [decide_eq_true_eq, sizeLine_eq, List.length_singleton]
    omega
  rw [h2, decide_eq_true h1, if_pos (by rfl), Int.toNat_natCast]
  have h3 : (List.replicate n [D.non]).flatten = (List.replicate n none).map oI := by
    rw [List.map_replicate]
    show _ = List.replicate n D.non
    induction n with
    | zero => rfl
    | succ n ih =>
      rw [List.replicate_succ, List.replicate_succ, List.flatten_cons, ih (by omega) (by omega) (by
        unfold lineOk
        rw [decide_eq_true_eq, sizeLine_eq, List.length_singleton]
        omega)]
      rfl
  rw [h3]
  intro o xs m h
  cases h
theorem p_from (l : Ld) (hl : LS l) (pl : List Nat) (g : Nat → Nat) (hg : ∀ i, i ∉ pl → g i = 0) (b : Bool) (hs : List Int) (hh : Hok hs) (hn : hs.length ≤ 1000) :
    m_levels_from [l.d, .lst b (hs.map D.int), dctF pl g] = some (.lst true ((rows l g hs).map rowD), [some l.d, some (.lst b (hs.map D.int)), some (dctF pl g)]) := by
  have nn : mulDT (.lst true [.non]) (.int (l.fs.length : Nat)) = some (.lst true ((List.replicate l.fs.length none).map oI)) := by
    have h := nn_mul l.fs.length (by have := hl.f2; omega)
    exact h
  have fd : (dctF pl g).frozen = false := by simp [dctF]
  have k1 : l.fs.length ≤ 16777216 := by have := hl.f2; omega
  have wk : ∀ x1 : Option D, ∃ x, sForL wg2_levels_from wb2_levels_from [5, 6, 7, 8] (enumD 0 (hs.map D.int)) [some l.d, x1, some (dctF pl g), some (.lst true []), some (.tup false ((List.replicate l.fs.length none).map oI)), none, none, none, none]
      = some (.nx, [some l.d, x1, some (dctF pl g), some (.lst true ((rows l g hs).map rowD)), x, none, none, none, none]) := fun x1 => by
    have := from_loop l hl pl g hg x1 hs 0 (List.replicate l.fs.length none) [] hh (okl_none _) (by simp; omega)
    exact this
  unfold m_levels_from
  rw [ev_fn]
  cases b with
  | true =>
    obtain ⟨x, e⟩ := wk none
    simp [b_levels_from, nn, tupleD, k1, e, fd, enum_ints, -List.map_replicate]
  | false =>
    obtain ⟨x, e⟩ := wk (some (.lst false (hs.map D.int)))
    simp [b_levels_from, nn, tupleD, k1, e, fd, enum_ints, -List.map_replicate]
end K71

/-! k71: right plans, right storms. -/
namespace K71
open PySem PySem.Spec L2 MP

structure POk (l : Ld) (pl : List Nat) : Prop where
  up : pl.Pairwise (· < ·)
  has : ∀ k ∈ pl, ∃ s, l.ss[k]? = some s ∧ s.p ≠ none
theorem POk.lt {l : Ld} {pl : List Nat} (h : POk l pl) : ∀ k ∈ pl, k < l.ss.length := fun k hk => by
  obtain ⟨s, hs, _⟩ := h.has k hk
  exact (List.getElem?_eq_some_iff.mp hs).1
theorem POk.nd {l : Ld} {pl : List Nat} (h : POk l pl) : pl.Nodup := List.Pairwise.imp (fun a => Nat.ne_of_lt a) h.up
theorem nodup_len : ∀ (n : Nat) (pl : List Nat), pl.Nodup → (∀ k ∈ pl, k < n) → pl.length ≤ n
  | 0, [], _, _ => Nat.le_refl _
  | 0, k :: pl, _, h => absurd (h k List.mem_cons_self) (by omega)
  | n + 1, pl, hn, h => by
    have h1 := nodup_len n (pl.filter fun k => decide (k ≠ n)) (hn.filter _) fun k hk => by
      have := h k (List.mem_filter.mp hk).1
      have h2 := (List.mem_filter.mp hk).2
      simp at h2
      omega
    have h3 : pl.length ≤ (pl.filter fun k => decide (k ≠ n)).length + 1 := by
      clear h1 h
      induction pl with
      | nil => simp
      | cons k pl ih =>
        have hn2 := List.nodup_cons.mp hn
        by_cases e : k = n
        · subst e
          have : (pl.filter fun z => decide (z ≠ k)) = pl := List.filter_eq_self.mpr fun z hz => by
            have : z ≠ k := fun q => hn2.1 (q ▸ hz)
            simpa using this
          rw [List.filter_cons, if_neg (by simp), this]
          simp
        · have := ih hn2.2
          rw [List.filter_cons]
          simp [e]
          simp at this
          omega
    omega
theorem POk.len {l : Ld} {pl : List Nat} (h : POk l pl) : pl.length ≤ l.ss.length := nodup_len _ pl h.nd h.lt
theorem zip_tl : ∀ (pl : List Nat), pl.Pairwise (· < ·) → ∀ z ∈ pl.zip pl.tail, z.1 < z.2
  | [], _, z, hz => by cases hz
  | [a], _, z, hz => by cases hz
  | a :: b :: pl, h, z, hz => by
    rw [List.tail_cons, List.zip_cons_cons] at hz
    have h2 := List.pairwise_cons.mp h
    rcases List.mem_cons.mp hz with rfl | hz
    · exact h2.1 b List.mem_cons_self
    · exact zip_tl (b :: pl) h2.2 z hz
theorem cut_tl' (ds : List D) : cutD ds (some 1) none = ds.tail := by
  cases ds with
  | nil =>
    unfold cutD
    simp
  | cons x ds => exact cut_tl x ds
theorem all_bl {α : Type} (xs : List α) (o : Bool) (h : xs.length ≤ 16777216) : allD [.lst o (xs.map fun _ => D.bl true)] = some (.bl true) := by
  have e : (xs.map fun _ => D.bl true) = (xs.map fun _ => true).map D.bl := by rw [List.map_map]; rfl
  rw [e]
  simp [all_true, -List.map_map]
theorem p_rising {l : Ld} (hl : LS l) {pl : List Nat} (h : POk l pl) : m_is_rising [plD pl, .int (l.ss.length : Nat)] = some (.bl true, [some (plD pl), some (.int (l.ss.length : Nat))]) := by
  have hp := h.len
  have hs := hl.s1
  have c1 : ∀ x0 : Option D, cL cg1_is_rising ct1_is_rising ce1_is_rising [2] (pl.map fun i => D.int (i : Nat)) [x0, some (.int (l.ss.length : Nat)), none, none] = some (pl.map (fun _ => D.bl true), [x0, some (.int (l.ss.length : Nat)), none, none]) := fun x0 =>
    cL_of (fun i : Nat => D.int (i : Nat)) (fun _ => D.bl true) pl fun i hi => by
      have q := p_position (i : Nat) (l.ss.length : Nat)
      have a : (0 : Int) ≤ (i : Nat) := by omega
      have b : ((i : Nat) : Int) < (l.ss.length : Nat) := by have := h.lt i hi; omega
      rw [decide_eq_true a, decide_eq_true b] at q
      simp [stepC, e_cg1_is_rising, ct1_is_rising, e_ce1_is_rising, q]
  have c2 : cL cg2_is_rising ct2_is_rising ce2_is_rising [2, 3] (zipD (pl.map fun i => D.int (i : Nat)) (pl.tail.map fun i => D.int (i : Nat))) [some (plD pl), some (.int (l.ss.length : Nat)), none, none] = some ((pl.zip pl.tail).map (fun _ => D.bl true), [some (plD pl), some (.int (l.ss.length : Nat)), none, none]) := by
    rw [zip_map]
    refine cL_of (fun z : Nat × Nat => D.tup false [.int (z.1 : Nat), .int (z.2 : Nat)]) (fun _ => D.bl true) _ fun z hz => ?_
    have := zip_tl pl h.up z hz
    simp [stepC, e_cg2_is_rising, ct2_is_rising, e_ce2_is_rising, this]
  have k1 : pl.length ≤ 16777216 := by omega
  have k2 : (pl.zip pl.tail).length ≤ 16777216 := by rw [List.length_zip]; omega
  have a1 := all_bl pl true k1
  have a2 := all_bl (pl.zip pl.tail) true k2
  have t1 : (pl.map fun i => D.int (i : Nat)).tail = pl.tail.map fun i => D.int (i : Nat) := List.map_tail.symm
  have e0 : plD pl = .tup false (pl.map fun i => .int (i : Nat)) := rfl
  have fz2 : frozenL (pl.tail.map fun i => D.int (i : Nat)) = true := fzL_map _ (fun _ => rfl) _
  unfold m_is_rising
  rw [ev_fn]
  rw [e0] at c2 ⊢
  have zz : ∀ ds es : List D, frozenL ds = true → frozenL es = true → mkZipA [.tup false ds, .tup false es] = some (zipD ds es) := fun ds es h1 h2 => by
    show (if frozenL ds = true then (if frozenL es = true then some (zipD ds es) else none) else none) = _
    rw [h1, h2]
    rfl
  have k3 : pl.length ≤ 16777217 := by omega
  simp [b_is_rising, backF, isB, c1, c2, k1, k2, k3, a1, a2, cut_tl', t1, zz, fz2, -List.map_tail]
theorem p_plan_of {l : Ld} (hl : LS l) {pl : List Nat} (h : POk l pl) : m_is_plan_of [l.d, plD pl] = some (.bl true, [some l.d, some (plD pl)]) := by
  have hp := h.len
  have hs := hl.s1
  have h1 := p_rising hl h
  have c1 : cL cg1_is_plan_of ct1_is_plan_of ce1_is_plan_of [2] (pl.map fun i => D.int (i : Nat)) [some l.d, some (plD pl), none] = some (pl.map (fun _ => D.bl true), [some l.d, some (plD pl), none]) :=
    cL_of (fun i : Nat => D.int (i : Nat)) (fun _ => D.bl true) pl fun i hi => by
      obtain ⟨s, hs, hp⟩ := h.has i hi
      obtain ⟨q, hq⟩ := Option.ne_none_iff_exists'.mp hp
      simp [stepC, e_cg1_is_plan_of, ct1_is_plan_of, e_ce1_is_plan_of, atI_nat', hs, Sr.d, hq, oI]
  have k1 : pl.length ≤ 16777216 := by omega
  have a1 := all_bl pl true k1
  have e0 : plD pl = .tup false (pl.map fun i => .int (i : Nat)) := rfl
  unfold m_is_plan_of
  rw [ev_fn]
  rw [e0] at c1 h1 ⊢
  simp [b_is_plan_of, backF, isB, h1, c1, k1, a1]
theorem p_check_plan {l : Ld} (hl : LS l) {pl : List Nat} (h : POk l pl) : m_check_plan [l.d, plD pl] = some (.non, [some l.d, some (plD pl)]) := by
  have h1 := p_plan_of hl h
  unfold m_check_plan
  rw [ev_fn]
  simp [b_check_plan, h1]
/-- the stretches that are gone -/
def gns (st : List Stp) : List Nat := st.filterMap fun s => if s.h = false then some s.n else none
structure SOk (pl : List Nat) (st : List Stp) : Prop where
  len : st.length ≤ 100
  hrs : (hts st).length ≤ 48
  gn : ∀ s ∈ st, s.h = false → s.n ∈ pl
  ht : ∀ s ∈ st, s.h = true → s.n ≤ 1000
  nd : (gns st).Nodup
theorem in_ints (p : Int) (o : Bool) (xs : List Int) : inD (.int p) (.tup o (xs.map D.int)) = some (.bl (decide (p ∈ xs))) := by
  have h1 : okIn (.int p) (xs.map D.int) = true := by
    unfold okIn
    rw [List.all_map]
    simp [D.flat]
  have h2 : inF (.int p) (xs.map D.int) = decide (p ∈ xs) := by
    unfold inF inV
    rw [List.map_map, List.any_map, Bool.eq_iff_iff, List.any_eq_true, decide_eq_true_eq]
    constructor
    · rintro ⟨y, h, e⟩
      have e : (y == p) = true := e
      rw [beq_iff_eq] at e
      rw [← e]
      exact h
    · exact fun h => ⟨p, h, by show (p == p) = true; simp⟩
  show (if okIn (.int p) (xs.map D.int) = true then some (D.bl (inF (.int p) (xs.map D.int))) else none) = _
  rw [if_pos h1, h2]
theorem in_intsL (p : Int) (o : Bool) (xs : List Int) : inD (.int p) (.lst o (xs.map D.int)) = some (.bl (decide (p ∈ xs))) := by
  have h1 : okIn (.int p) (xs.map D.int) = true := by
    unfold okIn
    rw [List.all_map]
    simp [D.flat]
  have h2 : inF (.int p) (xs.map D.int) = decide (p ∈ xs) := by
    unfold inF inV
    rw [List.map_map, List.any_map, Bool.eq_iff_iff, List.any_eq_true, decide_eq_true_eq]
    constructor
    · rintro ⟨y, h, e⟩
      have e : (y == p) = true := e
      rw [beq_iff_eq] at e
      rw [← e]
      exact h
    · exact fun h => ⟨p, h, by show (p == p) = true; simp⟩
  show (if okIn (.int p) (xs.map D.int) = true then some (D.bl (inF (.int p) (xs.map D.int))) else if (okP (.int p) && okP (.lst true (xs.map D.int))) = true then some (D.bl ((xs.map D.int).any fun z => PyData.eqv z.toP (D.int p).toP)) else none) = _
  rw [if_pos h1, h2]
theorem in_nats (p : Nat) (pl : List Nat) : inD (.int (p : Nat)) (plD pl) = some (.bl (decide (p ∈ pl))) := by
  have h := in_ints (p : Nat) false (pl.map fun i => ((i : Nat) : Int))
  rw [List.map_map] at h
  have e : decide (((p : Nat) : Int) ∈ pl.map fun i => ((i : Nat) : Int)) = decide (p ∈ pl) := by
    rw [Bool.eq_iff_iff, decide_eq_true_eq, decide_eq_true_eq, List.mem_map]
    constructor
    · rintro ⟨x, hx, e⟩
      have : x = p := by omega
      exact this ▸ hx
    · exact fun h => ⟨p, h, rfl⟩
  rw [e] at h
  exact h
theorem p_step {l : Ld} (hl : LS l) {pl : List Nat} (h : POk l pl) (s : Stp) (h1 : s.h = false → s.n ∈ pl) (h2 : s.h = true → s.n ≤ 1000) : m_is_step [plD pl, s.d] = some (.bl true, [some (plD pl), some s.d]) := by
  unfold m_is_step
  rw [ev_fn]
  cases e : s.h with
  | true =>
    have := p_between (s.n : Nat) 0 1000
    have a : (0 : Int) ≤ (s.n : Nat) := by omega
    have b : ((s.n : Nat) : Int) ≤ 1000 := by have := h2 e; omega
    rw [decide_eq_true a, decide_eq_true b] at this
    simp [b_is_step, isB, e, this]
  | false =>
    have hm := h1 e
    have := p_position (s.n : Nat) 1000
    have a : (0 : Int) ≤ (s.n : Nat) := by omega
    have b : ((s.n : Nat) : Int) < 1000 := by have := h.lt _ hm; have := hl.s1; omega
    rw [decide_eq_true a, decide_eq_true b] at this
    have q := in_nats s.n pl
    simp [b_is_step, isB, e, this, q, hm]
theorem split_len (st : List Stp) : st.length = (hts st).length + (gns st).length := by
  induction st with
  | nil => rfl
  | cons s st ih =>
    unfold hts gns at *
    rw [List.filterMap_cons, List.filterMap_cons]
    cases s.h <;> simp <;> omega
theorem p_storm {l : Ld} (hl : LS l) {pl : List Nat} (h : POk l pl) {st : List Stp} (hs : SOk pl st) (x : D) (hx : IsSt x st) : m_is_storm [plD pl, x] = some (.bl true, [some (plD pl), some x]) := by
  have c1 : ∀ x1 : Option D, cL cg1_is_storm ct1_is_storm ce1_is_storm [3] (st.map Stp.d) [some (plD pl), x1, none, none] = some (st.map (fun _ => D.bl true), [some (plD pl), x1, none, none]) := fun x1 =>
    cL_of Stp.d (fun _ => D.bl true) st fun s hm => by
      have q := p_step hl h s (hs.gn s hm) (hs.ht s hm)
      simp [stepC, e_cg1_is_storm, ct1_is_storm, e_ce1_is_storm, q]
  have c2 : ∀ x1 : Option D, cL cg2_is_storm ct2_is_storm ce2_is_storm [3] (st.map Stp.d) [some (plD pl), x1, none, none] = some ((gns st).map fun i => D.int (i : Nat), [some (plD pl), x1, none, none]) := fun x1 => by
    rw [cL_fo _ (fun s => if s.h = false then some (D.int ((s.n : Nat) : Int)) else none) _ fun s hs => ?_]
    · unfold gns
      rw [List.map_filterMap]
      refine congrArg (fun q => some (List.filterMap q st, _)) (funext fun z => ?_)
      split <;> rfl
    · cases e : s.h <;> simp [stepC, e_cg2_is_storm, e_ct2_is_storm, e_ce2_is_storm, e]
  have hlen := hs.len
  have k1 : st.length ≤ 16777216 := by omega
  have k0 : ¬ (100 : Int) < (st.length : Nat) := by omega
  have a1 := all_bl st true k1
  have gl : (gns st).length ≤ st.length := List.length_filterMap_le _ _
  have k2 : (gns st).length ≤ 16777216 := by omega
  have k3 : ((st.length : Nat) : Int) - ((gns st).length : Nat) ≤ 48 := by
    have e := split_len st
    have := hs.hrs
    omega
  have eL : intsOfD ((gns st).map fun i => D.int (i : Nat)) = some ((gns st).map fun i => ((i : Nat) : Int)) := by
    have := intsOfD_map ((gns st).map fun i => ((i : Nat) : Int))
    rw [List.map_map] at this
    exact this
  have nd : ((gns st).map fun i => ((i : Nat) : Int)).Nodup := by
    unfold List.Nodup
    rw [List.pairwise_map]
    exact List.Pairwise.imp (fun h e => h (by omega)) hs.nd
  have gl64 : (gns st).length < 64 := by
    have h2 : (gns st).length ≤ l.ss.length := by
      refine nodup_len _ _ hs.nd fun k hk => ?_
      unfold gns at hk
      obtain ⟨s, hm, e⟩ := List.mem_filterMap.mp hk
      split at e
      · rename_i q
        cases e
        exact h.lt _ (hs.gn s hm q)
      · cases e
    have := hl.s1
    omega
  have hI : lenSetI (.lst true ((gns st).map fun i => D.int (i : Nat))) = some (.int ((gns st).length : Nat)) := by
    show (match intsOfD ((gns st).map fun i => D.int (i : Nat)) with | some xs => if xs.length < 64 then (if xs.Nodup then some (D.int xs.length) else none) else none | none => none) = _
    rw [eL]
    show (if ((gns st).map fun i => ((i : Nat) : Int)).length < 64 then _ else none) = _
    rw [List.length_map, if_pos gl64, if_pos nd]
  have hD : lenSetD (.lst true ((gns st).map fun i => D.int (i : Nat))) = none ∨ lenSetD (.lst true ((gns st).map fun i => D.int (i : Nat))) = some (.int ((gns st).length : Nat)) := by
    cases gns st with
    | nil => exact .inr rfl
    | cons a r => exact .inl rfl
  unfold m_is_storm
  rw [ev_fn]
  have p1 : ∀ b ds, m_is_list [.lst b ds] = some (.bl true, [some (.lst b ds)]) := fun b ds => by
    unfold m_is_list
    rw [ev_fn]
    cases q : (!b && frozenL ds) <;> simp [b_is_list, q]
  have p2 : ∀ ds, m_is_list [.tup false ds] = some (.bl true, [some (.tup false ds)]) := fun ds => by
    unfold m_is_list
    rw [ev_fn]
    cases q : (frozenL ds) <;> simp [b_is_list, q]
  rcases hD with hD | hD <;> rcases hx with rfl | rfl | rfl <;> simp [b_is_storm, backF, c1, c2, k0, k1, k2, k3, a1, hI, hD, p1, p2]
theorem p_check_storm {l : Ld} (hl : LOk l) {pl : List Nat} (h : POk l pl) {st : List Stp} (hs : SOk pl st) (x : D) (hx : IsSt x st) : m_check_storm [l.d, plD pl, x] = some (.non, [some l.d, some (plD pl), some x]) := by
  have h1 := l_check hl
  have h2 := p_check_plan hl.toLS h
  have h3 := p_storm hl.toLS h hs x hx
  unfold m_check_storm
  rw [ev_fn]
  cases q : x.frozen <;> simp [b_check_storm, h1, h2, h3, q]
end K71

/-! k71: what the program answers: heights, levels, what is gone, first hours. -/
namespace K71
open PySem PySem.Spec L2 MP

theorem gF_at : ∀ (st : List Stp) (f f' : Nat → Nat) (k i : Nat), f i = f' i → gF f k st i = gF f' k st i
  | [], f, f', k, i, h => h
  | s :: st, f, f', k, i, h => by
    rw [gF, gF]
    split
    · exact gF_at st f f' (k + 1) i h
    · exact gF_at st _ _ k i (by
        show (if i = s.n then k else f i) = if i = s.n then k else f' i
        rw [h])
theorem gF_out : ∀ (st : List Stp) (f : Nat → Nat) (k i : Nat), (∀ s ∈ st, s.h = false → s.n ≠ i) → gF f k st i = f i
  | [], f, k, i, h => rfl
  | s :: st, f, k, i, h => by
    rw [gF]
    split
    · exact gF_out st f (k + 1) i fun z hz => h z (List.mem_cons_of_mem _ hz)
    · rename_i e
      rw [gF_out st _ k i fun z hz => h z (List.mem_cons_of_mem _ hz)]
      have := h s List.mem_cons_self (by simpa using e)
      rw [if_neg fun q => this q.symm]
theorem gN_out {pl : List Nat} {st : List Stp} (h : SOk pl st) (i : Nat) (hi : i ∉ pl) : gN pl st i = 0 := by
  unfold gN
  rw [gF_out st _ 0 i fun s hs e q => hi (q ▸ h.gn s hs e)]
  unfold f0
  rw [if_neg hi]
theorem hts_ok {pl : List Nat} {st : List Stp} (h : SOk pl st) : Hok (hts st) := fun a ha => by
  unfold hts at ha
  obtain ⟨s, hm, e⟩ := List.mem_filterMap.mp ha
  split at e
  · rename_i q
    cases e
    have := h.ht s hm q
    omega
  · cases e
section
variable {l : Ld} (hl : LOk l) {pl : List Nat} (hp : POk l pl) {st : List Stp} (hs : SOk pl st) (x : D) (hx : IsSt x st)
include hl hp hs hx
theorem p_heights_of : m_heights_of [l.d, plD pl, x] = some (.lst true ((hts st).map D.int), [some l.d, some (plD pl), some x]) := by
  have h1 := p_check_storm hl hp hs x hx
  have h2 := p_heights x st hx (by have := hs.len; omega)
  unfold m_heights_of
  rw [ev_fn]
  cases q : x.frozen <;> simp [b_heights_of, h1, h2, q]
theorem p_levels_by : m_levels_by [l.d, plD pl, x] = some (.lst true ((rows l (gN pl st) (hts st)).map rowD), [some l.d, some (plD pl), some x]) := by
  have h2 := p_heights x st hx (by have := hs.len; omega)
  have h3 := p_hours x pl st hx (by have := hs.len; omega) hp.nd (by have := hp.len; have := hl.s1; omega) hs.gn
  have h4 := p_from l hl.toLS pl (gN pl st) (gN_out hs) true (hts st) (hts_ok hs) (by have := hs.hrs; omega)
  have fd : (dctF pl (gN pl st)).frozen = false := by simp [dctF]
  unfold m_levels_by
  rw [ev_fn]
  cases q : x.frozen <;> simp [b_levels_by, h2, h3, h4, q, fd]
theorem p_levels : m_levels [l.d, plD pl, x] = some (.lst true ((rows l (gN pl st) (hts st)).map rowD), [some l.d, some (plD pl), some x]) := by
  have h1 := p_check_storm hl hp hs x hx
  have h2 := p_levels_by hl hp hs x hx
  unfold m_levels
  rw [ev_fn]
  cases q : x.frozen <;> simp [b_levels, h1, h2, q]
theorem p_check_hour (k : Nat) (hk : k < (hts st).length) : m_check_hour [x, .int (k : Nat)] = some (.non, [some x, some (.int (k : Nat))]) := by
  have h2 := p_heights x st hx (by have := hs.len; omega)
  have h3 := p_position (k : Nat) ((hts st).length : Nat)
  have a : (0 : Int) ≤ (k : Nat) := by omega
  have b : ((k : Nat) : Int) < ((hts st).length : Nat) := by omega
  rw [decide_eq_true a, decide_eq_true b] at h3
  unfold m_check_hour
  rw [ev_fn]
  cases q : x.frozen <;> simp [b_check_hour, h2, h3, q]
end
/-! ### sorted items -/
theorem isortB_id {α : Type} {lt : α → α → Bool} (O : SrtO.Swo lt) : ∀ (xs : List α), xs.Pairwise (fun a b => lt a b = true) → isortB lt xs = xs
  | [], _ => rfl
  | [x], _ => rfl
  | x :: y :: r, h => by
    obtain ⟨h1, h2⟩ := List.pairwise_cons.mp h
    rw [isortB, isortB_id O (y :: r) h2, insB, O.asym x y (h1 y List.mem_cons_self)]
    rfl
def prD (g : Nat → Nat) (i : Nat) : D := .tup false [.int (i : Nat), .int (g i : Nat)]
theorem pairs_map (pl : List Nat) (g : Nat → Nat) : pairsK (pl.map kI) (pl.map fun i => D.int (g i : Nat)) = pl.map (prD g) := by
  unfold pairsK
  induction pl with
  | nil => rfl
  | cons i pl ih =>
    rw [List.map_cons, List.map_cons, List.zip_cons_cons, List.map_cons, ih]
    rfl
theorem sort_it {pl : List Nat} (g : Nat → Nat) (h : pl.Pairwise (· < ·)) : sortItD (dctF pl g) = some (.lst true (pl.map (prD g))) := by
  show (if frozenL (pl.map fun i => D.int (g i : Nat)) = true then (if (pairsK (pl.map kI) (pl.map fun i => D.int (g i : Nat))).all (okTup (tupShape (pairsK (pl.map kI) (pl.map fun i => D.int (g i : Nat))))) = true then some (D.lst true (isortB ltTD (pairsK (pl.map kI) (pl.map fun i => D.int (g i : Nat))))) else none) else none) = _
  rw [fz_nats, if_pos rfl, pairs_map]
  have e1 : (pl.map (prD g)).all (okTup (tupShape (pl.map (prD g)))) = true := by
    cases pl with
    | nil => rfl
    | cons i pl =>
      rw [List.all_eq_true]
      intro d hd
      obtain ⟨j, _, rfl⟩ := List.mem_map.mp hd
      rfl
  rw [e1, if_pos rfl]
  have O : SrtO.Swo ltTD := kLt_swo keyTD
  rw [isortB_id O]
  rw [List.pairwise_map]
  refine List.Pairwise.imp (fun {a b} hab => ?_) h
  show PyProof.Rows.lexLt PyProof.Rows.itemOrd [Sum.inl ((a : Nat) : Int), Sum.inl ((g a : Nat) : Int)] [Sum.inl ((b : Nat) : Int), Sum.inl ((g b : Nat) : Int)] = true
  rw [PyProof.Rows.lex_true]
  left
  show decide (((a : Nat) : Int) < (b : Nat)) = true
  rw [decide_eq_true_eq]
  omega
section
variable {l : Ld} (hl : LOk l) {pl : List Nat} (hp : POk l pl) {st : List Stp} (hs : SOk pl st) (x : D) (hx : IsSt x st)
include hl hp hs hx
theorem p_gone_by (k : Nat) (hk : k < (hts st).length) : m_gone_by [l.d, plD pl, x, .int (k : Nat)] = some (plD (pl.filter fun i => decide (gN pl st i ≤ k)), [some l.d, some (plD pl), some x, some (.int (k : Nat))]) := by
  have h1 := p_check_storm hl hp hs x hx
  have h2 := p_check_hour hl hp hs x hx k hk
  have h3 := p_hours x pl st hx (by have := hs.len; omega) hp.nd (by have := hp.len; have := hl.s1; omega) hs.gn
  have h4 := sort_it (gN pl st) hp.up
  have c1 : cL cg1_gone_by ct1_gone_by ce1_gone_by [4, 5] (pl.map (prD (gN pl st))) [some l.d, some (plD pl), some x, some (.int (k : Nat)), none, none] = some ((pl.filter fun i => decide (gN pl st i ≤ k)).map fun i => D.int (i : Nat), [some l.d, some (plD pl), some x, some (.int (k : Nat)), none, none]) := by
    rw [cL_fo (prD (gN pl st)) (fun i => if decide (gN pl st i ≤ k) = true then some (D.int (i : Nat)) else none) _ fun i hi => ?_, fm_filter]
    by_cases c : gN pl st i ≤ k <;> simp [stepC, prD, e_cg1_gone_by, e_ct1_gone_by, e_ce1_gone_by, c]
  have k1 : (pl.filter fun i => decide (gN pl st i ≤ k)).length ≤ 16777216 := by
    have : (pl.filter fun i => decide (gN pl st i ≤ k)).length ≤ pl.length := List.length_filter_le _ _
    have := hp.len
    have := hl.s1
    omega
  have fz : frozenL (pl.map (prD (gN pl st))) = true := fzL_map _ (fun _ => rfl) _
  unfold m_gone_by
  rw [ev_fn]
  cases q : x.frozen <;> simp [b_gone_by, backF, h1, h2, h3, h4, c1, q, k1, fz, tupleD] <;> rfl
end
end K71

/-! k71: first hours. -/
namespace K71
open PySem PySem.Spec L2 MP

theorem ne_nilN (xs : List Nat) (o p : Bool) : neE (.lst o (xs.map fun i => D.int (i : Nat))) (.lst p []) = some (.bl (!xs.isEmpty)) := by
  have h : EPL 0 (xs.map fun i => D.int (i : Nat)) := EPL.all fun d hd => by
    obtain ⟨i, _, rfl⟩ := List.mem_map.mp hd
    exact .int _
  refine (ne_shape (eq_lst h .nil (by decide))).trans ?_
  cases xs with
  | nil => simp [toPL, PyData.eqvAll]
  | cons x xs => simp [toPL, PyData.eqvAll]
/-- the hours at which a field has at least a level -/
def fsts (rs : List Lv) (j : Nat) (v : Int) : List Nat := rs.zipIdx.filterMap fun z => if up (gt z.1 j) (some v) = false then some z.2 else none
def headD : List Nat → D
  | [] => .non
  | i :: _ => .int (i : Nat)
theorem ix_row (F : Lv) (i : Nat) (h : i < F.length) : ixD (rowD F) (.int (i : Nat)) = some (oI (gt F i)) := by
  have e : (F.map oI)[i]? = some (oI (gt F i)) := by
    rw [List.getElem?_map, gt_some h]
    rfl
  unfold rowD
  simp [atI_nat', e]
theorem enum_rows (rs : List Lv) (b : Bool) : mkEnumA [.lst b (rs.map rowD)] = some (rs.zipIdx.map fun z => D.tup false [.int (z.2 : Nat), rowD z.1]) := by
  show (if frozenL (rs.map rowD) = true then some (enumD 0 (rs.map rowD)) else none) = _
  rw [fz_rows, if_pos rfl, enum_map]
theorem fsts_map (rs : List Lv) (j : Nat) (v : Int) : rs.zipIdx.filterMap (fun z => if up (gt z.1 j) (some v) = false then some (D.int (z.2 : Nat)) else none) = (fsts rs j v).map fun i => D.int (i : Nat) := by
  unfold fsts
  rw [List.map_filterMap]
  refine congrArg (fun q => List.filterMap q rs.zipIdx) (funext fun z => ?_)
  split <;> rfl
theorem fsts_le (rs : List Lv) (j : Nat) (v : Int) : (fsts rs j v).length ≤ rs.length := by
  have : (fsts rs j v).length ≤ rs.zipIdx.length := List.length_filterMap_le _ _
  rw [List.length_zipIdx] at this
  exact this
theorem mem_zi {α : Type} {xs : List α} {z : α × Nat} (h : z ∈ xs.zipIdx) : z.1 ∈ xs := by
  have := List.mem_zipIdx' h
  rw [this.2]
  exact List.getElem_mem _
theorem q_first (rs : List Lv) (n j : Nat) (hj : j < n) (hr : ∀ r ∈ rs, r.length = n) (hl : rs.length ≤ 1000) (v : Int) (b : Bool) :
    m__law_first [.lst b (rs.map rowD), .int (1 + (j : Nat)), .int v] = some (headD (fsts rs j v), [some (.lst b (rs.map rowD)), some (.int (1 + (j : Nat))), some (.int v)]) := by
  have c1 : ∀ x0 : Option D, cL cg1__law_first ct1__law_first ce1__law_first [4, 5] (enumD 0 (rs.map rowD)) [x0, some (.int (1 + (j : Nat))), some (.int v), none, none, none] = some ((fsts rs j v).map fun i => D.int (i : Nat), [x0, some (.int (1 + (j : Nat))), some (.int v), none, none, none]) := fun x0 => by
    rw [enum_map, cL_fo (fun z : Lv × Nat => D.tup false [.int (z.2 : Nat), rowD z.1]) (fun z => if up (gt z.1 j) (some v) = false then some (D.int (z.2 : Nat)) else none) _ fun z hz => ?_, fsts_map]
    have e : (1 : Int) + (j : Nat) - 1 = (j : Nat) := by omega
    have h1 := ix_row z.1 j (by rw [hr _ (mem_zi hz)]; exact hj)
    cases q : gt z.1 j with
    | none => simp [stepC, e_cg1__law_first, e_ct1__law_first, e_ce1__law_first, e, h1, q, oI, up]
    | some a =>
      by_cases c : a < v
      · have c' : ¬ v ≤ a := by omega
        simp [stepC, e_cg1__law_first, e_ct1__law_first, e_ce1__law_first, e, h1, q, oI, up, c, c']
      · have c' : v ≤ a := by omega
        simp [stepC, e_cg1__law_first, e_ct1__law_first, e_ce1__law_first, e, h1, q, oI, up, c, c']
  have k1 : (fsts rs j v).length ≤ 16777216 := by have := fsts_le rs j v; omega
  have nn := fun o p => ne_nilN (fsts rs j v) o p
  unfold m__law_first
  rw [ev_fn]
  cases b with
  | true =>
    cases q : fsts rs j v with
    | nil =>
      rw [q] at nn c1 k1
      simp only [List.map_cons, List.map_nil] at nn
      simp [b__law_first, backF, c1, nn, headD]
    | cons i r =>
      rw [q] at nn c1 k1
      simp only [List.map_cons, List.map_nil] at nn
      have k2 : r.length ≤ 16777215 := by rw [List.length_cons] at k1; omega
      simp [b__law_first, backF, c1, nn, headD, k2]
  | false =>
    cases q : fsts rs j v with
    | nil =>
      rw [q] at nn c1 k1
      simp only [List.map_cons, List.map_nil] at nn
      simp [b__law_first, backF, c1, nn, headD]
    | cons i r =>
      rw [q] at nn c1 k1
      simp only [List.map_cons, List.map_nil] at nn
      have k2 : r.length ≤ 16777215 := by rw [List.length_cons] at k1; omega
      simp [b__law_first, backF, c1, nn, headD, k2]
theorem p_first_hour {l : Ld} (hl : LOk l) {pl : List Nat} (hp : POk l pl) {st : List Stp} (hs : SOk pl st) (x : D) (hx : IsSt x st) (j : Nat) (hj : j < l.fs.length) (v : Nat) (hv : v ≤ 1000) :
    m_first_hour [l.d, plD pl, x, .int (1 + (j : Nat)), .int (v : Nat)] = some (headD (fsts (rows l (gN pl st) (hts st)) j v), [some l.d, some (plD pl), some x, some (.int (1 + (j : Nat))), some (.int (v : Nat))]) := by
  have h1 := p_check_storm hl hp hs x hx
  have h2 := p_levels_by hl hp hs x hx
  have h3 : m_check_field [l.d, .int (1 + (j : Nat))] = some (.non, [some l.d, some (.int (1 + (j : Nat)))]) := by
    have a := p_position (1 + (j : Nat)) ((l.fs.length : Nat) + 1 : Int)
    have b := p_many l
    have c1 : (0 : Int) ≤ 1 + (j : Nat) := by omega
    have c2 : (1 : Int) + (j : Nat) < (l.fs.length : Nat) + 1 := by omega
    rw [decide_eq_true c1, decide_eq_true c2] at a
    have c : m_check_place [l.d, .int (1 + (j : Nat))] = some (.non, [some l.d, some (.int (1 + (j : Nat)))]) := by
      unfold m_check_place
      rw [ev_fn]
      simp [b_check_place, a, b]
    have n0 : ((1 : Int) + (j : Nat) == 0) = false := beq_eq_false_iff_ne.mpr (by omega)
    unfold m_check_field
    rw [ev_fn]
    simp [b_check_field, c, n0]
  have h4 : m_check_level [.int (v : Nat)] = some (.non, [some (.int (v : Nat))]) := by
    have a := p_between (v : Nat) 0 1000
    have c1 : (0 : Int) ≤ (v : Nat) := by omega
    have c2 : ((v : Nat) : Int) ≤ 1000 := by omega
    rw [decide_eq_true c1, decide_eq_true c2] at a
    unfold m_check_level
    rw [ev_fn]
    simp [b_check_level, a]
  generalize hrs : rows l (gN pl st) (hts st) = rs at h2 ⊢
  have hr : ∀ r ∈ rs, r.length = l.fs.length := fun r hm => by
    rw [← hrs] at hm
    exact (rowsF_ok (hts st) 0 _ (hts_ok hs) (okl_none _) r hm).len
  have hrl : rs.length ≤ 1000 := by
    rw [← hrs]
    have := rowsF_len (l := l) (g := gN pl st) (hts st) 0 (List.replicate l.fs.length none)
    have h5 := hs.hrs
    show (rowsF l (gN pl st) 0 (hts st) _).length ≤ 1000
    omega
  have c1 : ∀ x6 : Option D, cL cg1_first_hour ct1_first_hour ce1_first_hour [7, 8] (enumD 0 (rs.map rowD)) [some l.d, some (plD pl), some x, some (.int (1 + (j : Nat))), some (.int (v : Nat)), none, x6, none, none] = some ((fsts rs j v).map fun i => D.int (i : Nat), [some l.d, some (plD pl), some x, some (.int (1 + (j : Nat))), some (.int (v : Nat)), none, x6, none, none]) := fun x6 => by
    rw [enum_map, cL_fo (fun z : Lv × Nat => D.tup false [.int (z.2 : Nat), rowD z.1]) (fun z => if up (gt z.1 j) (some ((v : Nat) : Int)) = false then some (D.int (z.2 : Nat)) else none) _ fun z hz => ?_, fsts_map]
    have e : (1 : Int) + (j : Nat) - 1 = (j : Nat) := by omega
    have h1 := ix_row z.1 j (by rw [hr _ (mem_zi hz)]; exact hj)
    have h5 : m_is_less [oI (gt z.1 j), .int (v : Nat)] = some (.bl (up (gt z.1 j) (some ((v : Nat) : Int))), [some (oI (gt z.1 j)), some (.int (v : Nat))]) := p_less (gt z.1 j) (some ((v : Nat) : Int))
    cases q : up (gt z.1 j) (some ((v : Nat) : Int)) <;> simp [stepC, e_cg1_first_hour, e_ct1_first_hour, e_ce1_first_hour, e, h1, h5, q]
  have k1 : (fsts rs j v).length ≤ 16777216 := by have := fsts_le rs j v; omega
  have nn := fun o p => ne_nilN (fsts rs j v) o p
  unfold m_first_hour
  rw [ev_fn]
  cases f : fsts rs j v with
  | nil =>
    rw [f] at nn c1 k1
    simp only [List.map_cons, List.map_nil] at nn
    cases q : x.frozen <;> simp [b_first_hour, backF, h1, h2, h3, h4, c1, nn, headD, q]
  | cons i r =>
    rw [f] at nn c1 k1
    simp only [List.map_cons, List.map_nil] at nn
    have k2 : r.length ≤ 16777215 := by rw [List.length_cons] at k1; omega
    cases q : x.frozen <;> simp [b_first_hour, backF, h1, h2, h3, h4, c1, nn, headD, k2, q]
end K71

/-! k71: hours in the law. -/
namespace K71
open PySem PySem.Spec L2 MP

theorem ni_nats (p : Nat) (pl : List Nat) : notInD (.int (p : Nat)) (plD pl) = some (.bl (!decide (p ∈ pl))) := by
  unfold notInD
  rw [in_nats]
def gL (m : Nat) (g : Nat → Nat) : List D := (List.range m).map fun i => .int (g i : Nat)
@[simp] theorem fz_gL (m : Nat) (g : Nat → Nat) : frozenL (gL m g) = true := fzL_map _ (fun _ => rfl) _
@[simp] theorem len_gL (m : Nat) (g : Nat → Nat) : (gL m g).length = m := by simp [gL]
theorem gL_at (m : Nat) (g : Nat → Nat) (i : Nat) (h : i < m) : (gL m g)[i]? = some (.int (g i : Nat)) := by
  unfold gL
  rw [List.getElem?_map, List.getElem?_range h]
  rfl
theorem gL_set (m : Nat) (g : Nat → Nat) (j k : Nat) : (gL m g).set j (.int (k : Nat)) = gL m fun i => if i = j then k else g i := by
  apply List.ext_getElem?
  intro i
  rw [List.getElem?_set]
  by_cases hi : i < m
  · rw [gL_at m g i hi, gL_at m (fun i => if i = j then k else g i) i hi, len_gL]
    by_cases e : j = i
    · rw [if_pos e, if_pos (by omega), if_pos e.symm]
    · rw [if_neg e, if_neg fun q => e q.symm]
  · have h1 : (gL m fun i => if i = j then k else g i)[i]? = none := List.getElem?_eq_none (by rw [len_gL]; omega)
    have h2 : (gL m g)[i]? = none := List.getElem?_eq_none (by rw [len_gL]; omega)
    rw [h1, h2]
    split
    · rename_i e
      rw [len_gL, if_neg (by omega)]
    · rfl
theorem lawh_loop (m : Nat) (x0 x1 x2 x3 : Option D) : ∀ (st : List Stp) (k : Nat) (f : Nat → Nat), (∀ s ∈ st, s.h = false → s.n < m) → k + st.length ≤ 1000 →
    ∃ k', sForL wg2__law_hours wb2__law_hours [6, 7] (st.map Stp.d) [x0, x1, x2, x3, some (.lst true (gL m f)), some (.int (k : Nat)), none, none, none] = some (.nx, [x0, x1, x2, x3, some (.lst true (gL m (gF f k st))), some (.int (k' : Nat)), none, none, none])
  | [], k, f, _, _ => ⟨k, rfl⟩
  | s :: st, k, f, hs, hk => by
    rw [List.length_cons] at hk
    rw [List.map_cons, ev_for1]
    have sd : s.d = .tup false [.str (S (wd s.h)), .int (s.n : Nat)] := rfl
    cases e : s.h with
    | true =>
      obtain ⟨k', ih⟩ := lawh_loop m x0 x1 x2 x3 st (k + 1) f (fun z hz => hs z (List.mem_cons_of_mem _ hz)) (by omega)
      refine ⟨k', ?_⟩
      have e2 : gF f k (s :: st) = gF f (k + 1) st := by rw [gF, e, if_pos rfl]
      rw [e2, ← ih]
      have e3 : (((k + 1 : Nat)) : Int) = (k : Nat) + 1 := by omega
      simp [sd, e, e_wg2__law_hours, e_wb2__law_hours, e3]
    | false =>
      have hm := hs s List.mem_cons_self e
      obtain ⟨k', ih⟩ := lawh_loop m x0 x1 x2 x3 st k (fun i => if i = s.n then k else f i) (fun z hz => hs z (List.mem_cons_of_mem _ hz)) (by omega)
      refine ⟨k', ?_⟩
      have e2 : gF f k (s :: st) = gF (fun i => if i = s.n then k else f i) k st := by
        rw [gF, e]
        rfl
      rw [e2, ← ih]
      have dp := gL_set m f s.n k
      have ix : ixN m (s.n : Nat) = some s.n := by
        unfold ixN
        rw [if_pos (by omega), if_pos (by omega)]
        rfl
      simp [sd, e, e_wg2__law_hours, e_wb2__law_hours, ix, dp]
theorem q_hours (l : Ld) (hl : LS l) (x : D) (pl : List Nat) (hp : POk l pl) (st : List Stp) (hx : IsSt x st) (hz : st.length ≤ 900) (hs : ∀ s ∈ st, s.h = false → s.n ∈ pl) :
    m__law_hours [l.d, plD pl, x] = some (.lst true (gL l.ss.length (gN pl st)), [some l.d, some (plD pl), some x]) := by
  have ph := q_heights x st hx (by omega)
  have rn := mk_rng l.ss.length (by have := hl.s1; omega)
  have c1 : ∀ x2 x4 x5 x6 x7 : Option D, cL cg1__law_hours ct1__law_hours ce1__law_hours [8] ((List.range l.ss.length).map fun i => D.int (i : Nat)) [some l.d, some (plD pl), x2, some (.int ((hts st).length : Nat)), x4, x5, x6, x7, none] = some (gL l.ss.length (f0 pl (hts st).length), [some l.d, some (plD pl), x2, some (.int ((hts st).length : Nat)), x4, x5, x6, x7, none]) := fun x2 x4 x5 x6 x7 =>
    cL_of (fun i : Nat => D.int (i : Nat)) (fun i => D.int (f0 pl (hts st).length i : Nat)) _ fun i hi => by
      have h := ni_nats i pl
      by_cases c : i ∈ pl <;> simp [stepC, e_cg1__law_hours, ct1__law_hours, e_ce1__law_hours, h, c, f0]
  have k1 : l.ss.length ≤ 16777216 := by have := hl.s1; omega
  have wk : ∀ y : Option D, ∃ k', sForL wg2__law_hours wb2__law_hours [6, 7] (st.map Stp.d) [some l.d, some (plD pl), y, some (.int ((hts st).length : Nat)), some (.lst true (gL l.ss.length (f0 pl (hts st).length))), some (.int 0), none, none, none] = some (.nx, [some l.d, some (plD pl), y, some (.int ((hts st).length : Nat)), some (.lst true (gL l.ss.length (gN pl st))), some (.int (k' : Nat)), none, none, none]) := fun y =>
    lawh_loop l.ss.length _ _ y _ st 0 (f0 pl (hts st).length) (fun s hm e => hp.lt _ (hs s hm e)) (by omega)
  unfold m__law_hours
  rw [ev_fn]
  rcases hx with rfl | rfl | rfl
  · obtain ⟨k', e⟩ := wk none
    simp [b__law_hours, backF, ph, rn, -rng1, c1, k1, e]
  · obtain ⟨k', e⟩ := wk (some (.lst false (st.map Stp.d)))
    simp [b__law_hours, backF, ph, rn, -rng1, c1, k1, e]
  · obtain ⟨k', e⟩ := wk (some (.tup false (st.map Stp.d)))
    simp [b__law_hours, backF, ph, rn, -rng1, c1, k1, e]
end K71

/-! k71: water in the law. -/
namespace K71
open PySem PySem.Spec L2 MP

def silL (l : Ld) : List D := l.ss.map fun s => .int (sil l.fs s)
@[simp] theorem fz_silL (l : Ld) : frozenL (silL l) = true := fzL_map _ (fun _ => rfl) _
theorem ix_sil (l : Ld) (b : Bool) (k : Nat) (s : Sr) (hs : l.ss[k]? = some s) : ixD (.lst b (silL l)) (.int (k : Nat)) = some (.int (sil l.fs s)) := by
  have e : (silL l)[k]? = some (.int (sil l.fs s)) := by
    unfold silL
    rw [List.getElem?_map, hs]
    rfl
  simp [atI_nat', e]
theorem ix_gL (m : Nat) (g : Nat → Nat) (b : Bool) (k : Nat) (hk : k < m) : ixD (.lst b (gL m g)) (.int (k : Nat)) = some (.int (g k : Nat)) := by
  simp [atI_nat', gL_at m g k hk]
@[simp] theorem sr_rev (s : Sr) : revSlD 2 0 s.d = some (.tup false [.int (s.b : Nat), .int (s.a : Nat)]) := by
  unfold Sr.d
  rfl
def relG (l : Ld) (g : Nat → Nat) (h : Nat) (p : Lv × Bool) (k : Nat) : Lv × Bool := if g k ≤ h then relA l p k else p
theorem lev1 (l : Ld) (k : Nat) (s : Sr) (hs : l.ss[k]? = some s) (g : Nat → Nat) (m h : Nat) (hm : k < m) (F : Lv) (i j : Nat) (hi : i < F.length) (hj : j < F.length) (b bg bs : Bool) (x0 x1 x4 x7 x10 : Option D) (K : En → Option (Ctl × En)) :
    bnd (wg2__law_levels (.tup false [.int (i : Nat), .int (j : Nat)]) [x0, x1, some (.lst bg (gL m g)), some (.lst bs (silL l)), x4, some (.lst true (F.map oI)), some (.int (h : Nat)), x7, some (.bl b), some (.int (k : Nat)), x10, none, none]) (fun E1 => loopK (wb2__law_levels E1) [11, 12] K)
      = K [x0, x1, some (.lst bg (gL m g)), some (.lst bs (silL l)), x4, some (.lst true ((if g k ≤ h then rel1 (sil l.fs s) i j (F, b) else (F, b)).1.map oI)), some (.int (h : Nat)), x7, some (.bl (if g k ≤ h then rel1 (sil l.fs s) i j (F, b) else (F, b)).2), some (.int (k : Nat)), x10, none, none] := by
  have h1 := ix_gL m g bg k hm
  have h2 := ix_sil l bs k s hs
  have h3 := ix_lv true F i hi
  have h4 := ix_lv true F j hj
  have hjj : ixN F.length (j : Nat) = some j := by
    unfold ixN
    rw [if_pos (by omega), if_pos (by omega)]
    rfl
  unfold rel1
  by_cases c : g k ≤ h
  · by_cases c0 : 0 < j
    · have c0' : (0 : Int) < (j : Nat) := by omega
      cases e1 : gt F i with
      | none =>
        rw [e1] at h3
        simp [e_wg2__law_levels, e_wb2__law_levels, h1, h2, h3, h4, c, c0, c0', oI, up, e1]
      | some a =>
        rw [e1] at h3
        by_cases c1 : sil l.fs s < a
        · cases e2 : gt F j with
          | none =>
            rw [e2] at h4
            simp [e_wg2__law_levels, e_wb2__law_levels, h1, h2, h3, h4, c, c0, c0', c1, oI, up, e1, e2, hjj, List.map_set]
          | some d =>
            rw [e2] at h4
            by_cases c2 : d < a
            · simp [e_wg2__law_levels, e_wb2__law_levels, h1, h2, h3, h4, c, c0, c0', c1, c2, oI, up, e1, e2, hjj, List.map_set]
            · simp [e_wg2__law_levels, e_wb2__law_levels, h1, h2, h3, h4, c, c0, c0', c1, c2, oI, up, e1, e2]
        · simp [e_wg2__law_levels, e_wb2__law_levels, h1, h2, h3, h4, c, c0, c0', c1, oI, up, e1]
    · have c0' : ¬ (0 : Int) < (j : Nat) := by omega
      simp [e_wg2__law_levels, e_wb2__law_levels, h1, c, c0, c0']
  · simp [e_wg2__law_levels, e_wb2__law_levels, h1, c]
end K71

/-! k71: levels in the law. -/
namespace K71
open PySem PySem.Spec L2 MP

section
variable (l : Ld) (hl : LS l) (g : Nat → Nat) (h : Nat) (bg bs : Bool)
include hl
theorem lev_in (k : Nat) (s : Sr) (hs : l.ss[k]? = some s) (F : Lv) (hF : F.length = l.fs.length + 1) (b : Bool) (x0 x1 x4 x7 x10 : Option D) :
    sForL wg2__law_levels wb2__law_levels [11, 12] [.tup false [.int (s.a : Nat), .int (s.b : Nat)], .tup false [.int (s.b : Nat), .int (s.a : Nat)]] [x0, x1, some (.lst bg (gL l.ss.length g)), some (.lst bs (silL l)), x4, some (.lst true (F.map oI)), some (.int (h : Nat)), x7, some (.bl b), some (.int (k : Nat)), x10, none, none]
      = some (.nx, [x0, x1, some (.lst bg (gL l.ss.length g)), some (.lst bs (silL l)), x4, some (.lst true ((relG l g h (F, b) k).1.map oI)), some (.int (h : Nat)), x7, some (.bl (relG l g h (F, b) k).2), some (.int (k : Nat)), x10, none, none]) := by
  have a := hl.sAt hs
  unfold sAt at a
  have hk : k < l.ss.length := (List.getElem?_eq_some_iff.mp hs).1
  have e : relA l (F, b) k = relS l s (F, b) := by
    unfold relA
    rw [hs]
  unfold relG
  rw [e]
  unfold relS
  have h2 := rel1_len (sil l.fs s) s.a s.b (F, b)
  rw [ev_for1, lev1 l k s hs g l.ss.length h hk F s.a s.b (by omega) (by omega) b bg bs x0 x1 x4 x7 x10, ev_for1]
  by_cases c : g k ≤ h
  · simp only [c, if_true]
    have := lev1 l k s hs g l.ss.length h hk (rel1 (sil l.fs s) s.a s.b (F, b)).1 s.b s.a (by rw [h2]; simp only; omega) (by rw [h2]; simp only; omega) (rel1 (sil l.fs s) s.a s.b (F, b)).2 bg bs x0 x1 x4 x7 x10
    simp only [c, if_true] at this
    rw [this]
    rfl
  · simp only [c, if_false]
    have := lev1 l k s hs g l.ss.length h hk F s.b s.a (by omega) (by omega) b bg bs x0 x1 x4 x7 x10
    simp only [c, if_false] at this
    rw [this]
    rfl
theorem relG_len (p : Lv × Bool) (k : Nat) : (relG l g h p k).1.length = p.1.length := by
  unfold relG
  split
  · exact relA_len l p k
  · rfl
theorem lev2 (k : Nat) (s : Sr) (hs : l.ss[k]? = some s) (F : Lv) (hF : F.length = l.fs.length + 1) (b : Bool) (x0 x1 x4 x7 : Option D) (K : En → Option (Ctl × En)) :
    bnd (wg3__law_levels (.tup false [.int (k : Nat), s.d]) [x0, x1, some (.lst bg (gL l.ss.length g)), some (.lst bs (silL l)), x4, some (.lst true (F.map oI)), some (.int (h : Nat)), x7, some (.bl b), none, none, none, none]) (fun E1 => loopK (wb3__law_levels E1) [9, 10, 11, 12] K)
      = K [x0, x1, some (.lst bg (gL l.ss.length g)), some (.lst bs (silL l)), x4, some (.lst true ((relG l g h (F, b) k).1.map oI)), some (.int (h : Nat)), x7, some (.bl (relG l g h (F, b) k).2), none, none, none, none] := by
  have h2 := lev_in l hl g h bg bs k s hs F hF b x0 x1 x4 x7 (some s.d)
  have h3 : slD s.d (some 1) (some 3) = some (.tup false [.int (s.a : Nat), .int (s.b : Nat)]) := sr_sl13 s
  simp [e_wg3__law_levels, e_wb3__law_levels, h2, h3]
theorem lev_for (x0 x1 x4 x7 : Option D) : ∀ (zs : List (Sr × Nat)) (p : Lv × Bool), (∀ z ∈ zs, l.ss[z.2]? = some z.1) → p.1.length = l.fs.length + 1 →
    sForL wg3__law_levels wb3__law_levels [9, 10, 11, 12] (zs.map fun z => D.tup false [.int (z.2 : Nat), z.1.d]) [x0, x1, some (.lst bg (gL l.ss.length g)), some (.lst bs (silL l)), x4, some (.lst true (p.1.map oI)), some (.int (h : Nat)), x7, some (.bl p.2), none, none, none, none]
      = some (.nx, [x0, x1, some (.lst bg (gL l.ss.length g)), some (.lst bs (silL l)), x4, some (.lst true (((zs.map (·.2)).foldl (relG l g h) p).1.map oI)), some (.int (h : Nat)), x7, some (.bl ((zs.map (·.2)).foldl (relG l g h) p).2), none, none, none, none])
  | [], p, _, _ => rfl
  | z :: zs, p, hz, hp => by
    rw [List.map_cons, ev_for1, lev2 l hl g h bg bs z.2 z.1 (hz z List.mem_cons_self) p.1 hp p.2 x0 x1 x4 x7]
    exact lev_for x0 x1 x4 x7 zs (relG l g h p z.2) (fun y hy => hz y (List.mem_cons_of_mem _ hy)) (by rw [relG_len l hl]; exact hp)
theorem fold_let (F : Lv) : ((l.ss.zipIdx.map (·.2)).foldl (relG l g h) (F, false)) = pass l (letOf l.ss.length g h) F := by
  have e : l.ss.zipIdx.map (·.2) = List.range l.ss.length := by
    rw [List.zipIdx_map_snd, List.range_eq_range']
  rw [e]
  unfold pass letOf
  rw [List.foldl_filter]
  refine congrArg (fun q => List.foldl q (F, false) (List.range l.ss.length)) (funext fun p => funext fun k => ?_)
  unfold relG
  by_cases c : g k ≤ h
  · rw [if_pos c, if_pos (decide_eq_true c)]
  · rw [if_neg c, if_neg (by simpa using c)]
theorem lev_wb (F : Lv) (hF : F.length = l.fs.length + 1) (x1 x4 x7 : Option D) :
    wb4__law_levels [some l.d, x1, some (.lst bg (gL l.ss.length g)), some (.lst bs (silL l)), x4, some (.lst true (F.map oI)), some (.int (h : Nat)), x7, some (.bl true), none, none, none, none]
      = some (.nx, [some l.d, x1, some (.lst bg (gL l.ss.length g)), some (.lst bs (silL l)), x4, some (.lst true ((pass l (letOf l.ss.length g h) F).1.map oI)), some (.int (h : Nat)), x7, some (.bl (pass l (letOf l.ss.length g h) F).2), none, none, none, none]) := by
  have q := lev_for l hl g h bg bs (some l.d) x1 x4 x7 l.ss.zipIdx (F, false) (fun z hz => by
    have := List.mem_zipIdx' hz
    rw [this.2]
    exact List.getElem?_eq_getElem _) hF
  rw [fold_let l hl] at q
  have e := enum_map Sr.d l.ss 0
  rw [← e] at q
  simp [e_wb4__law_levels, q]
theorem lev_wh (x1 x4 x7 : Option D) : ∀ (m n : Nat) (F : Lv), Okl (l.fs.length + 1) F → (l.fs.length + 1) * 2001 < phi F + m → m < n →
    sWhile wc4__law_levels wb4__law_levels [9, 10, 11, 12] n [some l.d, x1, some (.lst bg (gL l.ss.length g)), some (.lst bs (silL l)), x4, some (.lst true (F.map oI)), some (.int (h : Nat)), x7, some (.bl true), none, none, none, none]
      = some (.nx, [some l.d, x1, some (.lst bg (gL l.ss.length g)), some (.lst bs (silL l)), x4, some (.lst true ((run l (letOf l.ss.length g h) m F).map oI)), some (.int (h : Nat)), x7, some (.bl false), none, none, none, none])
  | 0, n, F, ok, hm, hn => by
    have := phi_le ok
    omega
  | m + 1, 0, F, ok, hm, hn => absurd hn (by omega)
  | m + 1, n + 1, F, ok, hm, hn => by
    have st := pass_st (lt := letOf l.ss.length g h) (inL_of hl) ok
    rw [ev_while]
    have hw := lev_wb l hl g h bg bs F ok.len x1 x4 x7
    have hc : ∀ G : Lv, ∀ b : Bool, wc4__law_levels [some l.d, x1, some (.lst bg (gL l.ss.length g)), some (.lst bs (silL l)), x4, some (.lst true (G.map oI)), some (.int (h : Nat)), x7, some (.bl b), none, none, none, none] = some (b, [some l.d, x1, some (.lst bg (gL l.ss.length g)), some (.lst bs (silL l)), x4, some (.lst true (G.map oI)), some (.int (h : Nat)), x7, some (.bl b), none, none, none, none]) := fun G b => by simp [e_wc4__law_levels]
    rw [hc]
    unfold run
    cases e : (pass l (letOf l.ss.length g h) F).2 with
    | true =>
      have h3 := st.lt e rfl
      have ih := lev_wh x1 x4 x7 m n (pass l (letOf l.ss.length g h) F).1 st.ok (by simp only at h3; omega) (by omega)
      rw [if_pos rfl, ← ih]
      simp [hw, e]
    | false =>
      obtain ⟨n, rfl⟩ : ∃ k, n = k + 1 := ⟨n - 1, by omega⟩
      rw [if_neg Bool.false_ne_true]
      simp [hw, e, ev_while, hc]
end
end K71

/-! k71: levels in the law, whole. -/
namespace K71
open PySem PySem.Spec L2 MP

theorem lawl_loop (l : Ld) (hl : LS l) (g : Nat → Nat) (bg bs : Bool) (x1 : Option D) : ∀ (hs : List Int) (k : Nat) (y : Option Int) (fs : Lv) (acc : List Lv), Hok hs → Okl l.fs.length fs → acc.length + hs.length ≤ 1000 →
    ∃ y' fs', sForL wg5__law_levels wb5__law_levels [6, 7, 8, 9, 10, 11, 12] (enumD k (hs.map D.int)) [some l.d, x1, some (.lst bg (gL l.ss.length g)), some (.lst bs (silL l)), some (.lst true (acc.map rowD)), some (.lst true ((y :: fs).map oI)), none, none, none, none, none, none, none]
      = some (.nx, [some l.d, x1, some (.lst bg (gL l.ss.length g)), some (.lst bs (silL l)), some (.lst true ((acc ++ rowsF l g k hs fs).map rowD)), some (.lst true (((y' :: fs' : Lv)).map oI)), none, none, none, none, none, none, none])
  | [], k, y, fs, acc, _, _, _ => ⟨y, fs, by rw [rowsF, List.append_nil]; rfl⟩
  | h :: hs, k, y, fs, acc, hh, ok, ha => by
    have h0 := hh h List.mem_cons_self
    rw [List.length_cons] at ha
    have ok1 := okl_cons ok h0
    have ok2 := hourF_ok (g := g) (k := k) ok h0
    obtain ⟨y', fs', ih⟩ := lawl_loop l hl g bg bs x1 hs (k + 1) (some h) (hourF l g k h fs) (acc ++ [hourF l g k h fs]) (fun z hz => hh z (List.mem_cons_of_mem _ hz)) ok2 (by rw [List.length_append, List.length_singleton]; omega)
    refine ⟨y', fs', ?_⟩
    have e0 : acc ++ rowsF l g k (h :: hs) fs = acc ++ [hourF l g k h fs] ++ rowsF l g (k + 1) hs (hourF l g k h fs) := by
      rw [rowsF, List.append_assoc]
      rfl
    rw [e0, ← ih, List.map_cons, enumD, ev_for1]
    have e := lev_wh l hl g k bg bs x1 (some (.lst true (acc.map rowD))) (some (.int h)) (NL l) fu (some h :: fs) ok1 (by unfold NL; omega) (by
      unfold NL
      have := hl.f2
      show _ < 1099511627776
      omega)
    rw [run_eq ok h0] at e
    have e' : sWhile wc4__law_levels wb4__law_levels [9, 10, 11, 12] fu [some l.d, x1, some (.lst bg (gL l.ss.length g)), some (.lst bs (silL l)), some (.lst true (acc.map rowD)), some (.lst true (.int h :: fs.map oI)), some (.int (k : Nat)), some (.int h), some (.bl true), none, none, none, none]
      = some (.nx, [some l.d, x1, some (.lst bg (gL l.ss.length g)), some (.lst bs (silL l)), some (.lst true (acc.map rowD)), some (.lst true (.int h :: (hourF l g k h fs).map oI)), some (.int (k : Nat)), some (.int h), some (.bl false), none, none, none, none]) := e
    have k1 : (hourF l g k h fs).length ≤ 16777216 := by have := ok2.len; have := hl.f2; omega
    have k2 : acc.length ≤ 16777215 := by omega
    have ix : ixN (fs.length + 1) 0 = some 0 := by
      unfold ixN
      rw [if_pos (by omega), if_pos (by omega)]
      rfl
    have rd : D.tup false ((hourF l g k h fs).map oI) = rowD (hourF l g k h fs) := rfl
    simp [e_wg5__law_levels, e_wb5__law_levels, ix, e', cut_tl, tupleD, k1, k2, rd, oI]
theorem q_levels (l : Ld) (hl : LS l) (g : Nat → Nat) (b bg : Bool) (hs : List Int) (hh : Hok hs) (hn : hs.length ≤ 1000) :
    m__law_levels [l.d, .lst b (hs.map D.int), .lst bg (gL l.ss.length g)] = some (.lst true ((rows l g hs).map rowD), [some l.d, some (.lst b (hs.map D.int)), some (.lst bg (gL l.ss.length g))]) := by
  have rn := mk_rng l.ss.length (by have := hl.s1; omega)
  have c1 : ∀ x1 x2 x3 x4 x5 x6 x7 x8 x10 x11 x12 : Option D, cL cg1__law_levels ct1__law_levels ce1__law_levels [9] ((List.range l.ss.length).map fun i => D.int (i : Nat)) [some l.d, x1, x2, x3, x4, x5, x6, x7, x8, none, x10, x11, x12] = some (silL l, [some l.d, x1, x2, x3, x4, x5, x6, x7, x8, none, x10, x11, x12]) := fun x1 x2 x3 x4 x5 x6 x7 x8 x10 x11 x12 => by
    have e : silL l = (List.range l.ss.length).map fun i => match l.ss[i]? with | some s => D.int (sil l.fs s) | none => .non := by
      unfold silL
      apply List.ext_getElem?
      intro i
      rw [List.getElem?_map, List.getElem?_map]
      by_cases hi : i < l.ss.length
      · rw [List.getElem?_range hi, List.getElem?_eq_getElem hi]
        simp [List.getElem?_eq_getElem hi]
      · rw [List.getElem?_eq_none (by omega), List.getElem?_eq_none (by rw [List.length_range]; omega)]
        rfl
    rw [e]
    refine cL_of (fun i : Nat => D.int (i : Nat)) _ _ fun i hi => ?_
    have hi := List.mem_range.mp hi
    have hs := List.getElem?_eq_getElem hi
    have q := q_sill l i _ hs (hl.sAt hs) (by have := hl.f2; omega)
    simp only [hs]
    simp [stepC, e_cg1__law_levels, ct1__law_levels, e_ce1__law_levels, q]
  have k0 : l.ss.length ≤ 16777216 := by have := hl.s1; omega
  have k0' : (silL l).length = l.ss.length := by simp [silL]
  have k1 : l.fs.length ≤ 16777216 := by have := hl.f2; omega
  have nn := nn_mul (l.fs.length + 1) (by have := hl.f2; omega)
  have en : (((l.fs.length + 1 : Nat)) : Int) = (l.fs.length : Nat) + 1 := by omega
  rw [en] at nn
  have wk : ∀ x1 : Option D, ∃ x : D, sForL wg5__law_levels wb5__law_levels [6, 7, 8, 9, 10, 11, 12] (enumD 0 (hs.map D.int)) [some l.d, x1, some (.lst bg (gL l.ss.length g)), some (.lst true (silL l)), some (.lst true []), some (.lst true ((List.replicate (l.fs.length + 1) none).map oI)), none, none, none, none, none, none, none]
      = some (.nx, [some l.d, x1, some (.lst bg (gL l.ss.length g)), some (.lst true (silL l)), some (.lst true ((rows l g hs).map rowD)), some x, none, none, none, none, none, none, none]) := fun x1 => by
    obtain ⟨y', fs', e⟩ := lawl_loop l hl g bg true x1 hs 0 none (List.replicate l.fs.length none) [] hh (okl_none _) (by simp; omega)
    exact ⟨_, e⟩
  unfold m__law_levels
  rw [ev_fn]
  cases b with
  | true =>
    obtain ⟨x, e⟩ := wk none
    cases bg <;> simp [b__law_levels, backF, rn, -rng1, c1, k0, k0', nn, e, -List.map_replicate]
  | false =>
    obtain ⟨x, e⟩ := wk (some (.lst false (hs.map D.int)))
    cases bg <;> simp [b__law_levels, backF, rn, -rng1, c1, k0, k0', nn, e, -List.map_replicate]
end K71

/-! k71: a storm that is more, plain. -/
namespace K71
open PySem PySem.Spec L2 MP

inductive Mo (G : List Nat) : List Stp → List Stp → Prop where
  | nil : Mo G [] []
  | hour {s : Stp} {n : Nat} {st r : List Stp} : s.h = true → s.n ≤ n → n ≤ s.n + 2 → Mo G st r → Mo G (s :: st) (⟨true, n⟩ :: r)
  | drop {s : Stp} {st r : List Stp} : s.h = false → s.n ∈ G → Mo G st r → Mo G (s :: st) r
  | keep {s : Stp} {st r : List Stp} : s.h = false → s.n ∉ G → Mo G st r → Mo G (s :: st) (s :: r)
theorem hts_h {s : Stp} (h : s.h = true) (st : List Stp) : hts (s :: st) = ((s.n : Nat) : Int) :: hts st := by
  unfold hts
  rw [List.filterMap_cons, if_pos h]
theorem hts_g {s : Stp} (h : s.h = false) (st : List Stp) : hts (s :: st) = hts st := by
  unfold hts
  rw [List.filterMap_cons, if_neg (by rw [h]; exact Bool.false_ne_true)]
theorem gns_h {s : Stp} (h : s.h = true) (st : List Stp) : gns (s :: st) = gns st := by
  unfold gns
  rw [List.filterMap_cons, if_neg (by rw [h]; decide)]
theorem gns_g {s : Stp} (h : s.h = false) (st : List Stp) : gns (s :: st) = s.n :: gns st := by
  unfold gns
  rw [List.filterMap_cons, if_pos h]
section
variable {G : List Nat} {st r : List Stp}
theorem Mo.hts (m : Mo G st r) : (hts r).length = (K71.hts st).length ∧ ∀ z ∈ (K71.hts st).zip (K71.hts r), z.1 ≤ z.2 := by
  induction m with
  | nil => exact ⟨rfl, fun z hz => by cases hz⟩
  | hour h1 h2 h3 m ih =>
    rw [hts_h h1, hts_h (s := ⟨true, _⟩) rfl]
    refine ⟨by rw [List.length_cons, List.length_cons, ih.1], fun z hz => ?_⟩
    rw [List.zip_cons_cons] at hz
    rcases List.mem_cons.mp hz with rfl | hz
    · simp only
      omega
    · exact ih.2 z hz
  | drop h1 h2 m ih =>
    rw [hts_g h1]
    exact ih
  | keep h1 h2 m ih =>
    rw [hts_g h1, hts_g h1]
    exact ih
theorem Mo.gns (m : Mo G st r) : K71.gns r = (K71.gns st).filter fun i => decide (i ∉ G) := by
  induction m with
  | nil => rfl
  | hour h1 h2 h3 m ih => rw [gns_h h1, gns_h (s := ⟨true, _⟩) rfl, ih]
  | drop h1 h2 m ih => rw [gns_g h1, List.filter_cons, if_neg (by simp [h2]), ih]
  | keep h1 h2 m ih => rw [gns_g h1, gns_g h1, List.filter_cons, if_pos (by simp [h2]), ih]
theorem Mo.mem (m : Mo G st r) : ∀ s ∈ r, (s.h = false → s ∈ st) ∧ (s.h = true → ∃ t ∈ st, t.h = true ∧ s.n ≤ t.n + 2) := by
  induction m with
  | nil => exact fun s h => by cases h
  | @hour t n st r h1 h2 h3 m ih =>
    intro s hs
    rcases List.mem_cons.mp hs with rfl | hs
    · exact ⟨fun q => (nomatch q), fun _ => ⟨t, List.mem_cons_self, h1, h3⟩⟩
    · obtain ⟨a, b⟩ := ih s hs
      exact ⟨fun q => List.mem_cons_of_mem _ (a q), fun q => let ⟨t, x, y⟩ := b q; ⟨t, List.mem_cons_of_mem _ x, y⟩⟩
  | @drop t st r h1 h2 m ih =>
    intro s hs
    obtain ⟨a, b⟩ := ih s hs
    exact ⟨fun q => List.mem_cons_of_mem _ (a q), fun q => let ⟨t, x, y⟩ := b q; ⟨t, List.mem_cons_of_mem _ x, y⟩⟩
  | @keep t st r h1 h2 m ih =>
    intro s hs
    rcases List.mem_cons.mp hs with rfl | hs
    · exact ⟨fun _ => List.mem_cons_self, fun q => by rw [h1] at q; cases q⟩
    · obtain ⟨a, b⟩ := ih s hs
      exact ⟨fun q => List.mem_cons_of_mem _ (a q), fun q => let ⟨t, x, y⟩ := b q; ⟨t, List.mem_cons_of_mem _ x, y⟩⟩
theorem Mo.gF (m : Mo G st r) : ∀ (f : Nat → Nat) (k i : Nat), i ∉ G → gF f k r i = K71.gF f k st i := by
  induction m with
  | nil => exact fun f k i _ => rfl
  | hour h1 h2 h3 m ih =>
    intro f k i hi
    rw [K71.gF, K71.gF, if_pos h1, if_pos rfl]
    exact ih f (k + 1) i hi
  | @drop t st r h1 h2 m ih =>
    intro f k i hi
    have e0 : K71.gF f k (t :: st) = K71.gF (fun i => if i = t.n then k else f i) k st := by
      rw [K71.gF, if_neg (by rw [h1]; exact Bool.false_ne_true)]
    rw [e0, ih f k i hi]
    refine gF_at st _ _ k i ?_
    show f i = if i = t.n then k else f i
    have ne : ¬ i = t.n := fun e => hi (by rw [e]; exact h2)
    rw [if_neg ne]
  | @keep t st r h1 h2 m ih =>
    intro f k i hi
    rw [K71.gF, K71.gF, if_neg (by rw [h1]; exact Bool.false_ne_true), if_neg (by rw [h1]; exact Bool.false_ne_true)]
    exact ih _ k i hi
end
theorem gF_app : ∀ (a b : List Stp) (f : Nat → Nat) (k : Nat), gF f k (a ++ b) = gF (gF f k a) (k + (hts a).length) b
  | [], b, f, k => rfl
  | s :: a, b, f, k => by
    rw [List.cons_append, gF, gF]
    cases e : s.h with
    | true =>
      rw [if_pos rfl, if_pos rfl, gF_app a b, hts_h e, List.length_cons]
      rw [show k + 1 + (hts a).length = k + ((hts a).length + 1) by omega]
    | false =>
      rw [if_neg Bool.false_ne_true, if_neg Bool.false_ne_true, gF_app a b, hts_g e]
theorem gF_zero : ∀ (a : List Stp) (f : Nat → Nat) (i : Nat), (∀ s ∈ a, s.h = false) → (f i = 0 ∨ i ∈ gns a) → gF f 0 a i = 0
  | [], f, i, _, h => by
    rcases h with h | h
    · exact h
    · cases h
  | s :: a, f, i, hs, h => by
    have e := hs s List.mem_cons_self
    rw [gF, if_neg (by rw [e]; exact Bool.false_ne_true)]
    refine gF_zero a _ i (fun z hz => hs z (List.mem_cons_of_mem _ hz)) ?_
    by_cases c : i = s.n
    · exact .inl (by show (if i = s.n then 0 else f i) = 0; rw [if_pos c])
    · rcases h with h | h
      · exact .inl (by show (if i = s.n then 0 else f i) = 0; rw [if_neg c]; exact h)
      · rw [gns_g e] at h
        rcases List.mem_cons.mp h with h | h
        · exact absurd h c
        · exact .inr h
theorem hts_none : ∀ (a : List Stp), (∀ s ∈ a, s.h = false) → hts a = []
  | [], _ => rfl
  | s :: a, h => by rw [hts_g (h s List.mem_cons_self), hts_none a fun z hz => h z (List.mem_cons_of_mem _ hz)]
theorem hts_app (a b : List Stp) : hts (a ++ b) = hts a ++ hts b := List.filterMap_append ..
theorem gns_app (a b : List Stp) : gns (a ++ b) = gns a ++ gns b := List.filterMap_append ..
theorem mem_gns {st : List Stp} {i : Nat} (h : i ∈ gns st) : ∃ s ∈ st, s.h = false ∧ s.n = i := by
  unfold gns at h
  obtain ⟨s, hm, e⟩ := List.mem_filterMap.mp h
  split at e
  · rename_i q
    exact ⟨s, hm, q, Option.some.inj e⟩
  · cases e
/-- what is more: a right storm, each hour no less, each stretch no later -/
theorem more_ok {l : Ld} (hl : LS l) {pl : List Nat} (hp : POk l pl) {st : List Stp} (hs : SOk pl st) (h10 : ∀ s ∈ st, s.h = true → s.n ≤ 10) {A r : List Stp} (hA : A.Sublist st) (hAg : ∀ s ∈ A, s.h = false) (m : Mo (gns A) st r) :
    SOk pl (A ++ r) ∧ (hts (A ++ r)).length = (hts st).length ∧ (∀ z ∈ (hts st).zip (hts (A ++ r)), z.1 ≤ z.2) ∧ ∀ i, gN pl (A ++ r) i ≤ gN pl st i := by
  have h1 := m.hts
  have hA0 := hts_none A hAg
  have e1 : hts (A ++ r) = hts r := by rw [hts_app, hA0, List.nil_append]
  have gsub : (gns A).Sublist (gns st) := List.Sublist.filterMap _ hA
  have ndm : (gns (A ++ r)).Nodup := by
    rw [gns_app, m.gns]
    refine List.nodup_append.mpr ⟨gsub.nodup hs.nd, hs.nd.filter _, fun a ha b hb e => ?_⟩
    have := (List.mem_filter.mp hb).2
    simp at this
    exact this (e ▸ ha)
  have gnm : ∀ s ∈ A ++ r, s.h = false → s.n ∈ pl := fun s hm e => by
    rcases List.mem_append.mp hm with hm | hm
    · exact hs.gn s (hA.subset hm) e
    · exact hs.gn s ((m.mem s hm).1 e) e
  have gl : (gns (A ++ r)).length ≤ l.ss.length := nodup_len _ _ ndm fun i hi => by
    obtain ⟨s, hm, e, rfl⟩ := mem_gns hi
    exact hp.lt _ (gnm s hm e)
  have ok : SOk pl (A ++ r) := by
    refine ⟨?_, by rw [e1, h1.1]; exact hs.hrs, gnm, fun s hm e => ?_, ndm⟩
    · rw [split_len, e1, h1.1]
      have := hs.hrs
      have := hl.s1
      omega
    · rcases List.mem_append.mp hm with hm | hm
      · rw [hAg s hm] at e
        cases e
      · obtain ⟨t, ht, e2, e3⟩ := (m.mem s hm).2 e
        have := h10 t ht e2
        omega
  refine ⟨ok, by rw [e1, h1.1], by rw [e1]; exact h1.2, fun i => ?_⟩
  unfold gN
  rw [gF_app, hA0, e1, h1.1]
  show gF (gF (f0 pl (hts st).length) 0 A) 0 r i ≤ _
  by_cases hi : i ∈ gns A
  · have z := gF_zero A (f0 pl (hts st).length) i hAg (.inr hi)
    rw [gF_out r _ 0 i fun s hm e q => ?_, z]
    · omega
    · have : i ∈ gns r := by
        unfold gns
        exact List.mem_filterMap.mpr ⟨s, hm, by rw [if_pos e, q]⟩
      rw [m.gns] at this
      have := (List.mem_filter.mp this).2
      simp at this
      exact this hi
  · rw [m.gF _ 0 i hi]
    refine Nat.le_of_eq (gF_at st _ _ 0 i ?_)
    exact gF_out A _ 0 i fun s hm e q => hi (by
      unfold gns
      exact List.mem_filterMap.mpr ⟨s, hm, by rw [if_pos e, q]⟩)
end K71

/-! k71: drawn plans and storms. -/
namespace K71
open PySem PySem.Spec L2 MP

theorem plan_cl (l : Ld) : ∀ (zs : List (Sr × Nat)) (p : D), Pot p → ∃ (ks : List Nat) (p' : D), Pot p' ∧ ks.Sublist (zs.map (·.2)) ∧ (∀ k ∈ ks, ∃ z ∈ zs, z.2 = k ∧ z.1.p ≠ none) ∧
    cL cg1__law_plan ct1__law_plan ce1__law_plan [2, 3] (zs.map fun z => D.tup false [.int (z.2 : Nat), z.1.d]) [some p, some l.d, none, none] = some (ks.map fun i => D.int (i : Nat), [some p', some l.d, none, none])
  | [], p, hp => ⟨[], p, hp, List.Sublist.refl _, (fun k hk => absurd hk List.not_mem_nil), rfl⟩
  | z :: zs, p, hp => by
    have f0 := hp.fz
    have out : ∀ p1 (o : Option D), stepC cg1__law_plan ct1__law_plan ce1__law_plan [2, 3] (.tup false [.int (z.2 : Nat), z.1.d]) [some p, some l.d, none, none] = some (o, [some p1, some l.d, none, none]) → Pot p1 → (o = none ∨ (o = some (.int (z.2 : Nat)) ∧ z.1.p ≠ none)) →
        ∃ (ks : List Nat) (p' : D), Pot p' ∧ ks.Sublist ((z :: zs).map (·.2)) ∧ (∀ k ∈ ks, ∃ z' ∈ z :: zs, z'.2 = k ∧ z'.1.p ≠ none) ∧
        cL cg1__law_plan ct1__law_plan ce1__law_plan [2, 3] ((z :: zs).map fun z => D.tup false [.int (z.2 : Nat), z.1.d]) [some p, some l.d, none, none] = some (ks.map fun i => D.int (i : Nat), [some p', some l.d, none, none]) := fun p1 o hst hp1 ho => by
      obtain ⟨ks, p', a1, a2, a3, a4⟩ := plan_cl l zs p1 hp1
      rcases ho with rfl | ⟨rfl, hn⟩
      · refine ⟨ks, p', a1, a2.cons _, fun k hk => ?_, ?_⟩
        · obtain ⟨z', h1, h2⟩ := a3 k hk
          exact ⟨z', List.mem_cons_of_mem _ h1, h2⟩
        · rw [List.map_cons, cL_step, hst]
          show bnd (cL _ _ _ _ (zs.map _) _) _ = _
          rw [a4]
          rfl
      · refine ⟨z.2 :: ks, p', a1, a2.cons_cons _, fun k hk => ?_, ?_⟩
        · rcases List.mem_cons.mp hk with rfl | hk
          · exact ⟨z, List.mem_cons_self, rfl, hn⟩
          · obtain ⟨z', h1, h2⟩ := a3 k hk
            exact ⟨z', List.mem_cons_of_mem _ h1, h2⟩
        · rw [List.map_cons, cL_step, hst]
          show bnd (cL _ _ _ _ (zs.map _) _) _ = _
          rw [a4]
          rfl
    cases e : z.1.p with
    | none =>
      refine out p none ?_ hp (.inl rfl)
      simp [stepC, e_cg1__law_plan, e_ct1__law_plan, e_ce1__law_plan, e, oI]
    | some q =>
      obtain ⟨v, p1, hv, hp1, e1⟩ := draw hp 4 (by decide) (by decide)
      have f1 := hp1.fz
      by_cases c : 0 < v
      · refine out p1 (some (.int (z.2 : Nat))) ?_ hp1 (.inr ⟨rfl, by rw [e]; exact fun h => nomatch h⟩)
        simp [stepC, e_cg1__law_plan, e_ct1__law_plan, e_ce1__law_plan, e, oI, e1, f0, f1, c]
      · refine out p1 none ?_ hp1 (.inl rfl)
        simp [stepC, e_cg1__law_plan, e_ct1__law_plan, e_ce1__law_plan, e, oI, e1, f0, f1, c]
theorem q_plan {p : D} (hp : Pot p) (l : Ld) (hl : LS l) : ∃ pl p', POk l pl ∧ Pot p' ∧ m__law_plan [p, l.d] = some (plD pl, [some p', some l.d]) := by
  obtain ⟨ks, p', a1, a2, a3, a4⟩ := plan_cl l l.ss.zipIdx p hp
  have ok : POk l ks := by
    refine ⟨?_, fun k hk => ?_⟩
    · rw [List.zipIdx_map_snd, ← List.range_eq_range'] at a2
      exact List.Pairwise.sublist a2 List.pairwise_lt_range
    · obtain ⟨z, h1, h2, h3⟩ := a3 k hk
      have := List.mem_zipIdx' h1
      refine ⟨z.1, ?_, h3⟩
      rw [← h2, this.2]
      exact List.getElem?_eq_getElem _
  refine ⟨ks, p', ok, a1, ?_⟩
  have e := enum_map Sr.d l.ss 0
  rw [← e] at a4
  have k1 : ks.length ≤ 16777216 := by
    have := ok.len
    have := hl.s1
    omega
  have f0 := hp.fz
  have f1 := a1.fz
  unfold m__law_plan
  rw [ev_fn]
  simp [b__law_plan, backF, a4, k1, tupleD, f0, f1]
  rfl
/-! ### storms -/
structure Sta (pl : List Nat) (left : List Nat) (st : List Stp) : Prop where
  nd : (left ++ gns st).Nodup
  sub : ∀ i ∈ left ++ gns st, i ∈ pl
  low : ∀ s ∈ st, s.h = true → s.n ≤ 10
theorem gns_snoc_g (st : List Stp) (n : Nat) : gns (st ++ [⟨false, n⟩]) = gns st ++ [n] := by rw [gns_app]; rfl
theorem gns_snoc_h (st : List Stp) (n : Nat) : gns (st ++ [⟨true, n⟩]) = gns st := by rw [gns_app]; exact List.append_nil _
theorem hts_snoc_g (st : List Stp) (n : Nat) : hts (st ++ [⟨false, n⟩]) = hts st := by rw [hts_app]; exact List.append_nil _
theorem hts_snoc_h (st : List Stp) (n : Nat) : hts (st ++ [⟨true, n⟩]) = hts st ++ [(n : Int)] := by rw [hts_app]; rfl
theorem perm_erase : ∀ {left : List Nat} {j n : Nat}, left[j]? = some n → left.Perm (n :: left.eraseIdx j)
  | [], j, n, h => by cases h
  | a :: r, 0, n, h => by
    have h := Option.some.inj h
    subst h
    exact List.Perm.refl _
  | a :: r, j + 1, n, h => by
    rw [List.getElem?_cons_succ] at h
    exact ((perm_erase h).cons a).trans (List.Perm.swap n a _)
theorem Sta.pop {pl left : List Nat} {st : List Stp} (h : Sta pl left st) (j n : Nat) (hj : left[j]? = some n) : Sta pl (left.eraseIdx j) (st ++ [⟨false, n⟩]) := by
  have pm : (left ++ gns st).Perm (left.eraseIdx j ++ gns (st ++ [⟨false, n⟩])) := by
    rw [gns_snoc_g, ← List.append_assoc]
    refine ((perm_erase hj).append_right (gns st)).trans ?_
    rw [List.cons_append]
    exact (List.perm_append_singleton _ _).symm
  refine ⟨pm.nodup_iff.mp h.nd, fun i hi => h.sub i (pm.mem_iff.mpr hi), fun s hs e => ?_⟩
  rcases List.mem_append.mp hs with hs | hs
  · exact h.low s hs e
  · rw [List.mem_singleton] at hs
    subst hs
    cases e
theorem Sta.hour {pl left : List Nat} {st : List Stp} (h : Sta pl left st) (n : Nat) (hn : n ≤ 10) : Sta pl left (st ++ [⟨true, n⟩]) := by
  refine ⟨by rw [gns_snoc_h]; exact h.nd, by rw [gns_snoc_h]; exact h.sub, fun s hs e => ?_⟩
  rcases List.mem_append.mp hs with hs | hs
  · exact h.low s hs e
  · rw [List.mem_singleton] at hs
    subst hs
    exact hn
end K71

/-! k71: drawn storms. -/
namespace K71
open PySem PySem.Spec L2 MP

def nL (left : List Nat) : D := .lst true (left.map fun i => .int (i : Nat))
def tlS : MP.Sm := (sDrop (xAppend 3 (xCons (dTup (xCons (xC (.str (S [104, 111, 117, 114]))) (xCons (xCall m__law_draw (hCons (oN 0) (hCons (oV (xC (.int (11)))) hNil))) xNil))) xNil)))
theorem e_wb2S (E : En) : wb2__law_storm E = (sSeq (sAsg (ifX (toB (op2 neE (oN 4) (oV (dLst xNil)))) (xCall m__law_draw (hCons (oN 0) (hCons (oV (xC (.int (2)))) hNil))) (xC (.int (0)))) (gSet 6))
  (sSeq (sK [7] (sFor (hCons (oN 6) hNil) mkRng1 wg1__law_storm wb1__law_storm [7])) tlS)) E := MP.nr rfl
theorem hour_step (pl left : List Nat) (st : List Stp) (p : D) (hp : Pot p) (x1 x2 x5 x6 : Option D) (hz : st.length ≤ 1000) (K : En → Option (Ctl × En)) :
    ∃ (n : Nat) (p' : D), n ≤ 10 ∧ Pot p' ∧ loopK (tlS [some p, x1, x2, some (.lst true (st.map Stp.d)), some (nL left), x5, x6, none]) [5, 6, 7] K
      = K [some p', x1, x2, some (.lst true ((st ++ [Stp.mk true n]).map Stp.d)), some (nL left), none, none, none] := by
  obtain ⟨v, p1, hv, hp1, e1⟩ := draw hp 11 (by decide) (by decide)
  refine ⟨v, p1, by omega, hp1, ?_⟩
  have f0 := hp.fz
  have f1 := hp1.fz
  have k1 : st.length ≤ 16777215 := by omega
  have sd : Stp.d (Stp.mk true v) = .tup false [.str (S [104, 111, 117, 114]), .int (v : Nat)] := rfl
  simp [tlS, e1, f0, f1, k1, sd]
theorem erase_map {α β : Type} (f : α → β) : ∀ (xs : List α) (j : Nat), (xs.map f).eraseIdx j = (xs.eraseIdx j).map f
  | [], j => rfl
  | x :: xs, 0 => rfl
  | x :: xs, j + 1 => by
    rw [List.map_cons, List.eraseIdx_cons_succ, List.eraseIdx_cons_succ, erase_map f xs j, List.map_cons]
theorem storm_loop (pl : List Nat) (hpl : pl.length ≤ 1000) (x1 x2 : Option D) : ∀ (k : Nat) (i : Int) (p : D) (left : List Nat) (st : List Stp), Pot p → Sta pl left st → left.length ≤ 1000 → st.length + 2 * k ≤ 900 →
    ∃ (p' : D) (left' : List Nat) (st' : List Stp), Pot p' ∧ Sta pl left' st' ∧ st'.length ≤ st.length + 2 * k ∧ (hts st').length = (hts st).length + k ∧
      sForL wg2__law_storm wb2__law_storm [5, 6, 7] (rngD i k) [some p, x1, x2, some (.lst true (st.map Stp.d)), some (nL left), none, none, none] = some (.nx, [some p', x1, x2, some (.lst true (st'.map Stp.d)), some (nL left'), none, none, none])
  | 0, i, p, left, st, hp, hs, hl, hz => ⟨p, left, st, hp, hs, by omega, by omega, rfl⟩
  | k + 1, i, p, left, st, hp, hs, hl, hz => by
    rw [rng_cons, ev_for1]
    have f0 := hp.fz
    have go : ∀ (p1 : D) (left1 : List Nat) (st1 : List Stp) (x6 : Option D), Pot p1 → Sta pl left1 st1 → left1.length ≤ 1000 → st1.length ≤ st.length + 1 → (hts st1).length = (hts st).length →
        ∃ (p' : D) (left' : List Nat) (st' : List Stp), Pot p' ∧ Sta pl left' st' ∧ st'.length ≤ st.length + 2 * (k + 1) ∧ (hts st').length = (hts st).length + (k + 1) ∧
          loopK (tlS [some p1, x1, x2, some (.lst true (st1.map Stp.d)), some (nL left1), some (.int i), x6, none]) [5, 6, 7] (sForL wg2__law_storm wb2__law_storm [5, 6, 7] (rngD (i + 1) k)) = some (.nx, [some p', x1, x2, some (.lst true (st'.map Stp.d)), some (nL left'), none, none, none]) := fun p1 left1 st1 x6 hp1 hs1 hl1 hz1 hh1 => by
      obtain ⟨n, p2, hn, hp2, e⟩ := hour_step pl left1 st1 p1 hp1 x1 x2 (some (.int i)) x6 (by omega) (sForL wg2__law_storm wb2__law_storm [5, 6, 7] (rngD (i + 1) k))
      obtain ⟨p', left', st', a1, a2, a3, a4, a5⟩ := storm_loop pl hpl x1 x2 k (i + 1) p2 left1 (st1 ++ [Stp.mk true n]) hp2 (hs1.hour n hn) hl1 (by rw [List.length_append, List.length_singleton]; omega)
      rw [List.length_append, List.length_singleton] at a3
      rw [hts_snoc_h, List.length_append, List.length_singleton] at a4
      exact ⟨p', left', st', a1, a2, by omega, by omega, e.trans a5⟩
    have nn := ne_nilN left true true
    by_cases q : left = []
    · subst q
      simp only [List.map_nil, List.isEmpty_nil] at nn
      obtain ⟨p', left', st', a1, a2, a3, a4, a5⟩ := go p [] st (some (.int 0)) hp hs (by simp) (by omega) rfl
      refine ⟨p', left', st', a1, a2, a3, a4, ?_⟩
      rw [← a5]
      have s0 : smallI 0 = true := by decide
      have r0 : rngD 0 0 = [] := rfl
      have z0 : ∀ E : En, sForL wg1__law_storm wb1__law_storm [7] [] E = some (.nx, E) := fun E => rfl
      simp [e_wg2__law_storm, e_wb2S, nL, nn, s0, r0, z0]
    · have q' : left.isEmpty = false := by
        cases left with
        | nil => exact absurd rfl q
        | cons _ _ => rfl
      rw [q'] at nn
      obtain ⟨v, p1, hv, hp1, e1⟩ := draw hp 2 (by decide) (by decide)
      have f1 := hp1.fz
      have vv : v = 0 ∨ v = 1 := by omega
      rcases vv with rfl | rfl
      · obtain ⟨p', left', st', a1, a2, a3, a4, a5⟩ := go p1 left st (some (.int 0)) hp1 hs hl (by omega) rfl
        refine ⟨p', left', st', a1, a2, a3, a4, ?_⟩
        rw [← a5]
        have s0 : smallI 0 = true := by decide
        have r0 : rngD 0 0 = [] := rfl
        have z0 : ∀ E : En, sForL wg1__law_storm wb1__law_storm [7] [] E = some (.nx, E) := fun E => rfl
        have e1' : m__law_draw [p, .int 2] = some (.int 0, [some p1, some (.int 2)]) := e1
        simp [e_wg2__law_storm, e_wb2S, nL, nn, s0, r0, z0, e1', f0, f1]
      · have hpos : 0 < left.length := by
          cases left with
          | nil => exact absurd rfl q
          | cons _ _ => simp
        obtain ⟨w, p2, hw, hp2, e2⟩ := draw hp1 (left.length : Nat) (by omega) (by omega)
        have f2 := hp2.fz
        have hw' : w < left.length := by omega
        have hn : left[w]? = some left[w] := List.getElem?_eq_getElem hw'
        generalize left[w] = n at hn
        obtain ⟨p', left', st', a1, a2, a3, a4, a5⟩ := go p2 (left.eraseIdx w) (st ++ [Stp.mk false n]) (some (.int 1)) hp2 (hs.pop w n hn) (by rw [List.length_eraseIdx_of_lt hw']; omega) (by simp) (by rw [hts_snoc_g])
        refine ⟨p', left', st', a1, a2, a3, a4, ?_⟩
        rw [← a5]
        have s0 : smallI 1 = true := by decide
        have r0 : rngD 0 1 = [.int 0] := rfl
        have z0 : ∀ E : En, sForL wg1__law_storm wb1__law_storm [7] [] E = some (.nx, E) := fun E => rfl
        have e1' : m__law_draw [p, .int 2] = some (.int 1, [some p1, some (.int 2)]) := e1
        have ix : ixN left.length (w : Nat) = some w := by
          unfold ixN
          rw [if_pos (by omega), if_pos (by omega)]
          rfl
        have k1 : left.length ≤ 16777216 := by omega
        have k2 : st.length ≤ 16777215 := by omega
        have er : (left.map fun i => D.int (i : Nat)).eraseIdx w = (left.eraseIdx w).map fun i => D.int (i : Nat) := by
          exact erase_map _ _ _
        have sd : Stp.d (Stp.mk false n) = .tup false [.str (S [103, 111, 110, 101]), .int (n : Nat)] := rfl
        simp [e_wg2__law_storm, e_wb2S, nL, nn, s0, r0, z0, e1', f0, f1, f2, ev_for1, e_wg1__law_storm, e_wb1__law_storm, e2, ix, -ixN_nat, hn, k1, k2, er, sd]
end K71

/-! k71: drawn storms, whole; what is more. -/
namespace K71
open PySem PySem.Spec L2 MP

theorem q_storm {p : D} (hp : Pot p) {l : Ld} (hl : LS l) {pl : List Nat} (h : POk l pl) (m : Nat) (hm : m < 7) : ∃ (st : List Stp) (p' : D), SOk pl st ∧ (∀ s ∈ st, s.h = true → s.n ≤ 10) ∧ Pot p' ∧
    m__law_storm [p, plD pl, .int (m : Nat)] = some (.lst true (st.map Stp.d), [some p', some (plD pl), some (.int (m : Nat))]) := by
  have hpl : pl.length ≤ 30 := by have := h.len; have := hl.s1; omega
  have s0 : Sta pl pl [] := ⟨by simpa [gns] using h.nd, fun i hi => by simpa [gns] using hi, fun s hs => by cases hs⟩
  obtain ⟨p', left', st, a1, a2, a3, a4, a5⟩ := storm_loop pl (by omega) (some (plD pl)) (some (.int (m : Nat))) m 0 p pl [] hp s0 (by omega) (by simp; omega)
  simp only [List.length_nil, Nat.zero_add] at a3
  have a4' : (hts st).length = m := by simpa [hts] using a4
  have ok : SOk pl st := by
    refine ⟨by omega, by omega, fun s hs e => ?_, fun s hs e => by have := a2.low s hs e; omega, (List.nodup_append.mp a2.nd).2.1⟩
    refine a2.sub _ (List.mem_append_right _ ?_)
    unfold gns
    exact List.mem_filterMap.mpr ⟨s, hs, by rw [if_pos e]⟩
  refine ⟨st, p', ok, a2.low, a1, ?_⟩
  have f0 := hp.fz
  have f1 := a1.fz
  have sm : smallI (m : Nat) = true := smallI_nat (by omega) (by omega)
  have k1 : pl.length ≤ 16777216 := by omega
  have a5' : sForL wg2__law_storm wb2__law_storm [5, 6, 7] (rngD 0 m) [some p, some (plD pl), some (.int (m : Nat)), some (.lst true []), some (.lst true (pl.map fun i => .int (i : Nat))), none, none, none] = some (.nx, [some p', some (plD pl), some (.int (m : Nat)), some (.lst true (st.map Stp.d)), some (nL left'), none, none, none]) := a5
  have ld : listD [plD pl] = some (.lst true (pl.map fun i => .int (i : Nat))) := by
    unfold plD
    simp [listD, k1]
  unfold m__law_storm
  rw [ev_fn]
  simp [b__law_storm, ld, f0, f1, sm, a5']
theorem st_ep (s : Stp) : EP 1 s.d := EP.tup (.cons (.str _ (by cases s.h <;> decide)) (.cons (.int _) .nil))
theorem in_steps (s : Stp) (o : Bool) (A : List Stp) : inD s.d (.lst o (A.map Stp.d)) = some (.bl (A.any fun t => PyData.eqv t.d.toP s.d.toP)) := by
  have h1 : okIn s.d (A.map Stp.d) = false := rfl
  have h2 : okP s.d = true := (st_ep s).ok (by decide)
  have h3 : okP (.lst true (A.map Stp.d)) = true := (EP.lst (o := true) (EPL.all (n := 1) fun d hd => by
    obtain ⟨t, _, rfl⟩ := List.mem_map.mp hd
    exact st_ep t)).ok (by decide)
  have e : inD s.d (.lst o (A.map Stp.d)) = (if okIn s.d (A.map Stp.d) = true then some (.bl (inF s.d (A.map Stp.d))) else if (okP s.d && okP (.lst true (A.map Stp.d))) = true then some (.bl ((A.map Stp.d).any fun z => PyData.eqv z.toP s.d.toP)) else none) := rfl
  rw [e, h1, h2, h3, if_neg Bool.false_ne_true, if_pos (by rfl), List.any_map]
  rfl
theorem eqv_st (s t : Stp) (hs : s.h = false) (ht : t.h = false) : PyData.eqv t.d.toP s.d.toP = decide (t.n = s.n) := by
  unfold Stp.d
  rw [hs, ht]
  simp [D.toP, toPL, PyData.eqv, PyData.eqvAll]
  rw [Bool.eq_iff_iff, beq_iff_eq, decide_eq_true_eq]
  omega
theorem ni_step (s : Stp) (hs : s.h = false) (o : Bool) (A : List Stp) (hA : ∀ t ∈ A, t.h = false) : notInD s.d (.lst o (A.map Stp.d)) = some (.bl (!decide (s.n ∈ gns A))) := by
  unfold notInD
  rw [in_steps]
  have e : (A.any fun t => PyData.eqv t.d.toP s.d.toP) = decide (s.n ∈ gns A) := by
    rw [Bool.eq_iff_iff, List.any_eq_true, decide_eq_true_eq]
    constructor
    · rintro ⟨t, ht, e⟩
      rw [eqv_st s t hs (hA t ht), decide_eq_true_eq] at e
      unfold gns
      exact List.mem_filterMap.mpr ⟨t, ht, by rw [if_pos (hA t ht), e]⟩
    · intro h
      obtain ⟨t, ht, e1, e2⟩ := mem_gns h
      exact ⟨t, ht, by rw [eqv_st s t hs e1, decide_eq_true_eq]; exact e2⟩
  rw [e]
/-! ### more -/
theorem more_cl (x1 : Option D) : ∀ (st : List Stp) (p : D), Pot p → ∃ (A : List Stp) (p' : D), Pot p' ∧ A.Sublist st ∧ (∀ s ∈ A, s.h = false) ∧
    cL cg1__law_more ct1__law_more ce1__law_more [4] (st.map Stp.d) [some p, x1, none, none, none] = some (A.map Stp.d, [some p', x1, none, none, none])
  | [], p, hp => ⟨[], p, hp, List.Sublist.refl _, (fun k hk => absurd hk List.not_mem_nil), rfl⟩
  | s :: st, p, hp => by
    have f0 := hp.fz
    have out : ∀ p1 (o : Option D), stepC cg1__law_more ct1__law_more ce1__law_more [4] s.d [some p, x1, none, none, none] = some (o, [some p1, x1, none, none, none]) → Pot p1 → (o = none ∨ (o = some s.d ∧ s.h = false)) →
        ∃ (A : List Stp) (p' : D), Pot p' ∧ A.Sublist (s :: st) ∧ (∀ s ∈ A, s.h = false) ∧
        cL cg1__law_more ct1__law_more ce1__law_more [4] ((s :: st).map Stp.d) [some p, x1, none, none, none] = some (A.map Stp.d, [some p', x1, none, none, none]) := fun p1 o hst hp1 ho => by
      obtain ⟨A, p', a1, a2, a3, a4⟩ := more_cl x1 st p1 hp1
      rcases ho with rfl | ⟨rfl, hn⟩
      · refine ⟨A, p', a1, a2.cons _, a3, ?_⟩
        rw [List.map_cons, cL_step, hst]
        show bnd (cL _ _ _ _ (st.map _) _) _ = _
        rw [a4]
        rfl
      · refine ⟨s :: A, p', a1, a2.cons_cons _, fun t ht => ?_, ?_⟩
        · rcases List.mem_cons.mp ht with rfl | ht
          · exact hn
          · exact a3 t ht
        · rw [List.map_cons, cL_step, hst]
          show bnd (cL _ _ _ _ (st.map _) _) _ = _
          rw [a4]
          rfl
    cases e : s.h with
    | true =>
      refine out p none ?_ hp (.inl rfl)
      simp [stepC, e_cg1__law_more, e_ct1__law_more, e_ce1__law_more, e]
    | false =>
      obtain ⟨v, p1, hv, hp1, e1⟩ := draw hp 2 (by decide) (by decide)
      have f1 := hp1.fz
      have vv : v = 0 ∨ v = 1 := by omega
      rcases vv with rfl | rfl
      · have e1' : m__law_draw [p, .int 2] = some (.int 0, [some p1, some (.int 2)]) := e1
        refine out p1 (some s.d) ?_ hp1 (.inr ⟨rfl, e⟩)
        simp [stepC, e_cg1__law_more, e_ct1__law_more, e_ce1__law_more, e, e1', f0, f1]
      · have e1' : m__law_draw [p, .int 2] = some (.int 1, [some p1, some (.int 2)]) := e1
        refine out p1 none ?_ hp1 (.inl rfl)
        simp [stepC, e_cg1__law_more, e_ct1__law_more, e_ce1__law_more, e, e1', f0, f1]
theorem more_loop (x1 : Option D) (A : List Stp) (hA : ∀ s ∈ A, s.h = false) : ∀ (st acc : List Stp) (p : D), Pot p → acc.length + st.length ≤ 1000 → (∀ s ∈ st, s.h = true → s.n ≤ 1000) → ∃ (r : List Stp) (p' : D), Pot p' ∧ Mo (gns A) st r ∧
    sForL wg2__law_more wb2__law_more [4] (st.map Stp.d) [some p, x1, some (.lst true (acc.map Stp.d)), some (.lst true (A.map Stp.d)), none] = some (.nx, [some p', x1, some (.lst true ((acc ++ r).map Stp.d)), some (.lst true (A.map Stp.d)), none])
  | [], acc, p, hp, hz, ht => ⟨[], p, hp, .nil, by rw [List.append_nil]; rfl⟩
  | s :: st, acc, p, hp, hz, ht => by
    have f0 := hp.fz
    rw [List.length_cons] at hz
    rw [List.map_cons, ev_for1]
    have k1 : acc.length ≤ 16777215 := by omega
    have ht' := fun z hz => ht z (List.mem_cons_of_mem _ hz)
    cases e : s.h with
    | true =>
      obtain ⟨v, p1, hv, hp1, e1⟩ := draw hp 3 (by decide) (by decide)
      have f1 := hp1.fz
      obtain ⟨r, p', a1, a2, a3⟩ := more_loop x1 A hA st (acc ++ [Stp.mk true (s.n + v)]) p1 hp1 (by rw [List.length_append, List.length_singleton]; omega) ht'
      refine ⟨Stp.mk true (s.n + v) :: r, p', a1, .hour e (by omega) (by omega) a2, ?_⟩
      rw [show acc ++ Stp.mk true (s.n + v) :: r = acc ++ [Stp.mk true (s.n + v)] ++ r by rw [List.append_assoc]; rfl, ← a3]
      have sd : Stp.d (Stp.mk true (s.n + v)) = .tup false [.str (S [104, 111, 117, 114]), .int ((s.n : Nat) + (v : Nat))] := by
        unfold Stp.d
        rw [Int.natCast_add]
        rfl
      simp [e_wg2__law_more, e_wb2__law_more, e, e1, f0, f1, k1, sd]
    | false =>
      have nn := ni_step s e true A hA
      by_cases c : s.n ∈ gns A
      · obtain ⟨r, p', a1, a2, a3⟩ := more_loop x1 A hA st acc p hp (by omega) ht'
        refine ⟨r, p', a1, .drop e c a2, ?_⟩
        rw [← a3]
        simp [e_wg2__law_more, e_wb2__law_more, e, nn, c]
      · obtain ⟨r, p', a1, a2, a3⟩ := more_loop x1 A hA st (acc ++ [s]) p hp (by rw [List.length_append, List.length_singleton]; omega) ht'
        refine ⟨s :: r, p', a1, .keep e c a2, ?_⟩
        rw [show acc ++ s :: r = acc ++ [s] ++ r by rw [List.append_assoc]; rfl, ← a3]
        simp [e_wg2__law_more, e_wb2__law_more, e, nn, c, k1]
theorem q_more {p : D} (hp : Pot p) {l : Ld} (hl : LS l) {pl : List Nat} (h : POk l pl) {st : List Stp} (hs : SOk pl st) (h10 : ∀ s ∈ st, s.h = true → s.n ≤ 10) (x : D) (hx : IsSt x st) :
    ∃ (mo : List Stp) (p' : D), Pot p' ∧ SOk pl mo ∧ (hts mo).length = (hts st).length ∧ (∀ z ∈ (hts st).zip (hts mo), z.1 ≤ z.2) ∧ (∀ i, gN pl mo i ≤ gN pl st i) ∧
      m__law_more [p, x] = some (.lst true (mo.map Stp.d), [some p', some x]) := by
  have hz := hs.len
  have f0 := hp.fz
  have wk : ∀ x1 : Option D, ∃ (A : List Stp) (p1 : D), Pot p1 ∧ A.Sublist st ∧ (∀ s ∈ A, s.h = false) ∧ cL cg1__law_more ct1__law_more ce1__law_more [4] (st.map Stp.d) [some p, x1, none, none, none] = some (A.map Stp.d, [some p1, x1, none, none, none]) := fun x1 => more_cl x1 st p hp
  have wl : ∀ (x1 : Option D) (A : List Stp) (p1 : D), Pot p1 → (∀ s ∈ A, s.h = false) → ∃ (r : List Stp) (p' : D), Pot p' ∧ Mo (gns A) st r ∧ sForL wg2__law_more wb2__law_more [4] (st.map Stp.d) [some p1, x1, some (.lst true []), some (.lst true (A.map Stp.d)), none] = some (.nx, [some p', x1, some (.lst true (r.map Stp.d)), some (.lst true (A.map Stp.d)), none]) := fun x1 A p1 hp1 hA =>
    more_loop x1 A hA st [] p1 hp1 (by simp; omega) (fun s hs e => by have := h10 s hs e; omega)
  have fin : ∀ (A r : List Stp), A.Sublist st → (∀ s ∈ A, s.h = false) → Mo (gns A) st r → A.length ≤ 16777216 ∧ r.length ≤ 1000 ∧ A.length + r.length ≤ 16777216 := fun A r h1 h2 h3 => by
    obtain ⟨ok, _⟩ := more_ok hl h hs h10 h1 h2 h3
    have := ok.len
    rw [List.length_append] at this
    omega
  unfold m__law_more
  rw [ev_fn]
  rcases hx with rfl | rfl | rfl
  · obtain ⟨A, p1, hp1, hA, hA2, e1⟩ := wk none
    obtain ⟨r, p', hp', hm, e2⟩ := wl none A p1 hp1 hA2
    obtain ⟨k1, k2, k3⟩ := fin A r hA hA2 hm
    obtain ⟨b1, b2, b3, b4⟩ := more_ok hl h hs h10 hA hA2 hm
    have f1 := hp1.fz
    have f2 := hp'.fz
    refine ⟨A ++ r, p', hp', b1, b2, b3, b4, ?_⟩
    simp [b__law_more, backF, e1, e2, k1, k3, f0, f1, f2]
  · obtain ⟨A, p1, hp1, hA, hA2, e1⟩ := wk (some (.lst false (st.map Stp.d)))
    obtain ⟨r, p', hp', hm, e2⟩ := wl (some (.lst false (st.map Stp.d))) A p1 hp1 hA2
    obtain ⟨k1, k2, k3⟩ := fin A r hA hA2 hm
    obtain ⟨b1, b2, b3, b4⟩ := more_ok hl h hs h10 hA hA2 hm
    have f1 := hp1.fz
    have f2 := hp'.fz
    refine ⟨A ++ r, p', hp', b1, b2, b3, b4, ?_⟩
    simp [b__law_more, backF, e1, e2, k1, k3, f0, f1, f2]
  · obtain ⟨A, p1, hp1, hA, hA2, e1⟩ := wk (some (.tup false (st.map Stp.d)))
    obtain ⟨r, p', hp', hm, e2⟩ := wl (some (.tup false (st.map Stp.d))) A p1 hp1 hA2
    obtain ⟨k1, k2, k3⟩ := fin A r hA hA2 hm
    obtain ⟨b1, b2, b3, b4⟩ := more_ok hl h hs h10 hA hA2 hm
    have f1 := hp1.fz
    have f2 := hp'.fz
    refine ⟨A ++ r, p', hp', b1, b2, b3, b4, ?_⟩
    simp [b__law_more, backF, e1, e2, k1, k3, f0, f1, f2]
end K71

/-! k71: what is shown; what is the same. -/
namespace K71
open PySem PySem.Spec L2 MP

theorem fineL_all {n w : Nat} : ∀ {ds : List D}, (∀ d ∈ ds, Fine n w d) → FineL n (ds.length * (w + 1)) ds
  | [], _ => FineL.nil
  | d :: ds, h => by
    have := FineL.cons (h d (.head _)) (fineL_all (ds := ds) fun e z => h e (.tail _ z))
    refine this.mono (Nat.le_refl _) ?_
    rw [List.length_cons, Nat.add_mul]
    omega
theorem fine_oI {n w : Nat} {p : Option Int} (h : priceB p = true) : Fine n w (oI p) := by
  cases p with
  | none => exact Fine.non
  | some i =>
    unfold priceB at h
    rw [Bool.and_eq_true, decide_eq_true_eq, decide_eq_true_eq] at h
    exact Fine.int i (by omega)
theorem fine_ld {l : Ld} (h : LOk l) : Fine 3 5000 l.d := by
  have ff : ∀ d ∈ l.fs.map Fd.d, Fine 1 50 d := fun d hd => by
    obtain ⟨f, hf, rfl⟩ := List.mem_map.mp hd
    obtain ⟨i, hi⟩ := List.mem_iff_getElem?.mp hf
    obtain ⟨h1, h2, h3⟩ := h.nm i f hi
    have hl := h1.hi
    have s1 : Fine 0 f.nm.length (.str (S f.nm)) := Fine.str f.nm fun c hc => by
      have := h1.low c hc
      omega
    have s2 : Fine 0 5 (.str (S [102, 105, 101, 108, 100])) := Fine.str [102, 105, 101, 108, 100] (by simp)
    have i1 : Fine 0 0 (.int f.g) := Fine.int f.g (by omega)
    have i2 : Fine 0 0 (.int f.h) := Fine.int f.h (by omega)
    exact (Fine.tup (FineL.cons s2 (FineL.cons s1 (FineL.cons i1 (FineL.cons i2 (FineL.nil (w := 0))))))).mono (by omega) (by omega)
  have fs : ∀ d ∈ l.ss.map Sr.d, Fine 1 50 d := fun d hd => by
    obtain ⟨s, hs, rfl⟩ := List.mem_map.mp hd
    obtain ⟨h1, h2⟩ := h.st s hs
    have h3 := h.at_ s hs
    have h4 := h.f2
    have s2 : Fine 0 7 (.str (S [115, 116, 114, 101, 116, 99, 104])) := Fine.str [115, 116, 114, 101, 116, 99, 104] (by simp)
    have i1 : Fine 0 0 (.int (s.a : Nat)) := Fine.int _ (by omega)
    have i2 : Fine 0 0 (.int (s.b : Nat)) := Fine.int _ (by omega)
    have i3 : Fine 0 0 (.int s.c) := Fine.int _ (by omega)
    exact (Fine.tup (FineL.cons s2 (FineL.cons i1 (FineL.cons i2 (FineL.cons i3 (FineL.cons (fine_oI (w := 0) h2) (FineL.nil (w := 0)))))))).mono (by omega) (by omega)
  have g1 := fineL_all ff
  have g2 := fineL_all fs
  have h4 := h.f2
  have h5 := h.s1
  have s3 : Fine 2 4 (.str (S [108, 97, 110, 100])) := Fine.str [108, 97, 110, 100] (by simp)
  have := Fine.tup (o := false) (FineL.cons s3 (FineL.cons (Fine.tup (o := false) g1) (FineL.cons (Fine.tup (o := false) g2) (FineL.nil (w := 0)))))
  refine this.mono (by omega) ?_
  rw [List.length_map, List.length_map]
  omega
theorem fine_st {pl : List Nat} {st : List Stp} (hs : SOk pl st) (hp : ∀ k ∈ pl, k < 1000) : Fine 2 5000 (.lst true (st.map Stp.d)) := by
  have ff : ∀ d ∈ st.map Stp.d, Fine 1 40 d := fun d hd => by
    obtain ⟨s, hm, rfl⟩ := List.mem_map.mp hd
    have hn : s.n ≤ 1000 := by
      cases e : s.h with
      | true => exact hs.ht s hm e
      | false => exact Nat.le_of_lt (hp _ (hs.gn s hm e))
    have s1 : Fine 0 4 (.str (S (wd s.h))) := by
      cases s.h
      · exact Fine.str [103, 111, 110, 101] (by simp)
      · exact Fine.str [104, 111, 117, 114] (by simp)
    have i1 : Fine 0 0 (.int (s.n : Nat)) := Fine.int _ (by omega)
    exact (Fine.tup (FineL.cons s1 (FineL.cons i1 (FineL.nil (w := 0))))).mono (by omega) (by omega)
  have g := Fine.lst (o := true) (fineL_all ff)
  refine g.mono (by omega) ?_
  have := hs.len
  rw [List.length_map]
  omega
def shD (l : Ld) (st : List Stp) : D := .str (D.lst true [l.d, .lst true (st.map Stp.d)]).toP.shown
theorem ok_sh {l : Ld} (hl : LOk l) {pl : List Nat} (hp : POk l pl) {st : List Stp} (hs : SOk pl st) : okShow (.lst true [l.d, .lst true (st.map Stp.d)]) = true := by
  have h1 := fine_ld hl
  have h2 := fine_st hs fun k hk => by have := hp.lt k hk; have := hl.s1; omega
  have := Fine.lst (o := true) (FineL.cons (h1.mono (n' := 3) (by omega) (Nat.le_refl _)) (FineL.cons (h2.mono (n' := 3) (by omega) (Nat.le_refl _)) (FineL.nil (w := 0))))
  exact (this.mono (by omega) (Nat.le_refl _)).ok (by omega)
theorem sm_ints (hs : List Int) (h : hs.length ≤ 1000) : Sm 1 (.lst false (hs.map D.int)) := .lst (fun d hd => by
  obtain ⟨i, _, rfl⟩ := List.mem_map.mp hd
  exact .int i) (by rw [List.length_map]; omega)
theorem sm_plD (pl : List Nat) (h : pl.length ≤ 1000) : Sm 1 (plD pl) := .tup (fun d hd => by
  obtain ⟨i, _, rfl⟩ := List.mem_map.mp hd
  exact .int _) (by rw [List.length_map]; omega)
theorem sm_row (r : Lv) (h : r.length ≤ 1000) : Sm 1 (rowD r) := .tup (fun d hd => by
  obtain ⟨i, _, rfl⟩ := List.mem_map.mp hd
  exact sm_oI i) (by rw [List.length_map]; omega)
theorem sm_rows (rs : List Lv) (h : rs.length ≤ 1000) (hr : ∀ r ∈ rs, r.length ≤ 1000) : Sm 2 (.lst false (rs.map rowD)) := .lst (fun d hd => by
  obtain ⟨r, hm, rfl⟩ := List.mem_map.mp hd
  exact sm_row r (hr r hm)) (by rw [List.length_map]; omega)
theorem sm_head (xs : List Nat) : Sm 0 (headD xs) := by
  cases xs
  · exact .non
  · exact .int _
theorem same2 {n : Nat} {d : D} (h : Sm n d) (hn : n ≤ 6) : m__law_same [.lst false [d, d], .lst false [d, d]] = some (.bl true, [some (.lst false [d, d]), some (.lst false [d, d])]) :=
  same7 ((Sm.lst (n := n) (fun e he => by
    simp only [List.mem_cons, List.not_mem_nil, or_false] at he
    rcases he with rfl | rfl <;> exact h) (by simp)).mono (by omega))
theorem any_no {α : Type} (xs : List α) (o : Bool) : anyD [.lst o (xs.map fun _ => D.bl false)] = some (.bl false) := by
  have e : (xs.map fun _ => D.bl false) = (xs.map fun _ => false).map D.bl := by rw [List.map_map]; rfl
  have e2 : (xs.map fun _ => false).any id = false := by
    rw [List.any_map, List.any_eq_false]
    exact fun _ _ h => nomatch h
  rw [e]
  show (match boolsOf ((xs.map fun _ => false).map D.bl) with | some bs => some (D.bl (bs.any id)) | none => none) = _
  rw [boolsOf_map]
  show some (D.bl ((xs.map fun _ => false).any id)) = _
  rw [e2]
end K71

/-! k71: a right turn: hour by hour. -/
namespace K71
open PySem PySem.Spec L2 MP

theorem cut_take (xs : List D) (k : Nat) : cutD xs none (some ((k : Nat) + 1 : Int)) = xs.take (k + 1) := by
  unfold cutD
  have e : HT.sIx xs.length xs.length (some ((k : Nat) + 1 : Int)) = min (k + 1) xs.length := by
    have := HT.sIx_nat xs.length xs.length (k + 1)
    rw [show (((k + 1 : Nat)) : Int) = (k : Nat) + 1 by omega] at this
    exact this
  rw [e, HT.sIx_none]
  rw [List.drop_zero, Nat.sub_zero]
  rcases Nat.le_total (k + 1) xs.length with h | h
  · rw [Nat.min_eq_left h]
  · rw [Nat.min_eq_right h, List.take_of_length_le (Nat.le_refl _), List.take_of_length_le h]
@[simp] theorem frz_plD (pl : List Nat) : (plD pl).frz = plD pl := frz_of_frozen _ (fz_plD pl)
theorem hour1 {l : Ld} (hl : LOk l) {pl : List Nat} (hp : POk l pl) {st : List Stp} (hs : SOk pl st) (k : Nat) (hk : k < (hts st).length) (p q sh : D) (K : En → Option (Ctl × En)) :
    bnd (wg4__law_right (.int (k : Nat)) [some p, some q, some l.d, some (plD pl), some (.lst true (st.map Stp.d)), some (.lst false ((hts st).map D.int)), some (.lst true (gL l.ss.length (gN pl st))), some sh, some (.lst false ((rows l (gN pl st) (hts st)).map rowD)), none, none, none, none, none, none, none, none, none, none, none, none]) (fun E1 => loopK (wb4__law_right E1) [9, 10, 16] K)
      = K [some p, some q, some l.d, some (plD pl), some (.lst true (st.map Stp.d)), some (.lst false ((hts st).map D.int)), some (.lst true (gL l.ss.length (gN pl st))), some sh, some (.lst false ((rows l (gN pl st) (hts st)).map rowD)), none, none, none, none, none, none, none, none, none, none, none, none] := by
  have hpl := hp.len
  have hss := hl.s1
  have hff := hl.f2
  have hok := hts_ok hs
  have gone := p_gone_by hl hp hs (.lst true (st.map Stp.d)) (.inl rfl) k hk
  generalize hrs : rows l (gN pl st) (hts st) = rs
  have hln : rs.length = (hts st).length := by
    rw [← hrs]
    exact rowsF_len _ _ _
  have hrl : ∀ r ∈ rs, r.length = l.fs.length := fun r hm => by
    rw [← hrs] at hm
    exact (rowsF_ok (hts st) 0 _ hok (okl_none _) r hm).len
  have hr : rs[k]? = some rs[k] := List.getElem?_eq_getElem (by omega)
  generalize rs[k] = r at hr
  have mem : ∀ x ∈ r, ∀ a, x = some a → a ∈ (hts st).take (k + 1) := by
    have := rowsF_mem (g := gN pl st) (hts st) 0 (List.replicate l.fs.length none) [] hok (okl_none _) (fun x hx a e => by
      rw [List.eq_of_mem_replicate hx] at e
      cases e) k r (by rw [← hrs] at hr; exact hr)
    simpa using this
  have rl : r.length = l.fs.length := hrl r (List.mem_of_getElem? hr)
  have c1 : ∀ x10 : Option D, cL cg1__law_right ct1__law_right ce1__law_right [16] (pl.map fun i => D.int (i : Nat)) [some p, some q, some l.d, some (plD pl), some (.lst true (st.map Stp.d)), some (.lst false ((hts st).map D.int)), some (.lst true (gL l.ss.length (gN pl st))), some sh, some (.lst false (rs.map rowD)), some (.int (k : Nat)), x10, none, none, none, none, none, none, none, none, none, none]
      = some ((pl.filter fun i => decide (gN pl st i ≤ k)).map fun i => D.int (i : Nat), [some p, some q, some l.d, some (plD pl), some (.lst true (st.map Stp.d)), some (.lst false ((hts st).map D.int)), some (.lst true (gL l.ss.length (gN pl st))), some sh, some (.lst false (rs.map rowD)), some (.int (k : Nat)), x10, none, none, none, none, none, none, none, none, none, none]) := fun x10 => by
    rw [cL_fo (fun i : Nat => D.int (i : Nat)) (fun i => if decide (gN pl st i ≤ k) = true then some (D.int (i : Nat)) else none) _ fun i hi => ?_, fm_filter]
    have h := ix_gL l.ss.length (gN pl st) true i (hp.lt i hi)
    by_cases c : gN pl st i ≤ k <;> simp [stepC, e_cg1__law_right, e_ct1__law_right, e_ce1__law_right, h, c]
  generalize hfl : (pl.filter fun i => decide (gN pl st i ≤ k)) = fl at c1 gone
  have fll : fl.length ≤ 1000 := by
    rw [← hfl]
    have : (pl.filter fun i => decide (gN pl st i ≤ k)).length ≤ pl.length := List.length_filter_le _ _
    omega
  have k1 : fl.length ≤ 16777216 := by omega
  have sm := same2 (sm_plD fl fll) (by decide)
  have c2 : ∀ x10 : Option D, cL cg2__law_right ct2__law_right ce2__law_right [17] (r.map oI) [some p, some q, some l.d, some (plD pl), some (.lst true (st.map Stp.d)), some (.lst false ((hts st).map D.int)), some (.lst true (gL l.ss.length (gN pl st))), some sh, some (.lst false (rs.map rowD)), some (.int (k : Nat)), x10, none, none, none, none, none, none, none, none, none, none]
      = some (r.map (fun _ => D.bl false), [some p, some q, some l.d, some (plD pl), some (.lst true (st.map Stp.d)), some (.lst false ((hts st).map D.int)), some (.lst true (gL l.ss.length (gN pl st))), some sh, some (.lst false (rs.map rowD)), some (.int (k : Nat)), x10, none, none, none, none, none, none, none, none, none, none]) := fun x10 =>
    cL_of oI (fun _ => D.bl false) r fun x hx => by
      cases x with
      | none => simp [stepC, e_cg2__law_right, ct2__law_right, e_ce2__law_right, oI]
      | some a =>
        have hm := mem _ hx a rfl
        have h1 : notInD (.int a) (.lst true (((hts st).take (k + 1)).map D.int)) = some (.bl false) := by
          unfold notInD
          rw [in_intsL]
          simp [hm]
        have h2 : slD (.lst false ((hts st).map D.int)) none (some ((k : Nat) + 1 : Int)) = some (.lst true (((hts st).take (k + 1)).map D.int)) := by
          rw [sl_lst', fz_ints, if_pos rfl, cut_take, List.map_take]
        simp [stepC, e_cg2__law_right, ct2__law_right, e_ce2__law_right, oI, h2, -sl_lst', h1, -List.map_take]
  have a2 := any_no r true
  have k2 : r.length ≤ 16777216 := by omega
  have pm : ([3, 2, 1, 0].isPerm (List.range 4)) = true := by decide
  have pm' : (([3, 2, 1, 0] : List Nat).isPerm [0, 1, 2, 3]) = true := by decide
  have rd : rowD r = .tup false (r.map oI) := rfl
  have e10 : D.tup false (fl.map fun i => D.int (i : Nat)) = plD fl := rfl
  have ep : plD pl = .tup false (pl.map fun i => D.int (i : Nat)) := rfl
  have gk : rs[k]? = some r := hr
  have ixr : ixD (.lst false (rs.map rowD)) (.int (k : Nat)) = some (rowD r) := by
    simp [atI_nat', gk]
  by_cases c0 : 0 < k
  · have c0' : (0 : Int) < (k : Nat) := by omega
    have ek : ((k : Nat) : Int) - 1 = ((k - 1 : Nat) : Int) := by omega
    have hr0 : rs[k - 1]? = some rs[k - 1] := List.getElem?_eq_getElem (by omega)
    generalize rs[k - 1] = r0 at hr0
    have ixr0 : ixD (.lst false (rs.map rowD)) (.int ((k - 1 : Nat) : Int)) = some (rowD r0) := by
      simp [atI_nat', hr0]
    have rise : leF r0 r := by
      have := rowsF_rise (g := gN pl st) (hts st) 0 (List.replicate l.fs.length none) hok (okl_none _) k r0 r (by
        have e : rowsF l (gN pl st) 0 (hts st) (List.replicate l.fs.length none) = rs := hrs
        rw [e]
        obtain ⟨j, rfl⟩ : ∃ j, k = j + 1 := ⟨k - 1, by omega⟩
        rw [List.getElem?_cons_succ]
        exact hr0) (by
        have e : rowsF l (gN pl st) 0 (hts st) (List.replicate l.fs.length none) = rs := hrs
        rw [e]
        exact hr)
      exact this
    have rl0 : r0.length = l.fs.length := hrl r0 (List.mem_of_getElem? hr0)
    have c3 : ∀ x10 : Option D, cL cg3__law_right ct3__law_right ce3__law_right [17, 18] (zipD (r.map oI) (r0.map oI)) [some p, some q, some l.d, some (plD pl), some (.lst true (st.map Stp.d)), some (.lst false ((hts st).map D.int)), some (.lst true (gL l.ss.length (gN pl st))), some sh, some (.lst false (rs.map rowD)), some (.int (k : Nat)), x10, none, none, none, none, none, none, none, none, none, none]
      = some ((r.zip r0).map (fun _ => D.bl false), [some p, some q, some l.d, some (plD pl), some (.lst true (st.map Stp.d)), some (.lst false ((hts st).map D.int)), some (.lst true (gL l.ss.length (gN pl st))), some sh, some (.lst false (rs.map rowD)), some (.int (k : Nat)), x10, none, none, none, none, none, none, none, none, none, none]) := fun x10 => by
      rw [zip_map]
      refine cL_of (fun z : Option Int × Option Int => D.tup false [oI z.1, oI z.2]) (fun _ => D.bl false) _ fun z hz => ?_
      obtain ⟨i, hi⟩ := List.mem_iff_getElem?.mp hz
      rw [List.getElem?_zip_eq_some] at hi
      have g1 : gt r i = z.1 := by
        unfold gt
        rw [List.getD_eq_getElem?_getD, hi.1]
        rfl
      have g2 : gt r0 i = z.2 := by
        unfold gt
        rw [List.getD_eq_getElem?_getD, hi.2]
        rfl
      have u := rise i
      rw [g1, g2] at u
      have ql := q_less z.1 z.2
      rw [show up z.1 z.2 = false from u] at ql
      simp [stepC, e_cg3__law_right, ct3__law_right, e_ce3__law_right, ql]
    have a3 := any_no (r.zip r0) true
    have k3 : min r.length r0.length ≤ 16777216 := by omega
    have rd0 : rowD r0 = .tup false (r0.map oI) := rfl
    have mz : mkZipA [.tup false (r.map oI), .tup false (r0.map oI)] = some (zipD (r.map oI) (r0.map oI)) := by
      show (if frozenL (r.map oI) = true then (if frozenL (r0.map oI) = true then some (zipD (r.map oI) (r0.map oI)) else none) else none) = _
      rw [fz_lv, fz_lv]
      rfl
    rw [ep] at c1 c2 c3 gone ⊢
    simp [e_wg4__law_right, e_wb4__law_right, backF, tupleD, c1, k1, e10, gone, pm, pm', pick, sm, ixr, rd, c2, a2, k2, c0, c0', ek, ixr0, rd0, mz, c3, k3, a3]
    done
  · have c0' : ¬ (0 : Int) < (k : Nat) := by omega
    rw [ep] at c1 c2 gone ⊢
    simp [e_wg4__law_right, e_wb4__law_right, backF, tupleD, c1, k1, e10, gone, pm, pm', pick, sm, ixr, rd, c2, a2, k2, c0, c0']
    done
end K71

/-! k71: a right turn: the loops. -/
namespace K71
open PySem PySem.Spec L2 MP

theorem hours_for {l : Ld} (hl : LOk l) {pl : List Nat} (hp : POk l pl) {st : List Stp} (hs : SOk pl st) (p q sh : D) : ∀ (ks : List Nat), (∀ k ∈ ks, k < (hts st).length) →
    sForL wg4__law_right wb4__law_right [9, 10, 16] (ks.map fun i => D.int (i : Nat)) [some p, some q, some l.d, some (plD pl), some (.lst true (st.map Stp.d)), some (.lst false ((hts st).map D.int)), some (.lst true (gL l.ss.length (gN pl st))), some sh, some (.lst false ((rows l (gN pl st) (hts st)).map rowD)), none, none, none, none, none, none, none, none, none, none, none, none]
      = some (.nx, [some p, some q, some l.d, some (plD pl), some (.lst true (st.map Stp.d)), some (.lst false ((hts st).map D.int)), some (.lst true (gL l.ss.length (gN pl st))), some sh, some (.lst false ((rows l (gN pl st) (hts st)).map rowD)), none, none, none, none, none, none, none, none, none, none, none, none])
  | [], _ => rfl
  | k :: ks, hk => by
    rw [List.map_cons, ev_for1, hour1 hl hp hs k (hk k List.mem_cons_self)]
    exact hours_for hl hp hs p q sh ks fun z hz => hk z (List.mem_cons_of_mem _ hz)
theorem fz_head (xs : List Nat) : (headD xs).frozen = true := (sm_head xs).fz
theorem turn_for {l : Ld} (hl : LOk l) {pl : List Nat} (hp : POk l pl) {st : List Stp} (hs : SOk pl st) (p sh : D) : ∀ (k : Nat) (i : Int) (q : D), Pot q → ∃ q', Pot q' ∧
    sForL wg5__law_right wb5__law_right [11, 12, 13, 14] (rngD i k) [some p, some q, some l.d, some (plD pl), some (.lst true (st.map Stp.d)), some (.lst false ((hts st).map D.int)), some (.lst true (gL l.ss.length (gN pl st))), some sh, some (.lst false ((rows l (gN pl st) (hts st)).map rowD)), none, none, none, none, none, none, none, none, none, none, none, none]
      = some (.nx, [some p, some q', some l.d, some (plD pl), some (.lst true (st.map Stp.d)), some (.lst false ((hts st).map D.int)), some (.lst true (gL l.ss.length (gN pl st))), some sh, some (.lst false ((rows l (gN pl st) (hts st)).map rowD)), none, none, none, none, none, none, none, none, none, none, none, none])
  | 0, i, q, hq => ⟨q, hq, rfl⟩
  | k + 1, i, q, hq => by
    have hff := hl.f2
    have hf1 := hl.f1
    obtain ⟨j, q1, hj, hq1, e1⟩ := draw hq (l.fs.length : Nat) (by omega) (by omega)
    obtain ⟨v, q2, hv, hq2, e2⟩ := draw hq1 13 (by decide) (by decide)
    obtain ⟨q', hq', e3⟩ := turn_for hl hp hs p sh k (i + 1) q2 hq2
    refine ⟨q', hq', ?_⟩
    rw [rng_cons, ev_for1, ← e3]
    have g0 := hq.fz
    have g1 := hq1.fz
    have g2 := hq2.fz
    have pf := p_first_hour hl hp hs (.lst true (st.map Stp.d)) (.inl rfl) j (by omega) v (by omega)
    generalize hrs : rows l (gN pl st) (hts st) = rs at pf ⊢
    have hok := hts_ok hs
    have hrl : ∀ r ∈ rs, r.length = l.fs.length := fun r hm => by
      rw [← hrs] at hm
      exact (rowsF_ok (hts st) 0 _ hok (okl_none _) r hm).len
    have hln : rs.length ≤ 1000 := by
      rw [← hrs]
      have := rowsF_len (l := l) (g := gN pl st) (hts st) 0 (List.replicate l.fs.length none)
      have h5 := hs.hrs
      show (rowsF l (gN pl st) 0 (hts st) _).length ≤ 1000
      omega
    have qf := q_first rs l.fs.length j (by omega) hrl hln v false
    have sm := same2 (sm_head (fsts rs j v)) (by decide)
    have fh := fz_head (fsts rs j v)
    have fr := frz_of_frozen _ fh
    generalize headD (fsts rs j v) = hd at qf pf sm fh fr
    have pm : ([4, 3, 2, 1, 0].isPerm (List.range 5)) = true := by decide
    have pm' : (([4, 3, 2, 1, 0] : List Nat).isPerm [0, 1, 2, 3, 4]) = true := by decide
    simp [e_wg5__law_right, e_wb5__law_right, e1, e2, g0, g1, g2, qf, pf, sm, fh, fr, pm, pm', pick]
    done
end K71

/-! k71: a right turn, whole. -/
namespace K71
open PySem PySem.Spec L2 MP

@[simp] theorem frzL_ints (xs : List Int) : frzL (xs.map D.int) = xs.map D.int := frzL_of_frozen _ (fz_ints xs)
@[simp] theorem frzL_rows (xs : List Lv) : frzL (xs.map rowD) = xs.map rowD := frzL_of_frozen _ (fz_rows xs)
theorem q_right {p q : D} (hp : Pot p) (hq : Pot q) : ∃ p' q', Pot p' ∧ Pot q' ∧ m__law_right [p, q] = some (.bl true, [some p', some q']) := by
  obtain ⟨l, p1, hl, hp1, e1⟩ := q_land hp
  obtain ⟨pl, p2, hpl, hp2, e2⟩ := q_plan hp1 l hl.toLS
  obtain ⟨m, p3, hm, hp3, e3⟩ := draw hp2 7 (by decide) (by decide)
  obtain ⟨st, p4, hst, h10, hp4, e4⟩ := q_storm hp3 hl.toLS hpl m (by omega)
  have f0 := hp.fz
  have f1 := hp1.fz
  have f2 := hp2.fz
  have f3 := hp3.fz
  have f4 := hp4.fz
  have g0 := hq.fz
  have hff := hl.f2
  have hss := hl.s1
  have hln := hst.len
  have hhr := hst.hrs
  have hok := hts_ok hst
  have qh := q_heights (.lst true (st.map Stp.d)) st (.inl rfl) (by omega)
  have qg := q_hours l hl.toLS (.lst true (st.map Stp.d)) pl hpl st (.inl rfl) (by omega) hst.gn
  have qs := ok_sh hl hpl hst
  have ql := q_levels l hl.toLS (gN pl st) true true (hts st) hok (by omega)
  have ph1 := p_heights_of hl hpl hst (.lst true (st.map Stp.d)) (.inl rfl)
  have ph2 := p_heights_of hl hpl hst (.tup false (st.map Stp.d)) (.inr (.inr rfl))
  have pv := p_levels hl hpl hst (.lst true (st.map Stp.d)) (.inl rfl)
  have sm1 := same2 (sm_ints (hts st) (by omega)) (by decide)
  have hours := hours_for hl hpl hst p4 q (shD l st) (List.range (hts st).length) fun k hk => List.mem_range.mp hk
  obtain ⟨q1, hq1, turns⟩ := turn_for hl hpl hst p4 (shD l st) 4 0 q hq
  have g1 := hq1.fz
  obtain ⟨mo, q2, hq2, hmo, m1, m2, m3, e5⟩ := q_more hq1 hl.toLS hpl hst h10 (.lst true (st.map Stp.d)) (.inl rfl)
  have g2 := hq2.fz
  have pm := p_levels hl hpl hmo (.lst true (mo.map Stp.d)) (.inl rfl)
  have mono := rowsF_mono hl.toLS m3 (hts st) (hts mo) 0 (List.replicate l.fs.length none) (List.replicate l.fs.length none) hok (hts_ok hmo) (okl_none _) (okl_none _) (leF_refl _) m2
  have rn := mk_rng (hts st).length (by omega)
  have r4 : mkRng1 [.int 4] = some (rngD 0 4) := by
    rw [rng1, if_pos (smallI_nat (by omega) (by omega))]
    rfl
  have mono' : ∀ z ∈ (rows l (gN pl mo) (hts mo)).zip (rows l (gN pl st) (hts st)), leF z.2 z.1 := mono
  have rsl : (rows l (gN pl st) (hts st)).length ≤ 1000 := by
    have := rowsF_len (l := l) (g := gN pl st) (hts st) 0 (List.replicate l.fs.length none)
    show (rowsF l (gN pl st) 0 (hts st) _).length ≤ 1000
    omega
  have rsl2 : (rows l (gN pl mo) (hts mo)).length ≤ 1000 := by
    have := rowsF_len (l := l) (g := gN pl mo) (hts mo) 0 (List.replicate l.fs.length none)
    have := hmo.hrs
    show (rowsF l (gN pl mo) 0 (hts mo) _).length ≤ 1000
    omega
  have rr1 : ∀ r ∈ rows l (gN pl st) (hts st), r.length ≤ 1000 := fun r hm => by
    have := (rowsF_ok (hts st) 0 _ hok (okl_none _) r hm).len
    omega
  have rr2 : ∀ r ∈ rows l (gN pl mo) (hts mo), r.length ≤ 1000 := fun r hm => by
    have := (rowsF_ok (hts mo) 0 _ (hts_ok hmo) (okl_none _) r hm).len
    omega
  generalize rows l (gN pl st) (hts st) = rs at *
  generalize rows l (gN pl mo) (hts mo) = rm at *
  have smr := sm_rows rs rsl rr1
  have sm2 := same2 smr (by decide)
  have sm3 := same7 (smr.mono (m := 7) (by decide))
  have c6 : ∀ (a b : Lv), leF b a → ∀ x0 x1 x2 x3 x4 x5 x6 x7 x8 x15 x19 x20 : Option D, cL cg6__law_right ct6__law_right ce6__law_right [17, 18] (zipD (a.map oI) (b.map oI)) [x0, x1, x2, x3, x4, x5, x6, x7, x8, none, none, none, none, none, none, x15, none, none, none, x19, x20] = some ((a.zip b).map (fun _ => D.bl false), [x0, x1, x2, x3, x4, x5, x6, x7, x8, none, none, none, none, none, none, x15, none, none, none, x19, x20]) := fun a b hab x0 x1 x2 x3 x4 x5 x6 x7 x8 x15 x19 x20 => by
    rw [zip_map]
    refine cL_of (fun z : Option Int × Option Int => D.tup false [oI z.1, oI z.2]) (fun _ => D.bl false) _ fun z hz => ?_
    obtain ⟨i, hi⟩ := List.mem_iff_getElem?.mp hz
    rw [List.getElem?_zip_eq_some] at hi
    have g1 : gt a i = z.1 := by
      unfold gt
      rw [List.getD_eq_getElem?_getD, hi.1]
      rfl
    have g2 : gt b i = z.2 := by
      unfold gt
      rw [List.getD_eq_getElem?_getD, hi.2]
      rfl
    have u := hab i
    rw [g1, g2] at u
    have ql := q_less z.1 z.2
    rw [show up z.1 z.2 = false from u] at ql
    simp [stepC, e_cg6__law_right, ct6__law_right, e_ce6__law_right, ql]
  have c7 : ∀ x0 x1 x2 x3 x4 x5 x6 x7 x8 x15 : Option D, cL cg7__law_right ct7__law_right ce7__law_right [19, 20] (zipD (rm.map rowD) (rs.map rowD)) [x0, x1, x2, x3, x4, x5, x6, x7, x8, none, none, none, none, none, none, x15, none, none, none, none, none] = some ((rm.zip rs).map (fun _ => D.bl false), [x0, x1, x2, x3, x4, x5, x6, x7, x8, none, none, none, none, none, none, x15, none, none, none, none, none]) := fun x0 x1 x2 x3 x4 x5 x6 x7 x8 x15 => by
    rw [zip_map]
    refine cL_of (fun z : Lv × Lv => D.tup false [rowD z.1, rowD z.2]) (fun _ => D.bl false) _ fun z hz => ?_
    have c := c6 z.1 z.2 (mono' z hz) x0 x1 x2 x3 x4 x5 x6 x7 x8 x15 (some (rowD z.1)) (some (rowD z.2))
    have a6 := any_no (z.1.zip z.2) true
    have z1 := rr2 z.1 (List.of_mem_zip (show (z.1, z.2) ∈ rm.zip rs from hz)).1
    have k6 : min z.1.length z.2.length ≤ 16777216 := by omega
    have mz : mkZipA [rowD z.1, rowD z.2] = some (zipD (z.1.map oI) (z.2.map oI)) := by
      show (if frozenL (z.1.map oI) = true then (if frozenL (z.2.map oI) = true then some (zipD (z.1.map oI) (z.2.map oI)) else none) else none) = _
      rw [fz_lv, fz_lv]
      rfl
    simp [stepC, e_cg7__law_right, ct7__law_right, e_ce7__law_right, backF, mz, c, a6, k6]
  have a7 := any_no (rm.zip rs) true
  have k7 : min rm.length rs.length ≤ 16777216 := by omega
  have k8 : rs.length ≤ 16777215 := by omega
  have pm' : (([2, 1, 0] : List Nat).isPerm [0, 1, 2]) = true := by decide
  have pm3 : ([2, 1, 0].isPerm (List.range 3)) = true := by decide
  unfold shD at hours turns
  refine ⟨p4, q2, hp4, hq2, ?_⟩
  unfold m__law_right
  rw [ev_fn]
  simp [b__law_right, backF, tupleD, e1, e2, e3, e4, f0, f1, f2, f3, f4, g0, qh, qg, qs, ql, ph1, ph2, pv, sm1, sm2, sm3, pick, pm', pm3, rn, -rng1, hours, r4, turns, g1, e5, g2, pm, c7, a7, k7, k8]
  done
end K71

/-! k71: the law. -/
namespace K71
open PySem PySem.Spec L2 MP

theorem rights (x0 : Option D) : ∀ (xs : List D) (p q : D), Pot p → Pot q → ∃ p' q', Pot p' ∧ Pot q' ∧ cL cg1_law ct1_law ce1_law [3] xs [x0, some p, some q, none] = some ((xs.map fun _ => true).map D.bl, [x0, some p', some q', none])
  | [], p, q, hp, hq => ⟨p, q, hp, hq, rfl⟩
  | x :: xs, p, q, hp, hq => by
    obtain ⟨p1, q1, hp1, hq1, e⟩ := q_right hp hq
    obtain ⟨p', q', hp', hq', e2⟩ := rights x0 xs p1 q1 hp1 hq1
    refine ⟨p', q', hp', hq', ?_⟩
    have f0 := hp.fz
    have f1 := hq.fz
    have f2 := hp1.fz
    have f3 := hq1.fz
    rw [ev_cl1]
    unfold ct1_law at e2 ⊢
    simp [e_cg1_law, e_ce1_law, e, f0, f1, f2, f3, e2, -List.map_map, -List.map_const_fun]
theorem says : Says m_law 63 := fun ns _ => by
  obtain ⟨x, y, hp, e1⟩ := q_pot ns 0 (by decide)
  obtain ⟨x', y', hp', e2⟩ := q_pot ns 1 (by decide)
  rw [show ((0 : Nat) : Int) = 0 from rfl] at e1
  rw [show ((1 : Nat) : Int) = 1 from rfl] at e2
  have P1 : Pot (.lst true [.int x, .int y]) := ⟨x, y, hp, rfl⟩
  have P2 : Pot (.lst true [.int x', .int y']) := ⟨x', y', hp', rfl⟩
  generalize D.lst true [.int x, .int y] = p at e1 P1
  generalize D.lst true [.int x', .int y'] = q at e2 P2
  have f0 := P1.fz
  have f1 := P2.fz
  obtain ⟨p1, q1, hp1, hq1, c1⟩ := rights (some (.scr ns)) (rngD 0 5) p q P1 P2
  have f2 := hp1.fz
  have f3 := hq1.fz
  have al : allD [.lst true (((rngD 0 5).map fun _ => true).map D.bl)] = some (.bl true) := by
    rw [all_bls]
    rfl
  have ll : (((rngD 0 5).map fun _ => true).map D.bl).length = 5 := rfl
  refine ⟨[some (.scr ns)], ?_⟩
  unfold m_law
  rw [ev_fn]
  generalize ((rngD 0 5).map fun _ => true).map D.bl = R at c1 al ll
  simp [b_law, e1, e2, f0, f1]
  rw [if_pos (smallI_nat (by omega) (by omega))]
  simp [c1, al, ll, f2, f3, backF]
end K71

open PySem PySem.W PyProof.Rows
set_option maxHeartbeats 0 in
theorem PySem.Challenge.cw_lowland_k71_whole_levels_hour_by_hour_holds : PySem.Challenge.rw_lowland_k71_whole_levels_hour_by_hour.Holds := by
  w_on; o_law; k_head; (case hw => w_witness2)
  k_fill
  refine MP.walk_in (l := PySem.Challenge.rw_lowland_k71_whole_levels_hour_by_hour) (n := 63) (k := 11) (x := "script") (mf := K71.m_law) rfl (by decide) rfl ⟨rfl, by decide, by decide⟩ (fun w h Y => PySem.W.kIn_of Y) ?qqF K71.says
  case qqF =>
    intro w mg fa h KX G hmg
    refine' K71.law_in (h := h) (K71.facts_mk KX G ?qqa0 ?qql0 ?qqc0 ?qqk0 ?qqa1 ?qql1 ?qqc1 ?qqk1 ?qqa2 ?qql2 ?qqc2 ?qqk2 ?qqa3 ?qql3 ?qqc3 ?qqk3 ?qqa4 ?qql4 ?qqc4 ?qqk4 ?qqa5 ?qql5 ?qqc5 ?qqk5 ?qqa6 ?qql6 ?qqc6 ?qqk6 ?qqa7 ?qql7 ?qqc7 ?qqk7 ?qqa8 ?qql8 ?qqc8 ?qqk8 ?qqa9 ?qql9 ?qqc9 ?qqk9 ?qqa10 ?qql10 ?qqc10 ?qqk10 ?qqa11 ?qql11 ?qqc11 ?qqk11 ?qqa12 ?qql12 ?qqc12 ?qqk12 ?qqa13 ?qql13 ?qqc13 ?qqk13 ?qqa14 ?qql14 ?qqc14 ?qqk14 ?qqa15 ?qql15 ?qqc15 ?qqk15 ?qqa16 ?qql16 ?qqc16 ?qqk16 ?qqa17 ?qql17 ?qqc17 ?qqk17 ?qqa18 ?qql18 ?qqc18 ?qqk18 ?qqa19 ?qql19 ?qqc19 ?qqk19 ?qqa20 ?qql20 ?qqc20 ?qqk20 ?qqa21 ?qql21 ?qqc21 ?qqk21 ?qqa22 ?qql22 ?qqc22 ?qqk22 ?qqa23 ?qql23 ?qqc23 ?qqk23 ?qqa24 ?qql24 ?qqc24 ?qqk24 ?qqa25 ?qql25 ?qqc25 ?qqk25 ?qqa26 ?qql26 ?qqc26 ?qqk26 ?qqa27 ?qql27 ?qqc27 ?qqk27 ?qqa28 ?qql28 ?qqc28 ?qqk28 ?qqa29 ?qql29 ?qqc29 ?qqk29 ?qqa30 ?qql30 ?qqc30 ?qqk30 ?qqa31 ?qql31 ?qqc31 ?qqk31 ?qqa32 ?qql32 ?qqc32 ?qqk32 ?qqa33 ?qql33 ?qqc33 ?qqk33 ?qqa34 ?qql34 ?qqc34 ?qqk34 ?qqa35 ?qql35 ?qqc35 ?qqk35 ?qqa36 ?qql36 ?qqc36 ?qqk36 ?qqa37 ?qql37 ?qqc37 ?qqk37 ?qqa38 ?qql38 ?qqc38 ?qqk38 ?qqa39 ?qql39 ?qqc39 ?qqk39 ?qqa40 ?qql40 ?qqc40 ?qqk40 ?qqa41 ?qql41 ?qqc41 ?qqk41 ?qqa42 ?qql42 ?qqc42 ?qqk42 ?qqa43 ?qql43 ?qqc43 ?qqk43 ?qqa44 ?qql44 ?qqc44 ?qqk44 ?qqa45 ?qql45 ?qqc45 ?qqk45 ?qqa46 ?qql46 ?qqc46 ?qqk46 ?qqa47 ?qql47 ?qqc47 ?qqk47 ?qqa48 ?qql48 ?qqc48 ?qqk48 ?qqa49 ?qql49 ?qqc49 ?qqk49 ?qqz0 ?qqz1 ?qqz2 ?qqz3 ?qqz4 ?qqz5 ?qqz6 ?qqz7 ?qqz8 ?qqz9 ?qqz10 ?qqz11 ?qqz12 ?qqz13 ?qqz14 ?qqz15 ?qqz16 ?qqz17 ?qqz18 ?qqz19 ?qqg0 ?qqv0 ?qqg1 ?qqg2 ?qqg3 ?qqg4 ?qqg5 ?qqg6 ?qqg7 ?qqg8 ?qqg9 ?qqg10) hmg
    (case qqa0 => k_is)
    (case qql0 => k_is)
    (case qqc0 => k_is)
    (case qqk0 => k_is)
    (case qqa1 => k_is)
    (case qql1 => k_is)
    (case qqc1 => k_is)
    (case qqk1 => k_is)
    (case qqa2 => k_is)
    (case qql2 => k_is)
    (case qqc2 => k_is)
    (case qqk2 => k_is)
    (case qqa3 => k_is)
    (case qql3 => k_is)
    (case qqc3 => k_is)
    (case qqk3 => k_is)
    (case qqa4 => k_is)
    (case qql4 => k_is)
    (case qqc4 => k_is)
    (case qqk4 => k_is)
    (case qqa5 => k_is)
    (case qql5 => k_is)
    (case qqc5 => k_is)
    (case qqk5 => k_is)
    (case qqa6 => k_is)
    (case qql6 => k_is)
    (case qqc6 => k_is)
    (case qqk6 => k_is)
    (case qqa7 => k_is)
    (case qql7 => k_is)
    (case qqc7 => k_is)
    (case qqk7 => k_is)
    (case qqa8 => k_is)
    (case qql8 => k_is)
    (case qqc8 => k_is)
    (case qqk8 => k_is)
    (case qqa9 => k_is)
    (case qql9 => k_is)
    (case qqc9 => k_is)
    (case qqk9 => k_is)
    (case qqa10 => k_is)
    (case qql10 => k_is)
    (case qqc10 => k_is)
    (case qqk10 => k_is)
    (case qqa11 => k_is)
    (case qql11 => k_is)
    (case qqc11 => k_is)
    (case qqk11 => k_is)
    (case qqa12 => k_is)
    (case qql12 => k_is)
    (case qqc12 => k_is)
    (case qqk12 => k_is)
    (case qqa13 => k_is)
    (case qql13 => k_is)
    (case qqc13 => k_is)
    (case qqk13 => k_is)
    (case qqa14 => k_is)
    (case qql14 => k_is)
    (case qqc14 => k_is)
    (case qqk14 => k_is)
    (case qqa15 => k_is)
    (case qql15 => k_is)
    (case qqc15 => k_is)
    (case qqk15 => k_is)
    (case qqa16 => k_is)
    (case qql16 => k_is)
    (case qqc16 => k_is)
    (case qqk16 => k_is)
    (case qqa17 => k_is)
    (case qql17 => k_is)
    (case qqc17 => k_is)
    (case qqk17 => k_is)
    (case qqa18 => k_is)
    (case qql18 => k_is)
    (case qqc18 => k_is)
    (case qqk18 => k_is)
    (case qqa19 => k_is)
    (case qql19 => k_is)
    (case qqc19 => k_is)
    (case qqk19 => k_is)
    (case qqa20 => k_is)
    (case qql20 => k_is)
    (case qqc20 => k_is)
    (case qqk20 => k_is)
    (case qqa21 => k_is)
    (case qql21 => k_is)
    (case qqc21 => k_is)
    (case qqk21 => k_is)
    (case qqa22 => k_is)
    (case qql22 => k_is)
    (case qqc22 => k_is)
    (case qqk22 => k_is)
    (case qqa23 => k_is)
    (case qql23 => k_is)
    (case qqc23 => k_is)
    (case qqk23 => k_is)
    (case qqa24 => k_is)
    (case qql24 => k_is)
    (case qqc24 => k_is)
    (case qqk24 => k_is)
    (case qqa25 => k_is)
    (case qql25 => k_is)
    (case qqc25 => k_is)
    (case qqk25 => k_is)
    (case qqa26 => k_is)
    (case qql26 => k_is)
    (case qqc26 => k_is)
    (case qqk26 => k_is)
    (case qqa27 => k_is)
    (case qql27 => k_is)
    (case qqc27 => k_is)
    (case qqk27 => k_is)
    (case qqa28 => k_is)
    (case qql28 => k_is)
    (case qqc28 => k_is)
    (case qqk28 => k_is)
    (case qqa29 => k_is)
    (case qql29 => k_is)
    (case qqc29 => k_is)
    (case qqk29 => k_is)
    (case qqa30 => k_is)
    (case qql30 => k_is)
    (case qqc30 => k_is)
    (case qqk30 => k_is)
    (case qqa31 => k_is)
    (case qql31 => k_is)
    (case qqc31 => k_is)
    (case qqk31 => k_is)
    (case qqa32 => k_is)
    (case qql32 => k_is)
    (case qqc32 => k_is)
    (case qqk32 => k_is)
    (case qqa33 => k_is)
    (case qql33 => k_is)
    (case qqc33 => k_is)
    (case qqk33 => k_is)
    (case qqa34 => k_is)
    (case qql34 => k_is)
    (case qqc34 => k_is)
    (case qqk34 => k_is)
    (case qqa35 => k_is)
    (case qql35 => k_is)
    (case qqc35 => k_is)
    (case qqk35 => k_is)
    (case qqa36 => k_is)
    (case qql36 => k_is)
    (case qqc36 => k_is)
    (case qqk36 => k_is)
    (case qqa37 => k_is)
    (case qql37 => k_is)
    (case qqc37 => k_is)
    (case qqk37 => k_is)
    (case qqa38 => k_is)
    (case qql38 => k_is)
    (case qqc38 => k_is)
    (case qqk38 => k_is)
    (case qqa39 => k_is)
    (case qql39 => k_is)
    (case qqc39 => k_is)
    (case qqk39 => k_is)
    (case qqa40 => k_is)
    (case qql40 => k_is)
    (case qqc40 => k_is)
    (case qqk40 => k_is)
    (case qqa41 => k_is)
    (case qql41 => k_is)
    (case qqc41 => k_is)
    (case qqk41 => k_is)
    (case qqa42 => k_is)
    (case qql42 => k_is)
    (case qqc42 => k_is)
    (case qqk42 => k_is)
    (case qqa43 => k_is)
    (case qql43 => k_is)
    (case qqc43 => k_is)
    (case qqk43 => k_is)
    (case qqa44 => k_is)
    (case qql44 => k_is)
    (case qqc44 => k_is)
    (case qqk44 => k_is)
    (case qqa45 => k_is)
    (case qql45 => k_is)
    (case qqc45 => k_is)
    (case qqk45 => k_is)
    (case qqa46 => k_is)
    (case qql46 => k_is)
    (case qqc46 => k_is)
    (case qqk46 => k_is)
    (case qqa47 => k_is)
    (case qql47 => k_is)
    (case qqc47 => k_is)
    (case qqk47 => k_is)
    (case qqa48 => k_is)
    (case qql48 => k_is)
    (case qqc48 => k_is)
    (case qqk48 => k_is)
    (case qqa49 => k_is)
    (case qql49 => k_is)
    (case qqc49 => k_is)
    (case qqk49 => k_is)
    (case qqz0 => k_is)
    (case qqz1 => k_is)
    (case qqz2 => k_is)
    (case qqz3 => k_is)
    (case qqz4 => k_is)
    (case qqz5 => k_is)
    (case qqz6 => k_is)
    (case qqz7 => k_is)
    (case qqz8 => k_is)
    (case qqz9 => k_is)
    (case qqz10 => k_is)
    (case qqz11 => k_is)
    (case qqz12 => k_is)
    (case qqz13 => k_is)
    (case qqz14 => k_is)
    (case qqz15 => k_is)
    (case qqz16 => k_is)
    (case qqz17 => k_is)
    (case qqz18 => k_is)
    (case qqz19 => k_is)
    (case qqg0 => k_is)
    (case qqv0 => (refine' MP.CV.tup ?l ?c ?d ?e ?r; (case l => k_is); (case c => exact rfl); (case d => exact rfl); (case r => (refine' MP.CVL.cons ?a ?b; (case a => exact MP.CV.str _ K71.ks1); (case b => (refine' MP.CVL.cons ?a ?b; (case a => exact MP.CV.str _ K71.ks6); (case b => (refine' MP.CVL.cons ?a ?b; (case a => exact MP.CV.str _ K71.ks7); (case b => (refine' MP.CVL.cons ?a ?b; (case a => exact MP.CV.str _ K71.ks8); (case b => (refine' MP.CVL.cons ?a ?b; (case a => exact MP.CV.str _ K71.ks9); (case b => (refine' MP.CVL.cons ?a ?b; (case a => exact MP.CV.str _ K71.ks10); (case b => (refine' MP.CVL.cons ?a ?b; (case a => exact MP.CV.str _ K71.ks11); (case b => (refine' MP.CVL.cons ?a ?b; (case a => exact MP.CV.str _ K71.ks12); (case b => (refine' MP.CVL.cons ?a ?b; (case a => exact MP.CV.str _ K71.ks13); (case b => (refine' MP.CVL.cons ?a ?b; (case a => exact MP.CV.str _ K71.ks14); (case b => (refine' MP.CVL.cons ?a ?b; (case a => exact MP.CV.str _ K71.ks15); (case b => (refine' MP.CVL.cons ?a ?b; (case a => exact MP.CV.str _ K71.ks16); (case b => (refine' MP.CVL.cons ?a ?b; (case a => exact MP.CV.str _ K71.ks17); (case b => exact MP.CVL.nil))))))))))))))))))))))))))); (case e => decide)))
    (case qqg1 => k_is)
    (case qqg2 => k_is)
    (case qqg3 => k_is)
    (case qqg4 => k_is)
    (case qqg5 => k_is)
    (case qqg6 => k_is)
    (case qqg7 => k_is)
    (case qqg8 => k_is)
    (case qqg9 => k_is)
    (case qqg10 => k_is)
