import PyProof.Rows.All
import Wide.All
import OpenK.AllK
import Wide.FinOn
import HandS.ForMost
import HandS.Style
import HandS.TupAny
import HandS.IsInst
import HandS.Zip
import HandS.Wide
import HandS.WideBits
import HandS.Deep
import KE.SortData
import KE.KDictKeyed
import KE.KeyNested
import PyProof.ReprRoads
import HandS.TupMul
import HandS.RaiseMore
import PyProof.ReprLen
import HandS.Star
import HandS.NoneIn
import KE.GoesMore
import HandS.Conv
import PySem.Challenge.RW_sortedbynets_k66_snakes_and_phases
set_option Elab.async false
set_option linter.all false
set_option maxRecDepth 100000
set_option maxHeartbeats 4000000
/-! SbA: what stands for what. -/
namespace Sb
open PySem PySem.Spec PyProof.Rows L2

/-- the drawn source -/
structure Sx where
  cells : List Int
  left : Int
  mixed : Int
  turn : Int

/-- the frozen part of the heap, and where the source stands -/
structure Fz where
  F : Hp
  sa : Option (Addr × Addr)

structure Fz.Le (Z Z' : Fz) : Prop where
  f : ∀ a o, Z.F a = some o → Z'.F a = some o
  s : ∀ p, Z.sa = some p → Z'.sa = some p
theorem Fz.Le.refl (Z : Fz) : Z.Le Z := ⟨fun _ _ h => h, fun _ h => h⟩
theorem Fz.Le.trans {Z Z1 Z2 : Fz} (a : Z.Le Z1) (b : Z1.Le Z2) : Z.Le Z2 := ⟨fun _ _ h => b.f _ _ (a.f _ _ h), fun _ h => b.s _ (a.s _ h)⟩

/-- the source, the script, as data that nothing else is -/
def srcD : PyData := .dict [(.none, .none)]
def scrD (ns : List Int) : PyData := .dict ((.none, .bool true) :: ns.map fun i => (.int i, .none))

mutual
inductive Rp (K : PySem.W.Frag) (Z : Fz) : V → PyData → Prop
  | non : Rp K Z .non .none
  | bl (b : Bool) : Rp K Z (.bl b) (.bool b)
  | int (i : Int) : Rp K Z (.int i) (.int i)
  | str (x : Str) : Rp K Z (.str x) (.str x)
  | lst {a : Addr} {xs : List V} {ds : List PyData} : Z.F a = some (.lst xs) → RpA K Z xs ds → Rp K Z (.ref a) (.list ds)
  | tup {a : Addr} {xs : List V} {ds : List PyData} : Z.F a = some (.tup xs) → RpA K Z xs ds → Rp K Z (.ref a) (.tuple ds)
  | src {a c : Addr} : Z.sa = some (a, c) → Rp K Z (.ref a) srcD
  | scr {a : Addr} {ns : List Int} : SqL K Z.F a (ns.map V.int) → Rp K Z (.ref a) (scrD ns)
inductive RpA (K : PySem.W.Frag) (Z : Fz) : List V → List PyData → Prop
  | nil : RpA K Z [] []
  | cons {v : V} {vs : List V} {d : PyData} {ds : List PyData} : Rp K Z v d → RpA K Z vs ds → RpA K Z (v :: vs) (d :: ds)
end

section
variable {K : PySem.W.Frag} {Z Z' : Fz}
mutual
theorem Rp.mono (l : Z.Le Z') : ∀ {v : V} {d : PyData}, Rp K Z v d → Rp K Z' v d
  | _, _, .non => .non
  | _, _, .bl b => .bl b
  | _, _, .int i => .int i
  | _, _, .str x => .str x
  | _, _, .lst h r => .lst (l.f _ _ h) (RpA.mono l r)
  | _, _, .tup h r => .tup (l.f _ _ h) (RpA.mono l r)
  | _, _, .src h => .src (l.s _ h)
  | _, _, .scr h => .scr (by
      rcases h with (h | ⟨o, h⟩) | h
      · exact .inl (.inl (l.f _ _ h))
      · exact .inl (.inr ⟨o, l.f _ _ h⟩)
      · exact .inr h)
theorem RpA.mono (l : Z.Le Z') : ∀ {vs : List V} {ds : List PyData}, RpA K Z vs ds → RpA K Z' vs ds
  | _, _, .nil => .nil
  | _, _, .cons h r => .cons (Rp.mono l h) (RpA.mono l r)
end
theorem RpA.length : ∀ {vs : List V} {ds : List PyData}, RpA K Z vs ds → vs.length = ds.length
  | _, _, .nil => rfl
  | _, _, .cons _ r => by rw [List.length_cons, List.length_cons, RpA.length r]
theorem RpA.get : ∀ {vs : List V} {ds : List PyData} {i : Nat} {d : PyData}, RpA K Z vs ds → ds[i]? = some d → ∃ v, vs[i]? = some v ∧ Rp K Z v d
  | _, _, _, _, .nil, e => by simp at e
  | _, _, 0, _, .cons h _, e => by simp at e; subst e; exact ⟨_, rfl, h⟩
  | _, _, i + 1, d, .cons _ r, e => by
    obtain ⟨v, h1, h2⟩ := RpA.get (i := i) (d := d) r (by simpa using e)
    exact ⟨v, by simpa using h1, h2⟩
theorem RpA.get' : ∀ {vs : List V} {ds : List PyData} {i : Nat} {v : V}, RpA K Z vs ds → vs[i]? = some v → ∃ d, ds[i]? = some d ∧ Rp K Z v d
  | _, _, _, _, .nil, e => by simp at e
  | _, _, 0, _, .cons h _, e => by simp at e; subst e; exact ⟨_, rfl, h⟩
  | _, _, i + 1, v, .cons _ r, e => by
    obtain ⟨d, h1, h2⟩ := RpA.get' (i := i) (v := v) r (by simpa using e)
    exact ⟨d, by simpa using h1, h2⟩
theorem RpA.append : ∀ {vs ws : List V} {ds es : List PyData}, RpA K Z vs ds → RpA K Z ws es → RpA K Z (vs ++ ws) (ds ++ es)
  | _, _, _, _, .nil, s => s
  | _, _, _, _, .cons h r, s => .cons h (RpA.append r s)
theorem RpA.take : ∀ {vs : List V} {ds : List PyData} (n : Nat), RpA K Z vs ds → RpA K Z (vs.take n) (ds.take n)
  | _, _, 0, _ => .nil
  | _, _, _ + 1, .nil => .nil
  | _, _, n + 1, .cons h r => .cons h (RpA.take n r)
theorem RpA.drop : ∀ {vs : List V} {ds : List PyData} (n : Nat), RpA K Z vs ds → RpA K Z (vs.drop n) (ds.drop n)
  | _, _, 0, r => r
  | _, _, _ + 1, .nil => .nil
  | _, _, n + 1, .cons _ r => RpA.drop n r
theorem RpA.set {v : V} {d : PyData} (q : Rp K Z v d) : ∀ {vs : List V} {ds : List PyData} (n : Nat), RpA K Z vs ds → RpA K Z (vs.set n v) (ds.set n d)
  | _, _, _, .nil => .nil
  | _, _, 0, .cons _ r => .cons q r
  | _, _, n + 1, .cons h r => .cons h (RpA.set q n r)
theorem RpA.reverse {vs : List V} {ds : List PyData} (r : RpA K Z vs ds) : RpA K Z vs.reverse ds.reverse := by
  have go : ∀ {vs : List V} {ds : List PyData}, RpA K Z vs ds → RpA K Z vs.reverse ds.reverse := by
    intro vs
    induction vs with
    | nil => intro ds r; cases r; exact .nil
    | cons v vs ih =>
      intro ds r
      cases r with
      | cons h r =>
        rw [List.reverse_cons, List.reverse_cons]
        exact (ih r).append (.cons h .nil)
  exact go r
theorem RpA.eraseIdx : ∀ {vs : List V} {ds : List PyData} (n : Nat), RpA K Z vs ds → RpA K Z (vs.eraseIdx n) (ds.eraseIdx n)
  | _, _, _, .nil => .nil
  | _, _, 0, .cons _ r => r
  | _, _, n + 1, .cons h r => .cons h (RpA.eraseIdx n r)
theorem RpA.rep {vs : List V} {ds : List PyData} (r : RpA K Z vs ds) : ∀ k : Nat, RpA K Z (List.replicate k vs).flatten (List.replicate k ds).flatten
  | 0 => .nil
  | k + 1 => by
    rw [List.replicate_succ, List.replicate_succ, List.flatten_cons, List.flatten_cons]
    exact r.append (RpA.rep r k)
theorem RpA.ints : ∀ (ns : List Int), RpA K Z (ns.map V.int) (ns.map PyData.int)
  | [] => .nil
  | n :: ns => .cons (.int n) (RpA.ints ns)
theorem RpA.ints_of : ∀ {ns : List Int} {vs : List V}, RpA K Z vs (ns.map PyData.int) → vs = ns.map V.int
  | [], _, r => by cases r; rfl
  | n :: ns, _, r => by
    cases r with
    | cons h r => cases h; rw [RpA.ints_of r]; rfl
end

mutual
/-- no dict (nor source, nor script) in it -/
def nod : PyData → Bool
  | .dict _ => false
  | .list xs => nodA xs
  | .tuple xs => nodA xs
  | .none => true
  | .bool _ => true
  | .int _ => true
  | .str _ => true
def nodA : List PyData → Bool
  | [] => true
  | x :: xs => nod x && nodA xs
end
mutual
/-- no list either: nothing that could be changed -/
def lfr : PyData → Bool
  | .dict _ => false
  | .list _ => false
  | .tuple xs => lfrA xs
  | .none => true
  | .bool _ => true
  | .int _ => true
  | .str _ => true
def lfrA : List PyData → Bool
  | [] => true
  | x :: xs => lfr x && lfrA xs
end

section
variable {K : PySem.W.Frag} {Z : Fz} {H : Hp}
mutual
/-- as the hand layer says it -/
theorem Rp.dp (l : ∀ a o, Z.F a = some o → H a = some o) : ∀ {v : V} {d : PyData}, Rp K Z v d → nod d = true → Dp K H v d
  | _, _, .non, _ => .non
  | _, _, .bl b, _ => .bl b
  | _, _, .int i, _ => .int i
  | _, _, .str x, _ => .str x
  | _, _, .lst h r, n => .lst (SqL.of (l _ _ h)) (RpA.dp l r (by simpa [nod] using n))
  | _, _, .tup h r, n => .tup (SqT.of (l _ _ h)) (RpA.dp l r (by simpa [nod] using n))
  | _, _, .src _, n => by simp [nod, srcD] at n
  | _, _, .scr _, n => by simp [nod, scrD] at n
theorem RpA.dp (l : ∀ a o, Z.F a = some o → H a = some o) : ∀ {vs : List V} {ds : List PyData}, RpA K Z vs ds → nodA ds = true → DpAll K H vs ds
  | _, _, .nil, _ => .nil
  | _, _, .cons h r, n => by
    simp only [nodA, Bool.and_eq_true] at n
    exact .cons (Rp.dp l h n.1) (RpA.dp l r n.2)
end
mutual
/-- what holds no list leans on tuples alone -/
theorem Rp.lfree {Z Z' : Fz} (l : ∀ a xs, Z.F a = some (.tup xs) → Z'.F a = some (.tup xs)) : ∀ {v : V} {d : PyData}, Rp K Z v d → lfr d = true → Rp K Z' v d
  | _, _, .non, _ => .non
  | _, _, .bl b, _ => .bl b
  | _, _, .int i, _ => .int i
  | _, _, .str x, _ => .str x
  | _, _, .lst h r, n => by simp [lfr] at n
  | _, _, .tup h r, n => .tup (l _ _ h) (RpA.lfree l r (by simpa [lfr] using n))
  | _, _, .src _, n => by simp [lfr, srcD] at n
  | _, _, .scr _, n => by simp [lfr, scrD] at n
theorem RpA.lfree {Z Z' : Fz} (l : ∀ a xs, Z.F a = some (.tup xs) → Z'.F a = some (.tup xs)) : ∀ {vs : List V} {ds : List PyData}, RpA K Z vs ds → lfrA ds = true → RpA K Z' vs ds
  | _, _, .nil, _ => .nil
  | _, _, .cons h r, n => by
    simp only [lfrA, Bool.and_eq_true] at n
    exact .cons (Rp.lfree l h n.1) (RpA.lfree l r n.2)
end
end
end Sb

set_option Elab.async false
set_option autoImplicit false
set_option linter.all false
set_option maxRecDepth 100000
set_option maxHeartbeats 4000000
/-! SbB: environments of data, what holds of them, readings. -/
namespace Sb
open PySem PySem.Spec PyProof.Rows L2

/-- a slot: a frozen datum, or one that this frame alone holds and may change -/
inductive SV where
  | val (d : PyData)
  | own (d : PyData)
abbrev Sg := L2.St
abbrev Ev := List (Option SV)
abbrev Fn := List PyData → Sx → Option (PyData × Sx)
abbrev Run := Ev → Sx → Option (PyData × Ev × Sx)

def srcKvs (c : Addr) (q : Sx) : List (Key × V) :=
  [(Sum.inr "cells", .ref c), (Sum.inr "left", .int q.left), (Sum.inr "mixed", .int q.mixed), (Sum.inr "turn", .int q.turn)]

/-- the heap alone -/
structure AbH (K : PySem.W.Frag) (U : Hp) (Z : Fz) (H : Hp) (q : Sx) : Prop where
  fro : ∀ a o, Z.F a = some o → H a = some o
  unt : ∀ a o, U a = some o → H a = some o ∧ Z.F a = none
  src : ∀ a c, Z.sa = some (a, c) → H a = some (.dK (srcKvs c q)) ∧ H c = some (.lst (q.cells.map V.int)) ∧ Z.F a = none ∧ Z.F c = none ∧ U a = none ∧ U c = none
  nos : q.turn < 0 → Z.sa = none

/-- not frozen, not the callers', not the source's -/
structure Lone (U : Hp) (Z : Fz) (a : Addr) : Prop where
  f : Z.F a = none
  u : U a = none
  s : ∀ p, Z.sa = some p → a ≠ p.1 ∧ a ≠ p.2

def OwnAt (K : PySem.W.Frag) (Z : Fz) (H : Hp) (a : Addr) : PyData → Prop
  | .list ds => ∃ xs, H a = some (.lst xs) ∧ RpA K Z xs ds
  | _ => False
def SlotOk (K : PySem.W.Frag) (U : Hp) (Z : Fz) (H : Hp) (v : V) : SV → Prop
  | .val d => Rp K Z v d
  | .own d => ∃ a, v = .ref a ∧ OwnAt K Z H a d ∧ Lone U Z a

structure Ab (K : PySem.W.Frag) (U : Hp) (Z : Fz) (σ : Sg) (H : Hp) (ρ : Ev) (q : Sx) : Prop extends AbH K U Z H q where
  len : σ.length = ρ.length
  slot : ∀ (i : Nat) (sv : SV), ρ[i]? = some (some sv) → ∃ v, σ[i]? = some (some v) ∧ SlotOk K U Z H v sv
  sep : ∀ (i j : Nat) (d e : PyData) (a : Addr), ρ[i]? = some (some (.own d)) → ρ[j]? = some (some (.own e)) → σ[i]? = some (some (.ref a)) → σ[j]? = some (some (.ref a)) → i = j

def Fz.add (Z : Fz) (a : Addr) (o : HO) : Fz := { Z with F := upd Z.F a o }
theorem Fz.le_add {Z : Fz} {a : Addr} {o : HO} (h : Z.F a = none) : Z.Le (Z.add a o) := ⟨fun b u e => by
  show upd Z.F a o b = some u
  rw [upd_ne (ne_of_none e h)]; exact e, fun _ e => e⟩

section
variable {K : PySem.W.Frag} {U : Hp} {Z : Fz} {σ : Sg} {H : Hp} {ρ : Ev} {q : Sx} {a p : Addr} {o : HO} {v : V} {d : PyData} {i : Nat}

theorem OwnAt.some {d : PyData} (h : OwnAt K Z H a d) : ∃ o, H a = some o := by
  cases d with
  | list ds => obtain ⟨xs, e, _⟩ := h; exact ⟨_, e⟩
  | _ => exact h.elim
theorem OwnAt.mono {Z' : Fz} {H' : Hp} (l : Z.Le Z') (k : ∀ o, H a = Option.some o → H' a = Option.some o) {d : PyData} (h : OwnAt K Z H a d) : OwnAt K Z' H' a d := by
  cases d with
  | list ds => obtain ⟨xs, e, r⟩ := h; exact ⟨xs, k _ e, r.mono l⟩
  | _ => exact h.elim
theorem AbH.lone_new (A : AbH K U Z H q) (hp : H p = none) : Lone U Z p := by
  refine ⟨?_, ?_, fun x hx => ?_⟩
  · cases e : Z.F p with
    | none => rfl
    | some o => rw [A.fro _ _ e] at hp; cases hp
  · cases e : U p with
    | none => rfl
    | some o => rw [(A.unt _ _ e).1] at hp; cases hp
  · obtain ⟨a, c⟩ := x
    obtain ⟨h1, h2, _⟩ := A.src a c hx
    exact ⟨fun e => (by rw [e, h1] at hp; cases hp), fun e => (by rw [e, h2] at hp; cases hp)⟩
/-- the heap changes at a place that is no one's -/
theorem AbH.upds (A : AbH K U Z H q) (l : Lone U Z p) : AbH K U Z (upd H p o) q := by
  refine ⟨fun b u e => ?_, fun b u e => ?_, fun x c e => ?_, A.nos⟩
  · rw [upd_ne (ne_of_none e l.f)]; exact A.fro b u e
  · rw [upd_ne (ne_of_none e l.u)]; exact A.unt b u e
  · obtain ⟨h1, h2, r⟩ := A.src x c e
    obtain ⟨n1, n2⟩ := l.s _ e
    exact ⟨by rw [upd_ne (Ne.symm n1)]; exact h1, by rw [upd_ne (Ne.symm n2)]; exact h2, r⟩
/-- what stands at a place that is no one's is frozen -/
theorem AbH.freeze (A : AbH K U Z H q) (l : Lone U Z p) (h : H p = some o) : AbH K U (Z.add p o) H q := by
  refine ⟨fun b u e => ?_, fun b u e => ?_, fun x c e => ?_, A.nos⟩
  · by_cases hb : b = p
    · subst hb
      have e : upd Z.F b o b = some u := e
      rw [upd_same] at e; cases e; exact h
    · have e : upd Z.F p o b = some u := e
      rw [upd_ne hb] at e; exact A.fro b u e
  · obtain ⟨h1, h2⟩ := A.unt b u e
    refine ⟨h1, ?_⟩
    show upd Z.F p o b = none
    rw [upd_ne (ne_of_none e l.u)]; exact h2
  · obtain ⟨h1, h2, h3, h4, h5⟩ := A.src x c e
    obtain ⟨n1, n2⟩ := l.s _ e
    refine ⟨h1, h2, ?_, ?_, h5⟩
    · show upd Z.F p o x = none
      rw [upd_ne (Ne.symm n1)]; exact h3
    · show upd Z.F p o c = none
      rw [upd_ne (Ne.symm n2)]; exact h4
theorem Lone.add {a p : Addr} (l : Lone U Z a) (h : a ≠ p) : Lone U (Z.add p o) a := ⟨by show upd Z.F p o a = none; rw [upd_ne h]; exact l.f, l.u, l.s⟩

theorem get_set {α : Type} {l : List α} {i j : Nat} {x y : α} (h : (l.set i x)[j]? = some y) : (i = j ∧ y = x ∧ i < l.length) ∨ (i ≠ j ∧ l[j]? = some y) := by
  by_cases e : i = j
  · subst e
    by_cases hl : i < l.length
    · rw [List.getElem?_set_self hl] at h; cases h; exact .inl ⟨rfl, rfl, hl⟩
    · rw [List.getElem?_eq_none (by simpa using hl)] at h; cases h
  · rw [List.getElem?_set_ne e] at h; exact .inr ⟨e, h⟩

/-- apart from every own slot -/
def Apart (σ : Sg) (ρ : Ev) (p : Addr) : Prop := ∀ (i : Nat) (d : PyData), ρ[i]? = some (some (.own d)) → σ[i]? ≠ some (some (.ref p))
theorem Ab.apart_new (A : Ab K U Z σ H ρ q) (hp : H p = none) : Apart σ ρ p := fun i d e z => by
  obtain ⟨v, hv, a, e1, h2, _⟩ := A.slot i _ e
  rw [z] at hv; cases hv; cases e1
  obtain ⟨o, h3⟩ := h2.some
  rw [hp] at h3; cases h3
/-- .. where the heap changes at a place apart -/
theorem Ab.upds (A : Ab K U Z σ H ρ q) (l : Lone U Z p) (n : Apart σ ρ p) : Ab K U Z σ (upd H p o) ρ q := by
  refine ⟨A.toAbH.upds l, A.len, fun i sv e => ?_, A.sep⟩
  obtain ⟨v, hv, h⟩ := A.slot i sv e
  refine ⟨v, hv, ?_⟩
  cases sv with
  | val d => exact h
  | own d =>
    obtain ⟨a, e1, h2, h3⟩ := h
    subst e1
    have hn : a ≠ p := fun z => n i d e (by rw [hv, z])
    exact ⟨a, rfl, h2.mono (.refl Z) (fun o e => by rw [upd_ne hn]; exact e), h3⟩
theorem Ab.freeze (A : Ab K U Z σ H ρ q) (l : Lone U Z p) (n : Apart σ ρ p) (h : H p = some o) : Ab K U (Z.add p o) σ H ρ q := by
  refine ⟨A.toAbH.freeze l h, A.len, fun i sv e => ?_, A.sep⟩
  obtain ⟨v, hv, h'⟩ := A.slot i sv e
  refine ⟨v, hv, ?_⟩
  cases sv with
  | val d => exact Rp.mono (Fz.le_add l.f) h'
  | own d =>
    obtain ⟨a, e1, h2, h3⟩ := h'
    subst e1
    have hn : a ≠ p := fun z => n i d e (by rw [hv, z])
    exact ⟨a, rfl, h2.mono (Fz.le_add l.f) (fun o e => e), h3.add hn⟩
/-- a new object, frozen at once -/
theorem Ab.new (A : Ab K U Z σ H ρ q) (hp : H p = none) : Ab K U (Z.add p o) σ (upd H p o) ρ q :=
  (A.upds (A.lone_new hp) (A.apart_new hp)).freeze (A.lone_new hp) (A.apart_new hp) upd_same
theorem Ab.le_new (A : Ab K U Z σ H ρ q) (hp : H p = none) : Z.Le (Z.add p o) := Fz.le_add (A.lone_new hp).f
/-- a slot stored -/
theorem Ab.setVal (A : Ab K U Z σ H ρ q) (r : Rp K Z v d) : Ab K U Z (σ.set i (some v)) H (ρ.set i (some (.val d))) q := by
  refine ⟨A.toAbH, by simpa using A.len, fun j sv e => ?_, fun j k d1 d2 a e1 e2 e3 e4 => ?_⟩
  · rcases get_set e with ⟨hj, z, hl⟩ | ⟨hj, e⟩
    · subst hj; cases z
      rw [← A.len] at hl
      exact ⟨v, List.getElem?_set_self hl, r⟩
    · obtain ⟨w, hw, h⟩ := A.slot j sv e
      exact ⟨w, by rw [List.getElem?_set_ne hj]; exact hw, h⟩
  · rcases get_set e1 with ⟨_, z, _⟩ | ⟨h1, e1⟩
    · cases z
    · rcases get_set e2 with ⟨_, z, _⟩ | ⟨h2, e2⟩
      · cases z
      · rw [List.getElem?_set_ne h1] at e3
        rw [List.getElem?_set_ne h2] at e4
        exact A.sep j k d1 d2 a e1 e2 e3 e4
theorem Ab.setOwn (A : Ab K U Z σ H ρ q) (h : OwnAt K Z H a d) (l : Lone U Z a) (n : Apart σ ρ a) : Ab K U Z (σ.set i (some (.ref a))) H (ρ.set i (some (.own d))) q := by
  refine ⟨A.toAbH, by simpa using A.len, fun j sv e => ?_, fun j k d1 d2 b e1 e2 e3 e4 => ?_⟩
  · rcases get_set e with ⟨hj, z, hl⟩ | ⟨hj, e⟩
    · subst hj; cases z
      rw [← A.len] at hl
      exact ⟨.ref a, List.getElem?_set_self hl, a, rfl, h, l⟩
    · obtain ⟨w, hw, h⟩ := A.slot j sv e
      exact ⟨w, by rw [List.getElem?_set_ne hj]; exact hw, h⟩
  · rcases get_set e1 with ⟨h1, _⟩ | ⟨h1, e1⟩
    · rcases get_set e2 with ⟨h2, _⟩ | ⟨h2, e2⟩
      · omega
      · exfalso
        rw [List.getElem?_set_ne h2] at e4
        rcases get_set e3 with ⟨_, z, _⟩ | ⟨z, _⟩
        · cases z; exact n k d2 e2 e4
        · exact z h1
    · rcases get_set e2 with ⟨h2, _⟩ | ⟨h2, e2⟩
      · exfalso
        rw [List.getElem?_set_ne h1] at e3
        rcases get_set e4 with ⟨_, z, _⟩ | ⟨z, _⟩
        · cases z; exact n j d1 e1 e3
        · exact z h2
      · rw [List.getElem?_set_ne h1] at e3
        rw [List.getElem?_set_ne h2] at e4
        exact A.sep j k d1 d2 b e1 e2 e3 e4
/-- the object of an own slot changed -/
theorem Ab.put {d' : PyData} (A : Ab K U Z σ H ρ q) (e : ρ[i]? = some (some (.own d))) (hv : σ[i]? = some (some (.ref a))) (l : Lone U Z a) (h : OwnAt K Z (upd H a o) a d') : Ab K U Z σ (upd H a o) (ρ.set i (some (.own d'))) q := by
  refine ⟨A.toAbH.upds l, by simpa using A.len, fun j sv ej => ?_, fun j k d1 d2 b e1 e2 e3 e4 => ?_⟩
  · rcases get_set ej with ⟨hj, z, _⟩ | ⟨hj, ej⟩
    · subst hj; cases z
      exact ⟨_, hv, a, rfl, h, l⟩
    · obtain ⟨w, hw, h'⟩ := A.slot j sv ej
      refine ⟨w, hw, ?_⟩
      cases sv with
      | val d => exact h'
      | own d1 =>
        obtain ⟨b, z, h2, h3⟩ := h'
        subst z
        have hn : b ≠ a := fun z => hj (A.sep i j d d1 a e ej hv (by rw [hw, z]))
        exact ⟨b, rfl, h2.mono (.refl Z) (fun o e => by rw [upd_ne hn]; exact e), h3⟩
  · have key : ∀ (j : Nat) (d1 : PyData), (ρ.set i (some (SV.own d')))[j]? = some (some (SV.own d1)) → ∃ d2 : PyData, ρ[j]? = some (some (SV.own d2)) := fun j d1 e1 => by
      rcases get_set e1 with ⟨hj, _, _⟩ | ⟨_, e1⟩
      · subst hj; exact ⟨d, e⟩
      · exact ⟨_, e1⟩
    obtain ⟨x, e1⟩ := key j d1 e1
    obtain ⟨y, e2⟩ := key k d2 e2
    exact A.sep j k x y b e1 e2 e3 e4
/-- an own slot is frozen -/
theorem Ab.slotFreeze (A : Ab K U Z σ H ρ q) {ds : List PyData} (e : ρ[i]? = some (some (.own (.list ds)))) :
    ∃ Z' v, Z.Le Z' ∧ σ[i]? = some (some v) ∧ Ab K U Z' σ H (ρ.set i (some (.val (.list ds)))) q ∧ Rp K Z' v (.list ds) := by
  obtain ⟨v, hv, a, rfl, ⟨xs, hx, r⟩, l⟩ := A.slot i _ e
  have le : Z.Le (Z.add a (.lst xs)) := Fz.le_add l.f
  have rp : Rp K (Z.add a (.lst xs)) (.ref a) (.list ds) := .lst upd_same (r.mono le)
  refine ⟨Z.add a (.lst xs), _, le, hv, ⟨A.toAbH.freeze l hx, by simpa using A.len, fun j sv ej => ?_, fun j k d1 d2 b e1 e2 e3 e4 => ?_⟩, rp⟩
  · rcases get_set ej with ⟨hj, z, _⟩ | ⟨hj, ej⟩
    · subst hj; cases z
      exact ⟨_, hv, rp⟩
    · obtain ⟨w, hw, h'⟩ := A.slot j sv ej
      refine ⟨w, hw, ?_⟩
      cases sv with
      | val d => exact Rp.mono le h'
      | own d1 =>
        obtain ⟨b, z, h2, h3⟩ := h'
        subst z
        have hn : b ≠ a := fun z => hj (A.sep i j _ d1 a e ej hv (by rw [hw, z]))
        exact ⟨b, rfl, h2.mono le (fun o e => e), h3.add hn⟩
  · rcases get_set e1 with ⟨_, z, _⟩ | ⟨_, e1⟩
    · cases z
    · rcases get_set e2 with ⟨_, z, _⟩ | ⟨_, e2⟩
      · cases z
      · exact A.sep j k d1 d2 b e1 e2 e3 e4
end

/-! ### readings -/
def tEV (K : PySem.W.Frag) (f : Run) : TE := fun σ H Q => ∃ (U : Hp) (Z : Fz) (ρ : Ev) (q : Sx) (d : PyData) (ρ' : Ev) (q' : Sx), Ab K U Z σ H ρ q ∧ f ρ q = some (d, ρ', q') ∧
  ∀ Z' H' v, Z.Le Z' → Ab K U Z' σ H' ρ' q' → Rp K Z' v d → Q v H'
abbrev RunT := Ev → Sx → Option (Bool × Ev × Sx)
def tTV (K : PySem.W.Frag) (f : RunT) : TT := fun σ H Q => ∃ (U : Hp) (Z : Fz) (ρ : Ev) (q : Sx) (b : Bool) (ρ' : Ev) (q' : Sx), Ab K U Z σ H ρ q ∧ f ρ q = some (b, ρ', q') ∧
  ∀ Z' H', Z.Le Z' → Ab K U Z' σ H' ρ' q' → Q b H'
abbrev RunA := Ev → Sx → Option (List PyData × Ev × Sx)
def tAV (K : PySem.W.Frag) (f : RunA) : TA := fun σ H Q => ∃ (U : Hp) (Z : Fz) (ρ : Ev) (q : Sx) (ds : List PyData) (ρ' : Ev) (q' : Sx), Ab K U Z σ H ρ q ∧ f ρ q = some (ds, ρ', q') ∧
  ∀ Z' H' vs, Z.Le Z' → Ab K U Z' σ H' ρ' q' → RpA K Z' vs ds → Q vs H'

section
variable {X : Cx}
theorem _root_.L2.PE.weak {e : Expr} {t t' : TE} (h : PE X e t) (w : ∀ σ H Q, t' σ H Q → t σ H Q) : PE X e t' := ⟨fun pins s σ H Q I q => h.run pins s σ H Q I (w σ H Q q)⟩
theorem _root_.L2.PT.weak {e : Expr} {t t' : TT} (h : PT X e t) (w : ∀ σ H Q, t' σ H Q → t σ H Q) : PT X e t' := ⟨fun pins s σ H Q I q => h.run pins s σ H Q I (w σ H Q q)⟩
theorem _root_.L2.PW.weak {e : Expr} {t t' : TT} (h : PW X e t) (w : ∀ σ H Q, t' σ H Q → t σ H Q) : PW X e t' := ⟨fun wh pins s σ H Q I q => h.run wh pins s σ H Q I (w σ H Q q)⟩
theorem _root_.L2.PA.weak {es : List Expr} {t t' : TA} (h : PA X es t) (w : ∀ σ H Q, t' σ H Q → t σ H Q) : PA X es t' := ⟨fun pos pins s σ H Q I q => h.run pos pins s σ H Q I (w σ H Q q)⟩
theorem _root_.L2.PS.weak {e : Stmt} {t t' : TS} (h : PS X e t) (w : ∀ D σ H, t' D σ H → t D σ H) : PS X e t' := ⟨fun pins s σ H D I q => h.run pins s σ H D I (w D σ H q)⟩
theorem _root_.L2.PSs.weak {e : List Stmt} {t t' : TS} (h : PSs X e t) (w : ∀ D σ H, t' D σ H → t D σ H) : PSs X e t' := ⟨fun pins s σ H D I q => h.run pins s σ H D I (w D σ H q)⟩

/-! ### by values: operators, calls -/
/-- a rule's reading by values gives what sem says -/
def OpS (K : PySem.W.Frag) (r : R2) (sem : PyData → PyData → Option PyData) : Prop := ∀ {U : Hp} {Z : Fz} {σ : Sg} {H : Hp} {ρ : Ev} {q : Sx} {x y : V} {dx dy d : PyData} {Q : VK}, Ab K U Z σ H ρ q → Rp K Z x dx → Rp K Z y dy → sem dx dy = some d →
  (∀ Z' H' v, Z.Le Z' → Ab K U Z' σ H' ρ q → Rp K Z' v d → Q v H') → r x y H Q
def CallS (K : PySem.W.Frag) (r : List V → Hp → VK → Prop) (sem : List PyData → Option PyData) : Prop := ∀ {U : Hp} {Z : Fz} {σ : Sg} {H : Hp} {ρ : Ev} {q : Sx} {xs : List V} {ds : List PyData} {d : PyData} {Q : VK}, Ab K U Z σ H ρ q → RpA K Z xs ds → sem ds = some d →
  (∀ Z' H' v, Z.Le Z' → Ab K U Z' σ H' ρ q → Rp K Z' v d → Q v H') → r xs H Q

def f2 (sem : PyData → PyData → Option PyData) (f g : Run) : Run := fun ρ q =>
  match f ρ q with
  | none => none
  | some (x, ρ1, q1) => match g ρ1 q1 with
    | none => none
    | some (y, ρ2, q2) => match sem x y with
      | none => none
      | some d => some (d, ρ2, q2)
theorem f2_some {sem : PyData → PyData → Option PyData} {f g : Run} {ρ : Ev} {q : Sx} {d : PyData} {ρ' : Ev} {q' : Sx} (h : f2 sem f g ρ q = some (d, ρ', q')) :
    ∃ x ρ1 q1 y, f ρ q = some (x, ρ1, q1) ∧ g ρ1 q1 = some (y, ρ', q') ∧ sem x y = some d := by
  unfold f2 at h
  cases e1 : f ρ q with
  | none => rw [e1] at h; cases h
  | some r1 =>
    obtain ⟨x, ρ1, q1⟩ := r1
    simp only [e1] at h
    cases e2 : g ρ1 q1 with
    | none => rw [e2] at h; cases h
    | some r2 =>
      obtain ⟨y, ρ2, q2⟩ := r2
      simp only [e2] at h
      cases e3 : sem x y with
      | none => rw [e3] at h; cases h
      | some d' =>
        simp only [e3] at h
        cases h
        exact ⟨x, ρ1, q1, y, rfl, e2, e3⟩
theorem tOp_of {K : PySem.W.Frag} {r : R2} {sem : PyData → PyData → Option PyData} {f g : Run} (hs : OpS K r sem) (σ : Sg) (H : Hp) (Q : VK) (h : tEV K (f2 sem f g) σ H Q) : tOp r (tEV K f) (tEV K g) σ H Q := by
  obtain ⟨U, Z, ρ, q, d, ρ', q', A, e, k⟩ := h
  obtain ⟨x, ρ1, q1, y, e1, e2, e3⟩ := f2_some e
  exact ⟨U, Z, ρ, q, x, ρ1, q1, A, e1, fun Z1 H1 v l1 A1 r1 => ⟨U, Z1, ρ1, q1, y, ρ', q', A1, e2, fun Z2 H2 u l2 A2 r2 =>
    hs A2 (r1.mono l2) r2 e3 fun Z3 H3 w l3 A3 r3 => k Z3 H3 w ((l1.trans l2).trans l3) A3 r3⟩⟩
variable {a b : Expr} {f g : Run} {pos : Pos} {sem : PyData → PyData → Option PyData} {r : R2}
theorem ev_bin {op : Operator} (ho : OpR X (binaryOp op) r) (hs : OpS X.K r sem) (ha : PE X a (tEV X.K f)) (hb : PE X b (tEV X.K g)) : PE X (.BinOp a op b pos) (tEV X.K (f2 sem f g)) :=
  (pe_op ho ha hb).weak (tOp_of hs)
theorem ev_cmp {op : CmpOp} (ho : OpR X (compareOp op) r) (hs : OpS X.K r sem) (ha : PE X a (tEV X.K f)) (hb : PE X b (tEV X.K g)) (hm : behindInMarks op b = false) : PE X (.Compare a [op] [b] pos) (tEV X.K (f2 sem f g)) :=
  (pe_cmpR ho ha hb hm).weak (tOp_of hs)
/-- a value's truth, where it is True or False -/
def fT (f : Run) : RunT := fun ρ q => match f ρ q with
  | some (.bool b, ρ1, q1) => some (b, ρ1, q1)
  | _ => none
theorem fT_some {f : Run} {ρ : Ev} {q : Sx} {b : Bool} {ρ' : Ev} {q' : Sx} (h : fT f ρ q = some (b, ρ', q')) : f ρ q = some (.bool b, ρ', q') := by
  unfold fT at h
  split at h
  · cases h; assumption
  · cases h
theorem Rp.bool_inv {K : PySem.W.Frag} {Z : Fz} {v : V} {b : Bool} (r : Rp K Z v (.bool b)) : v = .bl b := by cases r; rfl
theorem Rp.int_inv {K : PySem.W.Frag} {Z : Fz} {v : V} {i : Int} (r : Rp K Z v (.int i)) : v = .int i := by cases r; rfl
theorem Rp.str_inv {K : PySem.W.Frag} {Z : Fz} {v : V} {i : Str} (r : Rp K Z v (.str i)) : v = .str i := by cases r; rfl
theorem Rp.non_inv {K : PySem.W.Frag} {Z : Fz} {v : V} (r : Rp K Z v .none) : v = .non := by cases r; rfl
theorem et_cmp {op : CmpOp} (ho : OpR X (compareOp op) r) (hs : OpS X.K r sem) (ha : PE X a (tEV X.K f)) (hb : PE X b (tEV X.K g)) (hm : behindInMarks op b = false) : PT X (.Compare a [op] [b] pos) (tTV X.K (fT (f2 sem f g))) :=
  (pt_cmpR ho ha hb hm).weak fun σ H Q ⟨U, Z, ρ, q, c, ρ', q', A, e, k⟩ => tOp_of hs σ H _ ⟨U, Z, ρ, q, .bool c, ρ', q', A, fT_some e, fun Z' H' v l A' r => ⟨c, r.bool_inv, k Z' H' l A'⟩⟩
theorem et_val {e : Expr} (h : PE X e (tEV X.K f)) (he : ∀ whole, isTrue e X.env whole = (do let v ← whole; standAt e.pos; holding [v] (truthy v))) : PT X e (tTV X.K (fT f)) :=
  (pt_val h he).weak fun σ H Q ⟨U, Z, ρ, q, c, ρ', q', A, e, k⟩ => ⟨U, Z, ρ, q, .bool c, ρ', q', A, fT_some e, fun Z' H' v l A' r => ⟨c, r.bool_inv, k Z' H' l A'⟩⟩
end
end Sb

set_option Elab.async false
set_option autoImplicit false
set_option linter.all false
set_option maxRecDepth 100000
set_option maxHeartbeats 4000000
/-! SbC: operators on data. -/
namespace Sb
open PySem PySem.Spec PyProof.Rows L2

theorem lim_line {n : Nat} (h : n ≤ 1000000) : n ≤ sizeLine := by rw [sizeLine_eq]; omega

/-! ### two operators the hand layer has in part -/
section
variable {X : Cx}
theorem tuple_mul_self (l : Addr) (items : Array Value) (n : Nat) (dd : Option Addr) (sl : Array (Option Value)) (x : Int) (u : Tok) (c0 : (decide (x < -(2 ^ 63)) || decide (x ≥ 2 ^ 63)) = false) (c1 : (items.isEmpty || x == 1) = true) :
    Meets (Builtin.«tuple.__mul__» ⟨[.ref l, .int x u], []⟩) (fun _ R s => s.heap.get? l = some { cls := .type "tuple", dict := dd, data := .seq items n, slots := sl } ∧ R (.ok (.ret (Value.ref l))) s) :=
  .of_wp fun prog w A R s h => by
    obtain ⟨hp, g, d, tk, os⟩ := s
    obtain ⟨hl, h⟩ := h
    have f1 := AutoSeq1.idx_int
    wp_walk using wpAny_loadPart' hl
    repeat (first
      | (refine wpAny_ite_false (decide_eq_false (by rw [c0]; exact Bool.false_ne_true)) ?_; wp_walk using wpAny_loadPart' hl)
      | (refine wpAny_ite_true (decide_eq_true (by rw [c1])) ?_; wp_walk using wpAny_loadPart' hl))
    exact ⟨_, rfl, h⟩
theorem tuple_mul_nil (l : Addr) (items : Array Value) (n : Nat) (dd : Option Addr) (sl : Array (Option Value)) (x : Int) (u : Tok) (c0 : (decide (x < -(2 ^ 63)) || decide (x ≥ 2 ^ 63)) = false) (c1 : (items.isEmpty || x == 1) = false) (c2 : (decide (x ≤ 0) || items.isEmpty) = true) :
    Meets (Builtin.«tuple.__mul__» ⟨[.ref l, .int x u], []⟩) (fun _ R s => s.heap.get? l = some { cls := .type "tuple", dict := dd, data := .seq items n, slots := sl } ∧
      R (.ok (.ret (Value.ref s.heap.objs.size))) { s with heap := s.heap.push { cls := Value.type "tuple", data := Data.seq #[] }, toks := s.toks }) :=
  .of_wp fun prog w A R s h => by
    obtain ⟨hp, g, d, tk, os⟩ := s
    obtain ⟨hl, h⟩ := h
    have f1 := AutoSeq1.idx_int
    wp_walk using wpAny_loadPart' hl
    repeat (first
      | (refine wpAny_ite_false (decide_eq_false (by rw [c0]; exact Bool.false_ne_true)) ?_; wp_walk using wpAny_loadPart' hl)
      | (refine wpAny_ite_false (decide_eq_false (by rw [c1]; exact Bool.false_ne_true)) ?_; wp_walk using wpAny_loadPart' hl)
      | (refine wpAny_ite_true (decide_eq_true (by rw [c2])) ?_; wp_walk using wpAny_loadPart' hl))
    exact ⟨_, rfl, h⟩
def rRepTA (K : PySem.W.Frag) : R2 := fun x y H Q => ∃ l k xs, x = .ref l ∧ y = .int k ∧ SqT K H l xs ∧ -1000 ≤ k ∧ k ≤ 1000 ∧ xs.length ≤ 1000 ∧
  ((xs = [] ∨ k = 1) → Q (.ref l) H) ∧ (¬ (xs = [] ∨ k = 1) → ∀ p, H p = none → Q (.ref p) (upd H p (.tup (List.replicate k.toNat xs).flatten)))
theorem op_repTA : OpR X (binaryOp .Mult) (rRepTA X.K) := by
  intro pins s σ H x y v u Q I rx ry h
  obtain ⟨l, k, xs, rfl, rfl, hT, h1, h2, hz, qa, qb⟩ := h
  by_cases big : xs ≠ [] ∧ 2 ≤ k
  · exact op_repT pins s σ H _ _ v u Q I rx ry ⟨l, k, xs, rfl, rfl, hT, big.1, big.2, h2, hz, qb (fun z => z.elim big.1 (fun e => by omega))⟩
  cases rx
  obtain ⟨t, rfl⟩ := ry
  obtain ⟨its, r, ⟨⟨cls, dd, data, sl⟩, ho, hc, n, hd⟩, hs⟩ := I.tuple hT
  simp only at hc hd
  subst hc hd
  have hle : its.length = xs.length := r.length.symm
  have hemp : its.toArray.isEmpty = xs.isEmpty := by
    cases its with
    | nil => cases xs with
      | nil => rfl
      | cons a b => simp at hle
    | cons a b => cases xs with
      | nil => simp at hle
      | cons c d => rfl
  have c0 : (decide (k < -(2 ^ 63)) || decide (k ≥ 2 ^ 63)) = false := by
    rw [decide_eq_false (by omega), decide_eq_false (by omega)] <;> rfl
  by_cases self : xs = [] ∨ k = 1
  · have c1 : (its.toArray.isEmpty || k == 1) = true := by
      rw [hemp]
      rcases self with e | e
      · rw [e]; rfl
      · rw [e]; cases xs.isEmpty <;> rfl
    exact wpAny_binaryOp_repeat_ref (T := "tuple") (U := "int") (by decide) ⟨_, ho, rfl⟩ (fun s' => typeIs_int s' k t) noFill_tuple_mul F.fills_int_mul F.slot_int_rmul repeat_tuple F.slot_int_index.lookup
      (call_meets F.slot_int_rmul (typeIs_int s k t) F.entry_int_rmul (F.args_int_rmul_2 _ _) (int_rmul_tuple k t l its.toArray n dd sl)
        ⟨ho, rfl, ⟨_, ho, rfl⟩, call_meets F.slot_tuple_mul ⟨_, ho, rfl⟩ F.entry_tuple_mul (F.args_tuple_mul_2 _ _) (tuple_mul_self l its.toArray n dd sl k t c0 c1) ⟨ho, ⟨.ref l, H, I, rfl, qa self⟩⟩⟩)
  · have hne : xs ≠ [] := fun e => self (.inl e)
    have hi : its.toArray.isEmpty = false := by
      rw [hemp]
      cases xs with
      | nil => exact absurd rfl hne
      | cons a b => rfl
    have k1 : k ≠ 1 := fun e => self (.inr e)
    have k0 : k ≤ 0 := by
      have : ¬ 2 ≤ k := fun e => big ⟨hne, e⟩
      omega
    have c1 : (its.toArray.isEmpty || k == 1) = false := by
      rw [hi, Bool.false_or]
      exact beq_eq_false_iff_ne.mpr k1
    have c2 : (decide (k ≤ 0) || its.toArray.isEmpty) = true := by rw [decide_eq_true k0]; rfl
    have e0 : (List.replicate k.toNat xs).flatten = [] := by
      have : k.toNat = 0 := by omega
      rw [this]; rfl
    refine wpAny_binaryOp_repeat_ref (T := "tuple") (U := "int") (by decide) ⟨_, ho, rfl⟩ (fun s' => typeIs_int s' k t) noFill_tuple_mul F.fills_int_mul F.slot_int_rmul repeat_tuple F.slot_int_index.lookup
      (call_meets F.slot_int_rmul (typeIs_int s k t) F.entry_int_rmul (F.args_int_rmul_2 _ _) (int_rmul_tuple k t l its.toArray n dd sl)
        ⟨ho, rfl, ⟨_, ho, rfl⟩, call_meets F.slot_tuple_mul ⟨_, ho, rfl⟩ F.entry_tuple_mul (F.args_tuple_mul_2 _ _) (tuple_mul_nil l its.toArray n dd sl k t c0 c1 c2) ⟨ho, ?_⟩⟩)
    have q' := qb self s.heap.objs.size (I.hok.fresh (Nat.le_refl _))
    rw [e0] at q'
    refine ⟨.ref s.heap.objs.size, _, I.laid (t' := s.toks) (o := .tup []) (fun b ob q => Heap.get?_push_of_some _ q) (Nat.le_refl _) ?_, rfl, q'⟩
    exact ⟨Nat.zero_le _, [], .nil, ⟨_, Heap.get?_push_size _ rfl, rfl, _, rfl⟩⟩
/-- t[::-1] -/
def tRevT (K : PySem.W.Frag) (te : TE) : TE := fun σ H Q => te σ H fun x H1 => ∃ a xs, x = .ref a ∧ SqT K H1 a xs ∧ ∀ p, H1 p = none → Q (.ref p) (upd H1 p (.tup xs.reverse))
end
section
variable {prog : Program} {w : World} {A : Around} {E : Value → Shared → Prop} {s : Shared}
open HT
theorem rev_places (n : Nat) : Builtin.Slice.sliceAdjust none none (-1) (n : Int) = ((n : Int) - 1, -1) := by
  unfold Builtin.Slice.sliceAdjust
  simp
theorem rev_count (n : Nat) : Builtin.Slice.slicePlaces ((n : Int) - 1) (-1) (-1) = n := by
  unfold Builtin.Slice.slicePlaces
  rw [if_neg (by decide)]
  by_cases h : n = 0
  · subst h; rfl
  · rw [if_pos (by omega)]
    rw [show (- -1 : Int) = 1 by decide, Int.ediv_one]
    omega
theorem fm_congr {α β : Type} {f g : α → Option β} : ∀ {l : List α}, (∀ x ∈ l, f x = g x) → l.filterMap f = l.filterMap g
  | [], _ => rfl
  | x :: l, h => by
    rw [List.filterMap_cons, List.filterMap_cons, h x List.mem_cons_self, fm_congr fun y hy => h y (List.mem_cons_of_mem _ hy)]
theorem rev_pick (xs : Array Value) : ((List.range xs.size).filterMap fun (k : Nat) => xs[(((xs.size : Nat) : Int) - 1 + (k : Int) * -1).toNat]?).toArray = xs.toList.reverse.toArray := by
  have e : (List.range xs.size).filterMap (fun (k : Nat) => xs[(((xs.size : Nat) : Int) - 1 + (k : Int) * -1).toNat]?) = (List.range xs.size).filterMap (fun k => xs[xs.size - 1 - k]?) := by
    refine fm_congr fun k hk => ?_
    have := List.mem_range.mp hk
    have q : (((xs.size : Nat) : Int) - 1 + (k : Int) * -1).toNat = xs.size - 1 - k := by omega
    rw [q]
  rw [e]
  have e2 : (List.range xs.size).filterMap (fun k => xs[xs.size - 1 - k]?) = ((List.range xs.size).map (fun k => xs.size - 1 - k)).filterMap (xs[·]?) := by
    rw [List.filterMap_map]; rfl
  rw [e2, PySem.W.krv_range, List.filterMap_reverse, PySem.W.krv_all]
theorem getItem_tuple_rev {t sl : Addr} {items : Array Value} {vk : Value} {Q : Value → Shared → Prop} (ht : IsTup s.heap t items) (hs : s.heap.IsSliceOf sl .none .none vk) (pk : IsPart vk (some (-1)))
    (h : Q (.ref s.heap.objs.size) { s with heap := s.heap.push { cls := .type "tuple", data := .seq items.toList.reverse.toArray } }) (hsz : items.size ≤ sizeLine) : wpAny (model prog w) A (getItem (.ref t) (.ref sl)) Q E s := by
  have fit : sizeOk (.seq items.toList.reverse.toArray) := by
    show items.toList.reverse.toArray.size ≤ sizeLine
    simpa using hsz
  obtain ⟨os, hos, hcs, hds⟩ := id hs
  have hTs : s.TypeIs (.ref sl) "slice" := ⟨os, hos, hcs⟩
  unfold getItem
  try with_reducible refine wpAny_holding ?_
  first | refine wpAny_bind (wpAny_pure ?_) | skip
  refine wpAny_bind (wpAny_sequenceKey ht.typeIs (by decide) ?_)
  refine wpAny_bind (wpAny_callSpecial?_slot (name := Str.ofString "__getitem__") ht.typeIs PyProof.Rows.slot_tuple_getitem
    (wpAny_call_entry PyProof.Rows.slot_tuple_getitem ht.typeIs entry_tuple_getitem ?_ (args_tuple_getitem _ _)))
  show wpAny _ _ (Builtin.Tuple.tupleItemsOf (.ref t) >>= _) _ _ s
  refine wpAny_bind (tupleItemsOf_ ht ?_)
  refine wpAny_bind (wpAny_typeOf hTs ?_)
  rw [if_pos (by decide)]
  have app : wpAny (model prog w) A.in1 (Builtin.Slice.sliceApplied (.ref sl) (pure ((items.size : Nat) : Int))) (fun r s' => r = (((items.size : Nat) : Int) - 1, -1, items.size) ∧ s' = s) E s := by
    unfold Builtin.Slice.sliceApplied Builtin.Slice.sliceFields
    refine wpAny_bind (wpAny_bind (wpAny_field hos hds (x := .none) rfl (wpAny_bind (wpAny_field hos hds (x := .none) rfl (wpAny_bind (wpAny_field hos hds (x := vk) rfl (wpAny_pure ?_)))))))
    refine wpAny_bind (slicePart_ pk ?_)
    show wpAny _ _ (if ((-1 : Int) == 0) = true then _ else _) _ _ s
    rw [if_neg (by decide)]
    refine wpAny_bind (slicePart_none (wpAny_bind (slicePart_none (wpAny_bind (wpAny_pure ?_)))))
    show wpAny _ _ (match Builtin.Slice.sliceAdjust none none (-1) ((items.size : Nat) : Int) with | (lo, hi) => pure (lo, (-1 : Int), Builtin.Slice.slicePlaces lo hi (-1))) _ _ s
    rw [rev_places]
    show wpAny _ _ (pure ((((items.size : Nat) : Int) - 1), (-1 : Int), Builtin.Slice.slicePlaces (((items.size : Nat) : Int) - 1) (-1) (-1))) _ _ s
    rw [rev_count]
    exact wpAny_pure ⟨rfl, rfl⟩
  refine wpAny_bind (wpAny_mono app (fun r s' hr => ?_) fun _ _ z => z)
  obtain ⟨rfl, rfl⟩ := hr
  show wpAny _ _ (if ((((items.size : Nat) : Int) - 1 == 0) && ((-1 : Int) == 1) && (items.size == items.size)) = true then _ else _) _ _ s'
  rw [if_neg (by simp), rev_pick]
  first
    | exact wpAny_bind (m := Builtin.Tuple.tupleExact _) (wpAny_newObj_type (wpAny_pure ⟨_, rfl, wpAny_pure h⟩) fit)
    | exact wpAny_bind (m := Builtin.Tuple.tupleExact _) (wpAny_newObj_type (wpAny_bind (wpAny_pure (wpAny_pure ⟨_, rfl, wpAny_pure h⟩))) fit)
    | exact wpAny_bind (wpAny_bind (m := Builtin.Tuple.tupleExact _) (wpAny_newObj_type (wpAny_pure (wpAny_pure ⟨_, rfl, wpAny_pure h⟩)) fit))
    | exact wpAny_bind (wpAny_bind (m := Builtin.Tuple.tupleExact _) (wpAny_newObj_type (wpAny_pure ⟨_, rfl, wpAny_pure h⟩) fit))
end

section
variable {X : Cx} {e : Expr} {te : TE}
/-- e[::-1], of a list or a tuple -/
def tRevA (K : PySem.W.Frag) (te : TE) : TE := fun σ H Q => te σ H fun x H1 => ∃ a xs, x = .ref a ∧
  ((SqL K H1 a xs ∧ ∀ p, H1 p = none → Q (.ref p) (upd H1 p (.lst xs.reverse))) ∨ (SqT K H1 a xs ∧ ∀ p, H1 p = none → Q (.ref p) (upd H1 p (.tup xs.reverse))))
theorem pe_revA {k : Nat} {p1 p2 p3 pos : Pos} (he : PE X e te) : PE X (.Subscript e (.Slice none none (some (.UnaryOp .USub (.Constant (.int 1) k p1) p2)) p3) pos) (tRevA X.K te) := by
  refine ⟨fun pins s0 σ H Q I0 hw => Subscript_ (thn (he.run pins s0 σ H _ I0 hw) ?_)⟩
  rintro v s1 ⟨x, H1, I1, r1, a, xs, rfl, hq⟩
  obtain rfl : v = Value.ref a := r1
  have minus : PO X (some (.UnaryOp .USub (.Constant (.int 1) k p1) p2)) (tPart (tUn (rU fun i => .int (-i)) (tC (.int 1)))) := po_some (pe_un un_neg pe_int)
  refine wpAny_Slice (thn (po_none.run pins s1 σ H1 (fun o G => o = none ∧ H1 = G) I1 ⟨rfl, rfl⟩) ?_)
  rintro vl s2 ⟨_, _, I2, pl, rfl, rfl⟩
  refine thn (po_none.run pins s2 σ _ (fun o G => o = none ∧ H1 = G) I2 ⟨rfl, rfl⟩) ?_
  rintro vu s3 ⟨_, _, I3, pu, rfl, rfl⟩
  refine thn (minus.run pins s3 σ _ (fun o G => o = some (-1) ∧ H1 = G) I3 ⟨1, rfl, -1, rfl, rfl, rfl⟩) ?_
  rintro vs s4 ⟨_, _, I4, ps, rfl, rfl⟩
  generalize hs5 : ({ s4 with heap := s4.heap.push { cls := .type "slice", data := .fields #[vl, vu, vs] } } : Shared) = s5
  have I5 : Inv X pins σ H1 s5 := by
    subst hs5
    exact I4.kept (t' := s4.toks) fun b ob q => Heap.get?_push_of_some _ q
  have slc : s5.heap.IsSliceOf s4.heap.objs.size vl vu vs := by
    subst hs5
    exact Heap.IsSliceOf.new _ vl vu vs
  show wpAny (model X.prog X.w) X.A (subscriptTail e (.Slice none none (some (.UnaryOp .USub (.Constant (.int 1) k p1) p2)) p3) (.ref a) (.ref s4.heap.objs.size)) (EP X pins σ Q) X.xe s5
  rcases hq with ⟨hx, q⟩ | ⟨hx, q⟩
  · obtain ⟨its, r, ht, hz⟩ := I5.list hx
    refine tail_any (ops := [.ref a, .ref s4.heap.objs.size]) ht.isList.typeIs (PySem.slot_list_getitem.lookup) ?_ (by with_unfolding_all rfl)
    refine wpAny_getItem_list_slice ht.isList slc pl pu ps (by decide) ?_ (by rw [List.size_toArray, ← r.length]; exact hz)
    rw [PySem.W.krv_pick]
    exact ⟨.ref _, _, I5.laid (t' := s5.toks) (o := .lst xs.reverse) (fun b ob q => Heap.get?_push_of_some _ q) (Nat.le_refl _) ⟨by rw [List.length_reverse]; exact hz, _, 0, r.reverse, Heap.get?_push_size _ rfl⟩, rfl, q _ I5.fresh⟩
  · obtain ⟨its, r, ht, hz⟩ := I5.tuple hx
    cases pl
    cases pu
    refine tail_any (ops := [.ref a, .ref s4.heap.objs.size]) ht.typeIs (PyProof.Rows.slot_tuple_getitem.lookup) ?_ (by with_unfolding_all rfl)
    refine getItem_tuple_rev ht slc ps ?_ (by rw [List.size_toArray, ← r.length]; exact hz)
    exact ⟨.ref _, _, I5.laid (t' := s5.toks) (o := .tup xs.reverse) (fun b ob q => Heap.get?_push_of_some _ q) (Nat.le_refl _) ⟨by rw [List.length_reverse]; exact hz, _, r.reverse, IsTup.new _ _⟩, rfl, q _ I5.fresh⟩
end
end Sb

set_option Elab.async false
set_option autoImplicit false
set_option linter.all false
set_option maxRecDepth 100000
set_option maxHeartbeats 4000000
/-! SbD: what operators and built-ins make of data. -/
namespace Sb
open PySem PySem.Spec PyProof.Rows L2

/-! ### data that may be compared, shown -/
def leafOk : PyData → Bool
  | .none => true
  | .bool _ => true
  | .int _ => true
  | .str x => PyData.strOk x
  | _ => false
/-- at most n deep, no dict -/
def okd : Nat → PyData → Bool
  | 0, d => leafOk d
  | n + 1, d => match d with
    | .list xs => xs.all (okd n)
    | .tuple xs => xs.all (okd n)
    | d => leafOk d
theorem nodA_of : ∀ {xs : List PyData}, (∀ x ∈ xs, nod x = true) → nodA xs = true
  | [], _ => rfl
  | x :: xs, h => by
    rw [nodA, h x List.mem_cons_self, nodA_of fun y hy => h y (List.mem_cons_of_mem _ hy)]
    rfl
theorem canLayA_of : ∀ {xs : List PyData}, (∀ x ∈ xs, x.canLay0 = true) → PyData.canLayAll0 xs = true
  | [], _ => by simp [PyData.canLayAll0]
  | x :: xs, h => by
    rw [PyData.canLayAll0, h x List.mem_cons_self, canLayA_of fun y hy => h y (List.mem_cons_of_mem _ hy)]
    rfl
theorem depthA_of {n : Nat} : ∀ {xs : List PyData}, (∀ x ∈ xs, x.depth ≤ n) → PyData.depthAll xs ≤ n
  | [], _ => Nat.zero_le _
  | x :: xs, h => by
    rw [PyData.depthAll]
    exact Nat.max_le.mpr ⟨h x List.mem_cons_self, depthA_of fun y hy => h y (List.mem_cons_of_mem _ hy)⟩
theorem leaf_ok {d : PyData} (h : leafOk d = true) : nod d = true ∧ d.canLay0 = true ∧ d.depth = 0 := by
  cases d with
  | none => exact ⟨rfl, rfl, rfl⟩
  | bool b => exact ⟨rfl, rfl, rfl⟩
  | int i => exact ⟨rfl, rfl, rfl⟩
  | str x => exact ⟨rfl, by rw [PyData.canLay0]; exact h, rfl⟩
  | _ => cases h
theorem okd_ok : ∀ {n : Nat} {d : PyData}, okd n d = true → nod d = true ∧ d.canLay0 = true ∧ d.depth ≤ n
  | 0, d, h => by
    obtain ⟨a, b, c⟩ := leaf_ok h
    exact ⟨a, b, by omega⟩
  | n + 1, d, h => by
    cases d with
    | list xs =>
      have h : xs.all (okd n) = true := h
      have ih := fun x hx => okd_ok (n := n) (d := x) (List.all_eq_true.mp h x hx)
      refine ⟨by rw [nod]; exact nodA_of fun x hx => (ih x hx).1, by rw [PyData.canLay0]; exact canLayA_of fun x hx => (ih x hx).2.1, ?_⟩
      rw [PyData.depth]
      exact Nat.succ_le_succ (depthA_of fun x hx => (ih x hx).2.2)
    | tuple xs =>
      have h : xs.all (okd n) = true := h
      have ih := fun x hx => okd_ok (n := n) (d := x) (List.all_eq_true.mp h x hx)
      refine ⟨by rw [nod]; exact nodA_of fun x hx => (ih x hx).1, by rw [PyData.canLay0]; exact canLayA_of fun x hx => (ih x hx).2.1, ?_⟩
      rw [PyData.depth]
      exact Nat.succ_le_succ (depthA_of fun x hx => (ih x hx).2.2)
    | none => obtain ⟨a, b, c⟩ := leaf_ok (d := .none) h; exact ⟨a, b, by omega⟩
    | bool z => obtain ⟨a, b, c⟩ := leaf_ok (d := .bool z) h; exact ⟨a, b, by omega⟩
    | int z => obtain ⟨a, b, c⟩ := leaf_ok (d := .int z) h; exact ⟨a, b, by omega⟩
    | str z => obtain ⟨a, b, c⟩ := leaf_ok (d := .str z) h; exact ⟨a, b, by omega⟩
    | dict z => cases h
theorem okd_shaped {d : PyData} (h : okd 40 d = true) : SeqAt.shaped d = true := by
  obtain ⟨_, b, c⟩ := okd_ok h
  show (d.canLay0 && decide (d.depth ≤ 64)) = true
  rw [b, decide_eq_true (by omega)]
  rfl
/-- more room -/
theorem okd_succ : ∀ {n : Nat} {d : PyData}, okd n d = true → okd (n + 1) d = true
  | 0, d, h => by
    cases d with
    | list xs => cases h
    | tuple xs => cases h
    | _ => exact h
  | n + 1, d, h => by
    cases d with
    | list xs =>
      have h : xs.all (okd n) = true := h
      show xs.all (okd (n + 1)) = true
      exact List.all_eq_true.mpr fun x hx => okd_succ (List.all_eq_true.mp h x hx)
    | tuple xs =>
      have h : xs.all (okd n) = true := h
      show xs.all (okd (n + 1)) = true
      exact List.all_eq_true.mpr fun x hx => okd_succ (List.all_eq_true.mp h x hx)
    | _ => exact h
theorem okd_mono {n m : Nat} {d : PyData} (h : okd n d = true) (l : n ≤ m) : okd m d = true := by
  induction l with
  | refl => exact h
  | step _ ih => exact okd_succ ih

/-! ### operators -/
def addS : PyData → PyData → Option PyData
  | .int i, .int j => some (.int (i + j))
  | .list a, .list b => if a.length + b.length ≤ 1000000 then some (.list (a ++ b)) else none
  | .tuple a, .tuple b => if a.length + b.length ≤ 1000000 then some (.tuple (a ++ b)) else none
  | _, _ => none
def subS : PyData → PyData → Option PyData
  | .int i, .int j => some (.int (i - j))
  | _, _ => none
def mulS : PyData → PyData → Option PyData
  | .int i, .int j => if i.natAbs < 1000000000000 ∨ j.natAbs < 1000000000000 then some (.int (i * j)) else none
  | .list a, .int k => if a.length * k.toNat ≤ 1000000 ∧ k.natAbs ≤ 1000000 then some (.list (List.replicate k.toNat a).flatten) else none
  | .tuple a, .int k => if a.length ≤ 1000 ∧ k.natAbs ≤ 1000 then some (.tuple (List.replicate k.toNat a).flatten) else none
  | _, _ => none
def divS : PyData → PyData → Option PyData
  | .int i, .int j => if 0 < j ∧ j < 1073741824 then some (.int (i / j)) else none
  | _, _ => none
def modS : PyData → PyData → Option PyData
  | .int i, .int j => if 0 < j then some (.int (i % j)) else none
  | _, _ => none
def shlS : PyData → PyData → Option PyData
  | .int i, .int j => if 0 ≤ j ∧ j ≤ 1000000 ∧ i.natAbs < 1000000000000 then some (.int (i * 2 ^ j.toNat)) else none
  | _, _ => none
def powS : PyData → PyData → Option PyData
  | .int i, .int j => if 0 ≤ j ∧ j ≤ 1000 ∧ i.natAbs < 1000000000000 then some (.int (i ^ j.toNat)) else none
  | _, _ => none

section
variable {K : PySem.W.Frag}
theorem Rp.list_inv {Z : Fz} {v : V} {ds : List PyData} (r : Rp K Z v (.list ds)) : ∃ a xs, v = .ref a ∧ Z.F a = some (.lst xs) ∧ RpA K Z xs ds := by
  cases r with
  | lst h r => exact ⟨_, _, rfl, h, r⟩
theorem Rp.tuple_inv {Z : Fz} {v : V} {ds : List PyData} (r : Rp K Z v (.tuple ds)) : ∃ a xs, v = .ref a ∧ Z.F a = some (.tup xs) ∧ RpA K Z xs ds := by
  cases r with
  | tup h r => exact ⟨_, _, rfl, h, r⟩
section
variable {U : Hp} {Z : Fz} {σ : Sg} {H : Hp} {ρ : Ev} {q : Sx} {Q : VK}
/-- a new frozen list, tuple -/
theorem Ab.newL (A : Ab K U Z σ H ρ q) {p : Addr} {vs : List V} {ds : List PyData} (hp : H p = none) (r : RpA K Z vs ds) (k : ∀ Z' H' v, Z.Le Z' → Ab K U Z' σ H' ρ q → Rp K Z' v (.list ds) → Q v H') : Q (.ref p) (upd H p (.lst vs)) :=
  k _ _ _ (A.le_new hp) (A.new hp) (.lst upd_same (r.mono (A.le_new hp)))
theorem Ab.newT (A : Ab K U Z σ H ρ q) {p : Addr} {vs : List V} {ds : List PyData} (hp : H p = none) (r : RpA K Z vs ds) (k : ∀ Z' H' v, Z.Le Z' → Ab K U Z' σ H' ρ q → Rp K Z' v (.tuple ds) → Q v H') : Q (.ref p) (upd H p (.tup vs)) :=
  k _ _ _ (A.le_new hp) (A.new hp) (.tup upd_same (r.mono (A.le_new hp)))
/-- nothing new -/
theorem Ab.same (A : Ab K U Z σ H ρ q) {v : V} {d : PyData} (r : Rp K Z v d) (k : ∀ Z' H' v, Z.Le Z' → Ab K U Z' σ H' ρ q → Rp K Z' v d → Q v H') : Q v H := k _ _ _ (.refl Z) A r
end
theorem add_S : OpS K (fun x y H Q => rI0 (fun i j => .int (i + j)) x y H Q ∨ rCat x y H Q ∨ rCatA K x y H Q) addS := by
  intro U Z σ H ρ q x y dx dy d Q A rx ry e k
  unfold addS at e
  split at e
  · cases e
    obtain rfl := rx.int_inv
    obtain rfl := ry.int_inv
    exact .inl ⟨_, _, rfl, rfl, A.same (.int _) k⟩
  · split at e
    · cases e
      obtain ⟨a, xs, rfl, h1, r1⟩ := rx.list_inv
      obtain ⟨b, ys, rfl, h2, r2⟩ := ry.list_inv
      refine .inr (.inl ⟨a, b, xs, ys, rfl, rfl, A.fro _ _ h1, A.fro _ _ h2, ?_, fun p hp => A.newL hp (r1.append r2) k⟩)
      rw [r1.length, r2.length]; exact lim_line ‹_›
    · cases e
  · split at e
    · cases e
      obtain ⟨a, xs, rfl, h1, r1⟩ := rx.tuple_inv
      obtain ⟨b, ys, rfl, h2, r2⟩ := ry.tuple_inv
      refine .inr (.inr ⟨a, b, xs, ys, rfl, rfl, SqT.of (A.fro _ _ h1), SqT.of (A.fro _ _ h2), ?_, fun z => ?_, fun _ z => ?_, fun _ _ p hp => A.newT hp (r1.append r2) k⟩)
      · rw [r1.length, r2.length]; exact lim_line ‹_›
      · subst z
        cases r1
        exact A.same ry k
      · subst z
        cases r2
        rw [List.append_nil] at k
        exact A.same rx k
    · cases e
  · cases e
theorem sub_S : OpS K (rI0 (fun i j => .int (i - j))) subS := by
  intro U Z σ H ρ q x y dx dy d Q A rx ry e k
  unfold subS at e
  split at e
  · cases e
    obtain rfl := rx.int_inv
    obtain rfl := ry.int_inv
    exact ⟨_, _, rfl, rfl, A.same (.int _) k⟩
  · cases e
theorem mul_S : OpS K (fun x y H Q => rI CMul (fun i j => .int (i * j)) x y H Q ∨ rRep x y H Q ∨ rRepTA K x y H Q) mulS := by
  intro U Z σ H ρ q x y dx dy d Q A rx ry e k
  unfold mulS at e
  split at e
  · split at e
    · cases e
      obtain rfl := rx.int_inv
      obtain rfl := ry.int_inv
      refine .inl ⟨_, _, rfl, rfl, ?_, A.same (.int _) k⟩
      unfold CMul
      rename_i h
      rcases h with h | h
      · exact .inl (by omega)
      · exact .inr (by omega)
    · cases e
  · split at e
    · cases e
      obtain ⟨a, xs, rfl, h1, r1⟩ := rx.list_inv
      obtain rfl := ry.int_inv
      rename_i h
      refine .inr (.inl ⟨a, _, xs, rfl, rfl, A.fro _ _ h1, by omega, by omega, ?_, fun p hp => A.newL hp (r1.rep _) k⟩)
      rw [r1.length]; exact lim_line h.1
    · cases e
  · split at e
    · cases e
      obtain ⟨a, xs, rfl, h1, r1⟩ := rx.tuple_inv
      obtain rfl := ry.int_inv
      rename_i n h
      refine .inr (.inr ⟨a, _, xs, rfl, rfl, SqT.of (A.fro _ _ h1), by omega, by omega, by rw [r1.length]; exact h.1, fun z => ?_, fun _ p hp => A.newT hp (r1.rep _) k⟩)
      have e : (List.replicate n.toNat _).flatten = _ := (show (List.replicate n.toNat ‹List PyData›).flatten = ‹List PyData› from by
        rcases z with z | z
        · subst z
          cases r1
          generalize n.toNat = m
          induction m with
          | zero => rfl
          | succ m ih => rw [List.replicate_succ, List.flatten_cons, ih]; rfl
        · subst z
          simp)
      rw [e] at k
      exact A.same rx k
    · cases e
  · cases e
theorem div_S : OpS K (rI CDiv (fun i j => .int (i / j))) divS := by
  intro U Z σ H ρ q x y dx dy d Q A rx ry e k
  unfold divS at e
  split at e
  · split at e
    · cases e
      obtain rfl := rx.int_inv
      obtain rfl := ry.int_inv
      exact ⟨_, _, rfl, rfl, ‹_›, A.same (.int _) k⟩
    · cases e
  · cases e
theorem mod_S : OpS K (rI (fun _ j => 0 < j) (fun i j => .int (i % j))) modS := by
  intro U Z σ H ρ q x y dx dy d Q A rx ry e k
  unfold modS at e
  split at e
  · split at e
    · cases e
      obtain rfl := rx.int_inv
      obtain rfl := ry.int_inv
      exact ⟨_, _, rfl, rfl, ‹_›, A.same (.int _) k⟩
    · cases e
  · cases e
theorem shl_S : OpS K (rI CPow (fun i j => .int (i * 2 ^ j.toNat))) shlS := by
  intro U Z σ H ρ q x y dx dy d Q A rx ry e k
  unfold shlS at e
  split at e
  · split at e
    · cases e
      obtain rfl := rx.int_inv
      obtain rfl := ry.int_inv
      rename_i h
      exact ⟨_, _, rfl, rfl, ⟨h.1, h.2.1, by omega⟩, A.same (.int _) k⟩
    · cases e
  · cases e
theorem pow_S : OpS K (rI CPow (fun i j => .int (i ^ j.toNat))) powS := by
  intro U Z σ H ρ q x y dx dy d Q A rx ry e k
  unfold powS at e
  split at e
  · split at e
    · cases e
      obtain rfl := rx.int_inv
      obtain rfl := ry.int_inv
      rename_i h
      exact ⟨_, _, rfl, rfl, ⟨h.1, by omega, by omega⟩, A.same (.int _) k⟩
    · cases e
  · cases e

/-! ### comparisons -/
def isNon : PyData → Bool
  | .none => true
  | _ => false
def isS : PyData → PyData → Option PyData
  | d, .none => some (.bool (isNon d))
  | .bool a, .bool b => some (.bool (decide (a = b)))
  | _, _ => none
def notS (f : PyData → PyData → Option PyData) : PyData → PyData → Option PyData := fun x y => match f x y with
  | some (.bool b) => some (.bool (!b))
  | _ => none
def ordS (p : Int → Int → Bool) : PyData → PyData → Option PyData
  | .int i, .int j => some (.bool (p i j))
  | _, _ => none
def isStr : PyData → Bool
  | .str _ => true
  | _ => false
def eqS : PyData → PyData → Option PyData := fun d e => if (isStr d && isStr e) || (okd 40 d && okd 40 e) then some (.bool (PyData.eqv d e)) else none
def inS : PyData → PyData → Option PyData := fun d c => match c with
  | .list xs => if (isStr d && xs.all isStr) || (okd 40 d && xs.all (okd 39)) then some (.bool (xs.any fun y => PyData.eqv y d)) else none
  | .tuple xs => if (isStr d && xs.all isStr) || (okd 40 d && xs.all (okd 39)) then some (.bool (xs.any fun y => PyData.eqv y d)) else none
  | _ => none

theorem ord_S (p : Int → Int → Bool) : OpS K (rI0 fun i j => .bl (p i j)) (ordS p) := by
  intro U Z σ H ρ q x y dx dy d Q A rx ry e k
  unfold ordS at e
  split at e
  · cases e
    obtain rfl := rx.int_inv
    obtain rfl := ry.int_inv
    exact ⟨_, _, rfl, rfl, A.same (.bl _) k⟩
  · cases e
theorem Rp.none_iff {Z : Fz} {v : V} {d : PyData} (r : Rp K Z v d) : decide (v = .non) = isNon d := by
  cases r <;> rfl
theorem is_S : OpS K (fun x y H Q => (y = .non ∧ Q (.bl (decide (x = .non))) H) ∨ rIsB x y H Q) isS := by
  intro U Z σ H ρ q x y dx dy d Q A rx ry e k
  unfold isS at e
  split at e
  · cases e
    obtain rfl := ry.non_inv
    refine .inl ⟨rfl, ?_⟩
    rw [rx.none_iff]
    exact A.same (.bl _) k
  · cases e
    obtain rfl := rx.bool_inv
    obtain rfl := ry.bool_inv
    exact .inr ⟨_, _, rfl, rfl, A.same (.bl _) k⟩
  · cases e
theorem notS_some {f : PyData → PyData → Option PyData} {x y d : PyData} (h : notS f x y = some d) : ∃ b, f x y = some (.bool b) ∧ d = .bool (!b) := by
  unfold notS at h
  split at h
  · cases h; exact ⟨_, ‹_›, rfl⟩
  · cases h
theorem isnot_S : OpS K (fun x y H Q => (y = .non ∧ Q (.bl (!decide (x = .non))) H) ∨ rNotB x y H Q) (notS isS) := by
  intro U Z σ H ρ q x y dx dy d Q A rx ry e k
  obtain ⟨b, e1, rfl⟩ := notS_some e
  clear e
  have e := e1
  clear e1
  unfold isS at e
  split at e
  · cases e
    obtain rfl := ry.non_inv
    refine .inl ⟨rfl, ?_⟩
    rw [rx.none_iff]
    exact A.same (.bl _) k
  · cases e
    obtain rfl := rx.bool_inv
    obtain rfl := ry.bool_inv
    exact .inr ⟨_, _, rfl, rfl, A.same (.bl _) k⟩
  · cases e
theorem str_of {d : PyData} (h : isStr d = true) : ∃ x, d = .str x := by
  cases d with
  | str x => exact ⟨x, rfl⟩
  | _ => cases h
theorem eqv_str (x y : Str) : PyData.eqv (.str x) (.str y) = decide (V.str x = V.str y) := by
  rw [dec_str]; simp only [PyData.eqv]
theorem eq_S : OpS K (fun x y H Q => rEq x y H Q ∨ rEqD K x y H Q) eqS := by
  intro U Z σ H ρ q x y dx dy d Q A rx ry e k
  unfold eqS at e
  split at e
  · cases e
    rename_i h
    rw [Bool.or_eq_true, Bool.and_eq_true, Bool.and_eq_true] at h
    rcases h with ⟨h1, h2⟩ | ⟨h1, h2⟩
    · obtain ⟨a, rfl⟩ := str_of h1
      obtain ⟨b, rfl⟩ := str_of h2
      obtain rfl := rx.str_inv
      obtain rfl := ry.str_inv
      rw [eqv_str] at k
      exact .inl ⟨rfl, A.same (.bl _) k⟩
    · exact .inr ⟨dx, dy, rx.dp A.fro (okd_ok h1).1, ry.dp A.fro (okd_ok h2).1, okd_shaped h1, okd_shaped h2, A.same (.bl _) k⟩
  · cases e
theorem ne_S : OpS K (fun x y H Q => rNe x y H Q ∨ rNeD K x y H Q) (notS eqS) := by
  intro U Z σ H ρ q x y dx dy d Q A rx ry e k
  obtain ⟨b, e1, rfl⟩ := notS_some e
  clear e
  have e := e1
  clear e1
  unfold eqS at e
  split at e
  · cases e
    rename_i h
    rw [Bool.or_eq_true, Bool.and_eq_true, Bool.and_eq_true] at h
    rcases h with ⟨h1, h2⟩ | ⟨h1, h2⟩
    · obtain ⟨a, rfl⟩ := str_of h1
      obtain ⟨b, rfl⟩ := str_of h2
      obtain rfl := rx.str_inv
      obtain rfl := ry.str_inv
      rw [eqv_str] at k
      exact .inl ⟨rfl, A.same (.bl _) k⟩
    · exact .inr ⟨dx, dy, rx.dp A.fro (okd_ok h1).1, ry.dp A.fro (okd_ok h2).1, okd_shaped h1, okd_shaped h2, A.same (.bl _) k⟩
  · cases e
end
/-- in, of a list or a tuple of data -/
def rInA (K : PySem.W.Frag) (neg : Bool) : R2 := fun x y H Q => ∃ d ds, Dp K H x d ∧ (Dp K H y (.list ds) ∨ Dp K H y (.tuple ds)) ∧ SeqAt.shaped d = true ∧ PyData.canLayAll0 ds = true ∧ Q (.bl (if neg then !(ds.any fun z => PyData.eqv z d) else (ds.any fun z => PyData.eqv z d))) H
section
variable {X : Cx}
theorem room_in {d : PyData} {n : Nat} (sd : SeqAt.shaped d = true) (hu : X.A.units + 65 < cLine) : X.A.units + 1 + min n d.depth < cLine := by
  have h := SeqAt.depth_of_shaped sd
  have := Nat.min_le_right n d.depth
  omega
theorem op_inA (hu : X.A.units + 65 < cLine) : OpR X (compareOp .In) (rInA X.K false) := by
  intro pins s σ H x y v u Q I rx ry h
  obtain ⟨d, ds, hd, he, sd, se, q⟩ := h
  obtain ⟨as, r1⟩ := Dp.reads I d x v hd rx
  rcases he with he | he
  · obtain ⟨bs, r2⟩ := Dp.reads I (.list ds) y u he ry
    exact SeqAt.in_list_reads r2 r1 se (SeqAt.canLay_of_shaped sd) (room_in sd hu) ⟨.bl _, H, I, rfl, q⟩
  · obtain ⟨bs, r2⟩ := Dp.reads I (.tuple ds) y u he ry
    exact SeqAt.in_tuple_reads r2 r1 se (SeqAt.canLay_of_shaped sd) (room_in sd hu) ⟨.bl _, H, I, rfl, q⟩
theorem op_notInA (hu : X.A.units + 65 < cLine) : OpR X (compareOp .NotIn) (rInA X.K true) := by
  intro pins s σ H x y v u Q I rx ry h
  obtain ⟨d, ds, hd, he, sd, se, q⟩ := h
  obtain ⟨as, r1⟩ := Dp.reads I d x v hd rx
  rcases he with he | he
  · obtain ⟨bs, r2⟩ := Dp.reads I (.list ds) y u he ry
    exact SeqAt.notIn_list_reads r2 r1 se (SeqAt.canLay_of_shaped sd) (room_in sd hu) ⟨.bl _, H, I, rfl, q⟩
  · obtain ⟨bs, r2⟩ := Dp.reads I (.tuple ds) y u he ry
    exact SeqAt.notIn_tuple_reads r2 r1 se (SeqAt.canLay_of_shaped sd) (room_in sd hu) ⟨.bl _, H, I, rfl, q⟩
end
section
variable {K : PySem.W.Frag}
theorem strs_of {Z : Fz} : ∀ {xs : List V} {ds : List PyData}, RpA K Z xs ds → ds.all isStr = true → ∀ x : Str, xs.all flatV = true ∧ inV (.str x) xs = ds.any fun y => PyData.eqv y (.str x)
  | _, _, .nil, _, _ => ⟨rfl, rfl⟩
  | _, _, .cons r rr, h, x => by
    rw [List.all_cons, Bool.and_eq_true] at h
    obtain ⟨z, rfl⟩ := str_of h.1
    obtain rfl := r.str_inv
    obtain ⟨h1, h2⟩ := strs_of rr h.2 x
    refine ⟨by rw [List.all_cons, h1]; rfl, ?_⟩
    unfold inV at h2 ⊢
    rw [List.any_cons, List.any_cons, h2]
    congr 1
theorem in_S : OpS K (fun x y H Q => rIn K false x y H Q ∨ rInA K false x y H Q) inS := by
  intro U Z σ H ρ q x y dx dy d Q A rx ry e k
  unfold inS at e
  split at e
  · split at e
    · cases e
      rename_i ds h
      rw [Bool.or_eq_true, Bool.and_eq_true, Bool.and_eq_true] at h
      obtain ⟨a, xs, rfl, h1, r1⟩ := ry.list_inv
      rcases h with ⟨g1, g2⟩ | ⟨g1, g2⟩
      · obtain ⟨z, rfl⟩ := str_of g1
        obtain rfl := rx.str_inv
        obtain ⟨f1, f2⟩ := strs_of r1 g2 z
        refine .inl ⟨a, xs, rfl, .inl (SqL.of (A.fro _ _ h1)), rfl, f1, ?_⟩
        rw [← f2] at k
        exact A.same (.bl _) k
      · have all := fun z hz => okd_ok (List.all_eq_true.mp g2 z hz)
        exact .inr ⟨dx, ds, rx.dp A.fro (okd_ok g1).1, .inl (ry.dp A.fro (by rw [nod]; exact nodA_of fun z hz => (all z hz).1)), okd_shaped g1, canLayA_of fun z hz => (all z hz).2.1, A.same (.bl _) k⟩
    · cases e
  · split at e
    · cases e
      rename_i ds h
      rw [Bool.or_eq_true, Bool.and_eq_true, Bool.and_eq_true] at h
      obtain ⟨a, xs, rfl, h1, r1⟩ := ry.tuple_inv
      rcases h with ⟨g1, g2⟩ | ⟨g1, g2⟩
      · obtain ⟨z, rfl⟩ := str_of g1
        obtain rfl := rx.str_inv
        obtain ⟨f1, f2⟩ := strs_of r1 g2 z
        refine .inl ⟨a, xs, rfl, .inr (SqT.of (A.fro _ _ h1)), rfl, f1, ?_⟩
        rw [← f2] at k
        exact A.same (.bl _) k
      · have all := fun z hz => okd_ok (List.all_eq_true.mp g2 z hz)
        exact .inr ⟨dx, ds, rx.dp A.fro (okd_ok g1).1, .inr (ry.dp A.fro (by rw [nod]; exact nodA_of fun z hz => (all z hz).1)), okd_shaped g1, canLayA_of fun z hz => (all z hz).2.1, A.same (.bl _) k⟩
    · cases e
  · cases e
theorem notin_S : OpS K (fun x y H Q => rIn K true x y H Q ∨ rInA K true x y H Q) (notS inS) := by
  intro U Z σ H ρ q x y dx dy d Q A rx ry e k
  obtain ⟨b, e1, rfl⟩ := notS_some e
  clear e
  have e := e1
  clear e1
  unfold inS at e
  split at e
  · split at e
    · cases e
      rename_i ds h
      rw [Bool.or_eq_true, Bool.and_eq_true, Bool.and_eq_true] at h
      obtain ⟨a, xs, rfl, h1, r1⟩ := ry.list_inv
      rcases h with ⟨g1, g2⟩ | ⟨g1, g2⟩
      · obtain ⟨z, rfl⟩ := str_of g1
        obtain rfl := rx.str_inv
        obtain ⟨f1, f2⟩ := strs_of r1 g2 z
        refine .inl ⟨a, xs, rfl, .inl (SqL.of (A.fro _ _ h1)), rfl, f1, ?_⟩
        rw [← f2] at k
        exact A.same (.bl _) k
      · have all := fun z hz => okd_ok (List.all_eq_true.mp g2 z hz)
        exact .inr ⟨dx, ds, rx.dp A.fro (okd_ok g1).1, .inl (ry.dp A.fro (by rw [nod]; exact nodA_of fun z hz => (all z hz).1)), okd_shaped g1, canLayA_of fun z hz => (all z hz).2.1, A.same (.bl _) k⟩
    · cases e
  · split at e
    · cases e
      rename_i ds h
      rw [Bool.or_eq_true, Bool.and_eq_true, Bool.and_eq_true] at h
      obtain ⟨a, xs, rfl, h1, r1⟩ := ry.tuple_inv
      rcases h with ⟨g1, g2⟩ | ⟨g1, g2⟩
      · obtain ⟨z, rfl⟩ := str_of g1
        obtain rfl := rx.str_inv
        obtain ⟨f1, f2⟩ := strs_of r1 g2 z
        refine .inl ⟨a, xs, rfl, .inr (SqT.of (A.fro _ _ h1)), rfl, f1, ?_⟩
        rw [← f2] at k
        exact A.same (.bl _) k
      · have all := fun z hz => okd_ok (List.all_eq_true.mp g2 z hz)
        exact .inr ⟨dx, ds, rx.dp A.fro (okd_ok g1).1, .inr (ry.dp A.fro (by rw [nod]; exact nodA_of fun z hz => (all z hz).1)), okd_shaped g1, canLayA_of fun z hz => (all z hz).2.1, A.same (.bl _) k⟩
    · cases e
  · cases e

/-! ### places -/
def ixS : PyData → PyData → Option PyData
  | .list ds, .int i => atI ds i
  | .tuple ds, .int i => atI ds i
  | _, _ => none
theorem RpA.atI {Z : Fz} {xs : List V} {ds : List PyData} {i : Int} {d : PyData} (r : RpA K Z xs ds) (h : L2.atI ds i = some d) : ∃ v, L2.atI xs i = some v ∧ Rp K Z v d := by
  unfold L2.atI at h ⊢
  rw [r.length]
  cases e : ixN ds.length i with
  | none => rw [e] at h; cases h
  | some j =>
    rw [e] at h
    exact r.get h
theorem ix_S : OpS K (rIx K) ixS := by
  intro U Z σ H ρ q x y dx dy d Q A rx ry e k
  unfold ixS at e
  split at e
  · obtain ⟨a, xs, rfl, h1, r1⟩ := rx.list_inv
    obtain rfl := ry.int_inv
    obtain ⟨v, hv, r⟩ := r1.atI e
    exact .inl ⟨a, xs, _, v, rfl, rfl, SqL.of (A.fro _ _ h1), hv, A.same r k⟩
  · obtain ⟨a, xs, rfl, h1, r1⟩ := rx.tuple_inv
    obtain rfl := ry.int_inv
    obtain ⟨v, hv, r⟩ := r1.atI e
    exact .inr (.inl ⟨a, xs, _, v, rfl, rfl, SqT.of (A.fro _ _ h1), hv, A.same r k⟩)
  · cases e
def cutD (xs : List PyData) (lo hi : Option Int) : List PyData := (xs.drop (HT.sIx xs.length 0 lo)).take (HT.sIx xs.length xs.length hi - HT.sIx xs.length 0 lo)
theorem RpA.cut {Z : Fz} {xs : List V} {ds : List PyData} (r : RpA K Z xs ds) (lo hi : Option Int) : RpA K Z (cutV xs lo hi) (cutD ds lo hi) := by
  unfold cutV cutD
  rw [r.length]
  exact (r.drop _).take _
def slS (d : PyData) (lo hi : Option Int) : Option PyData := match d with
  | .list xs => some (.list (cutD xs lo hi))
  | .tuple xs => some (.tuple (cutD xs lo hi))
  | _ => none
theorem cutD_whole {xs : List PyData} {lo hi : Option Int} (h : HT.sIx xs.length 0 lo = 0 ∧ HT.sIx xs.length xs.length hi = xs.length) : cutD xs lo hi = xs := by
  unfold cutD
  rw [h.1, h.2]
  simp
theorem sl_S {U : Hp} {Z : Fz} {σ : Sg} {H : Hp} {ρ : Ev} {q : Sx} {x : V} {dx d : PyData} {lo hi : Option Int} {Q : VK} (A : Ab K U Z σ H ρ q) (rx : Rp K Z x dx) (e : slS dx lo hi = some d)
    (k : ∀ Z' H' v, Z.Le Z' → Ab K U Z' σ H' ρ q → Rp K Z' v d → Q v H') : rSlL K x lo hi H Q ∨ rSlA K x lo hi H Q := by
  unfold slS at e
  split at e
  · cases e
    obtain ⟨a, xs, rfl, h1, r1⟩ := rx.list_inv
    exact .inl ⟨a, xs, rfl, SqL.of (A.fro _ _ h1), fun p hp => A.newL hp (r1.cut lo hi) k⟩
  · cases e
    obtain ⟨a, xs, rfl, h1, r1⟩ := rx.tuple_inv
    refine .inr ⟨a, xs, rfl, SqT.of (A.fro _ _ h1), fun z => ?_, fun _ p hp => A.newT hp (r1.cut lo hi) k⟩
    rw [cutD_whole (by rw [← r1.length]; exact z)] at k
    exact A.same rx k
  · cases e
def revS : PyData → Option PyData
  | .list xs => some (.list xs.reverse)
  | .tuple xs => some (.tuple xs.reverse)
  | _ => none
end
end Sb

set_option Elab.async false
set_option autoImplicit false
set_option linter.all false
set_option maxRecDepth 100000
set_option maxHeartbeats 4000000
/-! SbE: built-ins on data. -/
namespace Sb
open PySem PySem.Spec PyProof.Rows L2

/-! ### what repr may be asked of -/
def lshL : PyData → Bool
  | .int i => decide (i.natAbs < 10 ^ 30)
  | .str x => decide ((reprText x).length ≤ 40)
  | .dict _ => false
  | _ => true
mutual
def lsh : PyData → Bool
  | .list xs => lshA xs
  | .tuple xs => lshA xs
  | .none => true
  | .bool _ => true
  | .int i => decide (i.natAbs < 10 ^ 30)
  | .str x => decide ((reprText x).length ≤ 40)
  | .dict _ => false
def lshA : List PyData → Bool
  | [] => true
  | x :: xs => lsh x && lshA xs
end
mutual
def cells : PyData → Nat
  | .list xs => cellsA xs + 1
  | .tuple xs => cellsA xs + 1
  | .none => 1
  | .bool _ => 1
  | .int _ => 1
  | .str _ => 1
  | .dict _ => 1
def cellsA : List PyData → Nat
  | [] => 0
  | x :: xs => cells x + cellsA xs
end
theorem lshA_iff : ∀ {xs : List PyData}, lshA xs = xs.all lsh
  | [] => rfl
  | x :: xs => by rw [lshA, lshA_iff, List.all_cons]
theorem cellsA_eq : ∀ {xs : List PyData}, cellsA xs = (xs.map cells).sum
  | [] => rfl
  | x :: xs => by rw [cellsA, cellsA_eq, List.map_cons, List.sum_cons]
theorem ofStr_len {s : String} {n : Nat} (h : s.length ≤ n) : (Str.ofString s).length ≤ n := by rw [PySem.ofString_length]; exact h
mutual
theorem shown_cells : ∀ d : PyData, lsh d = true → d.shown.length + 2 ≤ 44 * cells d
  | .none, _ => by
    rw [PyData.shown, cells]
    have := ofStr_len (s := "None") (n := 4) (by decide)
    omega
  | .bool b, _ => by
    rw [PyData.shown, cells]
    cases b with
    | true => have := ofStr_len (s := "True") (n := 4) (by decide); simp only [if_true]; omega
    | false => have := ofStr_len (s := "False") (n := 5) (by decide); simp only [Bool.false_eq_true, if_false]; omega
  | .int i, h => by
    rw [PyData.shown, cells]
    have h : i.natAbs < 10 ^ 30 := by simpa [lsh] using h
    have := ofStr_len (int_text_length_le10 (by decide) h)
    omega
  | .str x, h => by
    rw [PyData.shown, cells]
    have h : (reprText x).length ≤ 40 := by simpa [lsh] using h
    omega
  | .list xs, h => by
    rw [PyData.shown, cells]
    have h1 := shownA_cells xs (by simpa [lsh] using h)
    have h2 := listText_len_le (PyData.shownAll xs)
    have h3 : (PyData.shownAll xs).length = xs.length := shownA_len xs
    omega
  | .tuple xs, h => by
    rw [PyData.shown, cells]
    have h1 := shownA_cells xs (by simpa [lsh] using h)
    have h2 := tupleText_len_le (PyData.shownAll xs)
    have h3 : (PyData.shownAll xs).length = xs.length := shownA_len xs
    omega
  | .dict _, h => by simp [lsh] at h
theorem shownA_cells : ∀ xs : List PyData, lshA xs = true → ((PyData.shownAll xs).map (·.length)).sum + 2 * xs.length ≤ 44 * cellsA xs
  | [], _ => by simp [PyData.shownAll]
  | x :: xs, h => by
    rw [lshA, Bool.and_eq_true] at h
    have h1 := shown_cells x h.1
    have h2 := shownA_cells xs h.2
    rw [PyData.shownAll, cellsA, List.map_cons, List.sum_cons, List.length_cons]
    omega
theorem shownA_len : ∀ xs : List PyData, (PyData.shownAll xs).length = xs.length
  | [] => by rw [PyData.shownAll]; rfl
  | x :: xs => by rw [PyData.shownAll, List.length_cons, List.length_cons, shownA_len xs]
end
mutual
theorem showable_of : ∀ d : PyData, lsh d = true → d.showable = true
  | .none, _ => by rw [PyData.showable]
  | .bool b, _ => by rw [PyData.showable]
  | .int i, h => by
    have h : i.natAbs < 10 ^ 30 := by simpa [lsh] using h
    rw [PyData.showable]
    refine decide_eq_true ?_
    by_cases z : i.natAbs = 0
    · rw [z]; decide
    · exact (Nat.log2_lt z).mpr (Nat.lt_of_lt_of_le h (by decide))
  | .str x, _ => by rw [PyData.showable]
  | .list xs, h => by rw [PyData.showable]; exact showableA_of xs (by simpa [lsh] using h)
  | .tuple xs, h => by rw [PyData.showable]; exact showableA_of xs (by simpa [lsh] using h)
  | .dict _, h => by simp [lsh] at h
theorem showableA_of : ∀ xs : List PyData, lshA xs = true → PyData.showableAll xs = true
  | [], _ => by rw [PyData.showableAll]
  | x :: xs, h => by
    rw [lshA, Bool.and_eq_true] at h
    rw [PyData.showableAll, showable_of x h.1, showableA_of xs h.2]
    rfl
end
def reprS : List PyData → Option PyData
  | [d] => if okd 40 d && lsh d && decide (cells d ≤ 300000) then some (.str d.shown) else none
  | _ => none
/-- repr(e), of any data -/
def rRepr (K : PySem.W.Frag) : List V → Hp → VK → Prop := fun xs H Q => ∃ x d, xs = [x] ∧ Dp K H x d ∧ SeqAt.shaped d = true ∧ d.showable = true ∧ d.shown.length ≤ sizeLine ∧ Q (.str d.shown) H
section
variable {X : Cx}
theorem call_repr (hg : X.A.guards = some []) (hu : X.A.units + 66 < cLine) : CallR X (.builtin "repr") (rRepr X.K) := by
  intro pins s σ H xs us Q I r h
  obtain ⟨x, d, rfl, hd, hs, hw, hz, q⟩ := h
  obtain ⟨u, rfl, rx⟩ := vals1 r
  have fin : ∀ (tk : Nat) (t : Tok) (h' : Heap), (∀ b o, s.heap.get? b = some o → h'.get? b = some o) → EP X pins σ Q (.str d.shown t) { s with heap := h', toks := tk } := fun tk t h' k => ⟨.str d.shown, H, I.kept k, ⟨t, rfl⟩, q⟩
  have dep := SeqAt.depth_of_shaped hs
  have road : ∀ a as, u = .ref a → Reads s.heap u d as → wpAny (model X.prog X.w) X.A (call (.builtin "repr") [u]) (EP X pins σ Q) X.xe s := by
    rintro a as rfl rd
    exact repr_of_reads' rd hw (PyData.noDict_hsm (PyData.hasDict_of_canLay d (SeqAt.canLay_of_shaped hs))) hg (by omega) (fun _ _ e => e) (fun h' t tk k => fin tk t h' k) hz
  obtain ⟨as, rd⟩ := Dp.reads I d x u hd rx
  cases hd with
  | non => cases rx; exact PySem.P.repr_of_none (fin _ _ s.heap fun _ _ e => e)
  | bl b =>
    cases rx
    refine PySem.P.repr_of_bool ?_
    have := fin (s.toks + 1) s.toks s.heap (fun _ _ e => e)
    rw [PyData.shown] at this
    cases b <;> exact this
  | int i =>
    obtain ⟨t, rfl⟩ := rx
    have hw : i.natAbs.log2 < 1920 := by simpa [PyData.showable] using hw
    refine PySem.P.repr_of_int hw ?_
    have := fin (s.toks + 1) s.toks s.heap (fun _ _ e => e)
    rw [PyData.shown] at this
    exact this
  | str z =>
    obtain ⟨t, rfl⟩ := rx
    have := fin (s.toks + 1) s.toks s.heap (fun _ _ e => e)
    rw [PyData.shown] at this hz
    exact PySem.P.repr_of_str this hz
  | lst _ _ => cases rx; exact road _ _ rfl rd
  | tup _ _ => cases rx; exact road _ _ rfl rd
end
theorem repr_S (K : PySem.W.Frag) : CallS K (rRepr K) reprS := by
  intro U Z σ H ρ q xs ds d Q A r e k
  unfold reprS at e
  split at e
  · split at e
    · cases e
      rename_i d h
      simp only [Bool.and_eq_true, decide_eq_true_eq] at h
      obtain ⟨⟨h1, h2⟩, h3⟩ := h
      cases r with
      | cons r0 r1 =>
        cases r1
        have h4 := shown_cells d h2
        refine ⟨_, d, rfl, r0.dp A.fro (okd_ok h1).1, okd_shaped h1, showable_of d h2, ?_, A.same (.str _) k⟩
        rw [sizeLine_eq]
        omega
    · cases e
  · cases e

/-! ### small ones -/
def lenS : List PyData → Option PyData
  | [.list xs] => some (.int (xs.length : Nat))
  | [.tuple xs] => some (.int (xs.length : Nat))
  | _ => none
def listS : List PyData → Option PyData
  | [.list xs] => some (.list xs)
  | [.tuple xs] => some (.list xs)
  | _ => none
def tupleS : List PyData → Option PyData
  | [.list xs] => some (.tuple xs)
  | [.tuple xs] => some (.tuple xs)
  | _ => none
def absS : List PyData → Option PyData
  | [.int i] => some (.int (if i < 0 then -i else i))
  | _ => none
def intS : List PyData → Option PyData
  | [.int i] => some (.int i)
  | [.bool b] => some (.int (if b then 1 else 0))
  | _ => none
def intOf : PyData → Int
  | .int i => i
  | _ => 0
def isInt : PyData → Bool
  | .int _ => true
  | _ => false
def boolOf : PyData → Bool
  | .bool b => b
  | _ => false
def isBool : PyData → Bool
  | .bool _ => true
  | _ => false
def sumS : List PyData → Option PyData
  | [.list xs] => if xs.all isInt then some (.int (xs.map intOf).sum) else none
  | _ => none
def anyS : List PyData → Option PyData
  | [.list xs] => if xs.all isBool then some (.bool ((xs.map boolOf).any id)) else none
  | _ => none
def allS : List PyData → Option PyData
  | [.list xs] => if xs.all isBool then some (.bool ((xs.map boolOf).all id)) else none
  | _ => none
def maxL : List Int → Int
  | [] => 0
  | [x] => x
  | x :: y :: r => max x (maxL (y :: r))
def minL : List Int → Int
  | [] => 0
  | [x] => x
  | x :: y :: r => min x (minL (y :: r))
def maxS : List PyData → Option PyData
  | [.int i, .int j] => some (.int (max i j))
  | [.list xs] => if xs.all isInt && !xs.isEmpty then some (.int (maxL (xs.map intOf))) else none
  | _ => none
def minS : List PyData → Option PyData
  | [.int i, .int j] => some (.int (min i j))
  | [.list xs] => if xs.all isInt && !xs.isEmpty then some (.int (minL (xs.map intOf))) else none
  | _ => none
theorem maxL_le : ∀ {xs : List Int} {y : Int}, y ∈ xs → y ≤ maxL xs
  | [x], y, h => by have := List.mem_singleton.mp h; subst this; exact Int.le_refl _
  | x :: z :: r, y, h => by
    rw [maxL]
    rcases List.mem_cons.mp h with e | h
    · subst e; exact Int.le_max_left _ _
    · exact Int.le_trans (maxL_le h) (Int.le_max_right _ _)
theorem maxL_mem : ∀ {xs : List Int}, xs ≠ [] → maxL xs ∈ xs
  | [x], _ => List.mem_singleton.mpr rfl
  | x :: z :: r, _ => by
    rw [maxL]
    rcases Int.le_total x (maxL (z :: r)) with e | e
    · rw [Int.max_eq_right e]; exact List.mem_cons_of_mem _ (maxL_mem (by simp))
    · rw [Int.max_eq_left e]; exact List.mem_cons_self
theorem minL_le : ∀ {xs : List Int} {y : Int}, y ∈ xs → minL xs ≤ y
  | [x], y, h => by have := List.mem_singleton.mp h; subst this; exact Int.le_refl _
  | x :: z :: r, y, h => by
    rw [minL]
    rcases List.mem_cons.mp h with e | h
    · subst e; exact Int.min_le_left _ _
    · exact Int.le_trans (Int.min_le_right _ _) (minL_le h)
theorem minL_mem : ∀ {xs : List Int}, xs ≠ [] → minL xs ∈ xs
  | [x], _ => List.mem_singleton.mpr rfl
  | x :: z :: r, _ => by
    rw [minL]
    rcases Int.le_total x (minL (z :: r)) with e | e
    · rw [Int.min_eq_left e]; exact List.mem_cons_self
    · rw [Int.min_eq_right e]; exact List.mem_cons_of_mem _ (minL_mem (by simp))
section
variable {K : PySem.W.Frag}
theorem RpA.allInts {Z : Fz} : ∀ {xs : List V} {ds : List PyData}, RpA K Z xs ds → ds.all isInt = true → xs = (ds.map intOf).map V.int
  | _, _, .nil, _ => rfl
  | _, _, .cons (d := d) r rr, h => by
    rw [List.all_cons, Bool.and_eq_true] at h
    rw [List.map_cons, List.map_cons, ← RpA.allInts rr h.2]
    cases d with
    | int i => rw [r.int_inv]; rfl
    | _ => cases h.1
theorem RpA.allBools {Z : Fz} : ∀ {xs : List V} {ds : List PyData}, RpA K Z xs ds → ds.all isBool = true → xs = (ds.map boolOf).map V.bl
  | _, _, .nil, _ => rfl
  | _, _, .cons (d := d) r rr, h => by
    rw [List.all_cons, Bool.and_eq_true] at h
    rw [List.map_cons, List.map_cons, ← RpA.allBools rr h.2]
    cases d with
    | bool i => rw [r.bool_inv]; rfl
    | _ => cases h.1
theorem RpA.one {Z : Fz} {xs : List V} {d : PyData} (r : RpA K Z xs [d]) : ∃ x, xs = [x] ∧ Rp K Z x d := by
  cases r with
  | cons r rr => cases rr; exact ⟨_, rfl, r⟩
theorem RpA.two {Z : Fz} {xs : List V} {d e : PyData} (r : RpA K Z xs [d, e]) : ∃ x y, xs = [x, y] ∧ Rp K Z x d ∧ Rp K Z y e := by
  cases r with
  | cons r rr =>
    obtain ⟨y, rfl, r2⟩ := rr.one
    exact ⟨_, _, rfl, r, r2⟩
theorem len_S : CallS K (fun xs H Q => ∃ p ys, xs = [.ref p] ∧ (SqL K H p ys ∨ SqT K H p ys) ∧ Q (.int ys.length) H) lenS := by
  intro U Z σ H ρ q xs ds d Q A r e k
  unfold lenS at e
  split at e
  · cases e
    obtain ⟨x, rfl, ro⟩ := r.one
    obtain ⟨a, ys, rfl, h, rr⟩ := ro.list_inv
    refine ⟨a, ys, rfl, .inl (SqL.of (A.fro _ _ h)), ?_⟩
    rw [rr.length]
    exact A.same (.int _) k
  · cases e
    obtain ⟨x, rfl, ro⟩ := r.one
    obtain ⟨a, ys, rfl, h, rr⟩ := ro.tuple_inv
    refine ⟨a, ys, rfl, .inr (SqT.of (A.fro _ _ h)), ?_⟩
    rw [rr.length]
    exact A.same (.int _) k
  · cases e
theorem list_S : CallS K (fun xs H Q => ∃ p ys, xs = [.ref p] ∧ (SqL K H p ys ∨ SqT K H p ys) ∧ ∀ l, H l = none → Q (.ref l) (upd H l (.lst ys))) listS := by
  intro U Z σ H ρ q xs ds d Q A r e k
  unfold listS at e
  split at e
  · cases e
    obtain ⟨x, rfl, ro⟩ := r.one
    obtain ⟨a, ys, rfl, h, rr⟩ := ro.list_inv
    exact ⟨a, ys, rfl, .inl (SqL.of (A.fro _ _ h)), fun l hl => A.newL hl rr k⟩
  · cases e
    obtain ⟨x, rfl, ro⟩ := r.one
    obtain ⟨a, ys, rfl, h, rr⟩ := ro.tuple_inv
    exact ⟨a, ys, rfl, .inr (SqT.of (A.fro _ _ h)), fun l hl => A.newL hl rr k⟩
  · cases e
theorem tuple_S : CallS K (fun xs H Q => ∃ p ys, xs = [.ref p] ∧ ((SqL K H p ys ∧ ∀ l, H l = none → Q (.ref l) (upd H l (.tup ys))) ∨ (SqT K H p ys ∧ Q (.ref p) H))) tupleS := by
  intro U Z σ H ρ q xs ds d Q A r e k
  unfold tupleS at e
  split at e
  · cases e
    obtain ⟨x, rfl, ro⟩ := r.one
    obtain ⟨a, ys, rfl, h, rr⟩ := ro.list_inv
    exact ⟨a, ys, rfl, .inl ⟨SqL.of (A.fro _ _ h), fun l hl => A.newT hl rr k⟩⟩
  · cases e
    obtain ⟨x, rfl, ro⟩ := r.one
    obtain ⟨a, ys, rfl, h, rr⟩ := ro.tuple_inv
    exact ⟨a, ys, rfl, .inr ⟨SqT.of (A.fro _ _ h), A.same ro k⟩⟩
  · cases e
theorem abs_S : CallS K (fun xs H Q => ∃ i, xs = [.int i] ∧ Q (.int (if i < 0 then -i else i)) H) absS := by
  intro U Z σ H ρ q xs ds d Q A r e k
  unfold absS at e
  split at e
  · cases e
    obtain ⟨x, rfl, ro⟩ := r.one
    obtain rfl := ro.int_inv
    exact ⟨_, rfl, A.same (.int _) k⟩
  · cases e
theorem int_S : CallS K (fun xs H Q => (∃ i, xs = [.int i] ∧ Q (.int i) H) ∨ ∃ k, xs = [.bl k] ∧ Q (.int (if k then 1 else 0)) H) intS := by
  intro U Z σ H ρ q xs ds d Q A r e k
  unfold intS at e
  split at e
  · cases e
    obtain ⟨x, rfl, ro⟩ := r.one
    obtain rfl := ro.int_inv
    exact .inl ⟨_, rfl, A.same (.int _) k⟩
  · cases e
    obtain ⟨x, rfl, ro⟩ := r.one
    obtain rfl := ro.bool_inv
    exact .inr ⟨_, rfl, A.same (.int _) k⟩
  · cases e
theorem sum_S : CallS K (rSum K) sumS := by
  intro U Z σ H ρ q xs ds d Q A r e k
  unfold sumS at e
  split at e
  · split at e
    · cases e
      obtain ⟨x, rfl, ro⟩ := r.one
      obtain ⟨a, ys, rfl, h, rr⟩ := ro.list_inv
      rename_i hi
      exact ⟨a, _, rfl, SqL.of (A.fro _ _ (by rw [h, rr.allInts hi])), A.same (.int _) k⟩
    · cases e
  · cases e
theorem any_S : CallS K (rAny K) anyS := by
  intro U Z σ H ρ q xs ds d Q A r e k
  unfold anyS at e
  split at e
  · split at e
    · cases e
      obtain ⟨x, rfl, ro⟩ := r.one
      obtain ⟨a, ys, rfl, h, rr⟩ := ro.list_inv
      rename_i hi
      exact ⟨a, _, rfl, SqL.of (A.fro _ _ (by rw [h, rr.allBools hi])), A.same (.bl _) k⟩
    · cases e
  · cases e
theorem all_S : CallS K (rAll K) allS := by
  intro U Z σ H ρ q xs ds d Q A r e k
  unfold allS at e
  split at e
  · split at e
    · cases e
      obtain ⟨x, rfl, ro⟩ := r.one
      obtain ⟨a, ys, rfl, h, rr⟩ := ro.list_inv
      rename_i hi
      exact ⟨a, _, rfl, SqL.of (A.fro _ _ (by rw [h, rr.allBools hi])), A.same (.bl _) k⟩
    · cases e
  · cases e
theorem max_S : CallS K (fun xs H Q => (∃ i j, xs = [.int i, .int j] ∧ Q (.int (if j > i then j else i)) H) ∨ rMax K xs H Q) maxS := by
  intro U Z σ H ρ q xs ds d Q A r e k
  unfold maxS at e
  split at e
  · cases e
    rename_i i j
    obtain ⟨x, y, rfl, r1, r2⟩ := r.two
    obtain rfl := r1.int_inv
    obtain rfl := r2.int_inv
    refine .inl ⟨_, _, rfl, ?_⟩
    have e : (if j > i then j else i) = max i j := by
      rw [Int.max_def]
      split <;> split <;> omega
    rw [e]
    exact A.same (.int _) k
  · split at e
    · cases e
      obtain ⟨x, rfl, ro⟩ := r.one
      obtain ⟨a, ys, rfl, h, rr⟩ := ro.list_inv
      rename_i zs hi
      rw [Bool.and_eq_true] at hi
      have ne : zs ≠ [] := fun z => by subst z; cases hi.2
      have ne' : zs.map intOf ≠ [] := fun z => ne (List.map_eq_nil_iff.mp z)
      refine .inr ⟨a, _, rfl, SqL.of (A.fro _ _ (by rw [h, rr.allInts hi.1])), List.length_pos_iff.mpr ne', fun m hm hx => ?_⟩
      have e : m = maxL (zs.map intOf) := Int.le_antisymm (maxL_le hm) (hx _ (maxL_mem ne'))
      rw [e]
      exact A.same (.int _) k
    · cases e
  · cases e
theorem min_S : CallS K (fun xs H Q => (∃ i j, xs = [.int i, .int j] ∧ Q (.int (if j < i then j else i)) H) ∨ rMin K xs H Q) minS := by
  intro U Z σ H ρ q xs ds d Q A r e k
  unfold minS at e
  split at e
  · cases e
    rename_i i j
    obtain ⟨x, y, rfl, r1, r2⟩ := r.two
    obtain rfl := r1.int_inv
    obtain rfl := r2.int_inv
    refine .inl ⟨_, _, rfl, ?_⟩
    have e : (if j < i then j else i) = min i j := by
      rw [Int.min_def]
      split <;> split <;> omega
    rw [e]
    exact A.same (.int _) k
  · split at e
    · cases e
      obtain ⟨x, rfl, ro⟩ := r.one
      obtain ⟨a, ys, rfl, h, rr⟩ := ro.list_inv
      rename_i zs hi
      rw [Bool.and_eq_true] at hi
      have ne : zs ≠ [] := fun z => by subst z; cases hi.2
      have ne' : zs.map intOf ≠ [] := fun z => ne (List.map_eq_nil_iff.mp z)
      refine .inr ⟨a, _, rfl, SqL.of (A.fro _ _ (by rw [h, rr.allInts hi.1])), List.length_pos_iff.mpr ne', fun m hm hx => ?_⟩
      have e : m = minL (zs.map intOf) := Int.le_antisymm (hx _ (minL_mem ne')) (minL_le hm)
      rw [e]
      exact A.same (.int _) k
    · cases e
  · cases e
end

/-! ### isinstance -/
def tyName : PyData → String
  | .none => "NoneType"
  | .bool _ => "bool"
  | .int _ => "int"
  | .str _ => "str"
  | .list _ => "list"
  | .tuple _ => "tuple"
  | .dict _ => "dict"
def isaS (T : String) : PyData → Option PyData := fun d => match d with
  | .dict _ => none
  | d => if ["int", "bool", "str", "tuple", "list"].contains T then some (.bool (tyName d == T || (tyName d == "bool" && T == "int"))) else none
theorem isa_kit : ∀ T ∈ ["int", "bool", "str", "tuple", "list"], ∀ S ∈ ["NoneType", "bool", "int", "str", "list", "tuple"], kitB S T = some (S == T || (S == "bool" && T == "int")) := by decide +kernel
section
variable {K : PySem.W.Frag} {U : Hp} {Z : Fz} {σ : Sg} {H : Hp} {ρ : Ev} {q : Sx}
theorem Rp.tyx (A : Ab K U Z σ H ρ q) {x : V} {d : PyData} (r : Rp K Z x d) (n : ∀ z, d ≠ .dict z) : TyX K H x (.type (tyName d)) := by
  cases r with
  | non => exact .base .non
  | bl b => exact .base (.bl b)
  | int i => exact .base (.int i)
  | str z => exact .base (.str z)
  | lst h _ => exact .base (.lst (A.fro _ _ h))
  | tup h _ => exact .base (.tup (A.fro _ _ h))
  | src h => exact absurd rfl (n _)
  | scr h => exact absurd rfl (n _)
theorem isa_S {T : String} {x : V} {dx d : PyData} {Q : VK} (A : Ab K U Z σ H ρ q) (r : Rp K Z x dx) (e : isaS T dx = some d)
    (k : ∀ Z' H' v, Z.Le Z' → Ab K U Z' σ H' ρ q → Rp K Z' v d → Q v H') : rIsi K [x, .ty T] H Q := by
  unfold isaS at e
  split at e
  · cases e
  · rename_i hn
    split at e
    · cases e
      rename_i hT
      have hT : T ∈ ["int", "bool", "str", "tuple", "list"] := List.contains_iff_mem.mp hT
      have hS : tyName dx ∈ ["NoneType", "bool", "int", "str", "list", "tuple"] := by
        cases dx with
        | dict z => exact absurd rfl (hn z)
        | _ => simp [tyName]
      exact ⟨x, .ty T, .type (tyName dx), .type T, _, rfl, .ty T, r.tyx A (fun z => hn z), kit_ty (isa_kit T hT _ hS), A.same (.bl _) k⟩
    · cases e
end

/-! ### sorted -/
noncomputable def sortD (ds : List PyData) : List PyData := ds.mergeSort (PySem.W.dataLe false id)
def neTup : PyData → Bool
  | .tuple (_ :: _) => true
  | _ => false
def notTN : PyData → Bool
  | .tuple _ => false
  | .none => false
  | _ => true
def sortOk (ds : List PyData) : Bool := ds.all (okd 40) && (ds.all fun d => ds.all fun e => PySem.W.alike d e) && (ds.all neTup || ds.all notTN)
theorem sortOk_of {ds : List PyData} (h : sortOk ds = true) : (∀ d ∈ ds, okd 40 d = true) ∧ PySem.W.AllAlike ds ∧ PySem.W.Sortable ds := by
  unfold sortOk at h
  simp only [Bool.and_eq_true, Bool.or_eq_true, List.all_eq_true] at h
  obtain ⟨⟨h1, h2⟩, h3⟩ := h
  refine ⟨h1, h2, ?_⟩
  rcases h3 with h3 | h3
  · refine .inl fun d hd => ?_
    have := h3 d hd
    cases d with
    | tuple xs =>
      cases xs with
      | nil => cases this
      | cons x r => exact ⟨x, r, rfl⟩
    | _ => cases this
  · refine .inr fun d hd => ?_
    have := h3 d hd
    cases d with
    | tuple xs => cases this
    | none => cases this
    | _ => exact ⟨(fun z => nomatch z), (fun _ z => nomatch z)⟩
/-- sorted of a list or a tuple; R: what the items are known to stand for -/
def rSortA (K : PySem.W.Frag) : List V → Hp → VK → Prop := fun vs H Q => ∃ (a : Addr) (xs : List V) (ds : List PyData) (R : V → PyData → Prop), vs = [.ref a] ∧ (SqL K H a xs ∨ SqT K H a xs) ∧ DpAll K H xs ds ∧ sortOk ds = true ∧
  PySem.W.EachIs R xs ds ∧ ∀ ys p, PySem.W.EachIs R ys (sortD ds) → H p = none → Q (.ref p) (upd H p (.lst ys))
section
variable {prog : Program} {w : World} {A : Around} {E : Value → Shared → Prop} {s : Shared} {κ : PyProof.Rows.KeyKind}
open PySem.W in
theorem sorted_seq {l : Addr} {T : String} {o : Obj} {vs : List Value} {n : Nat} {Q : Value → Shared → Prop} {κ : Heap → PyProof.Rows.KeyKind} (hT : T = "list" ∨ T = "tuple") (ho : s.heap.get? l = some o) (hc : o.cls = .type T) (hd : o.data = .seq vs.toArray n) (hL : vs.length ≤ sizeLine)
    (S : ∀ h' : Heap, (∀ b o, s.heap.get? b = some o → h'.get? b = some o) → SortsAt prog w A.in1.in1 { s with heap := h' } (κ h') vs)
    (h : ∀ (h0 h1 h' : Heap) (D : Addr) (n : Nat), (∀ b o, s.heap.get? b = some o → h0.get? b = some o) → (∀ b o, s.heap.get? b = some o → h1.get? b = some o) → (∀ b o, h1.get? b = some o → h'.get? b = some o) → h1.objs.size ≤ D →
      h'.get? D = some (seqObj "list" (sortVals (κ h0) false vs vs).toArray n) → Q (.ref D) { s with heap := h' }) : wpAny (model prog w) A (call (.builtin "sorted") [.ref l]) Q E s := by
  refine call_function_entry_kw (kw := []) kind_sorted plain_sorted entry_sorted (args_sorted1 _) ?_
  unfold Builtin.«sorted»
  refine wpAny_bind (m := checkCount "sorted" 1 1 _) (wpAny_pure ?_)
  refine wpAny_bind (wpAny_collect_seq l hT ho hc hd (fun h1 k1 => ?_) (by simpa using hL))
  refine wpAny_bind (wpAny_newList ?_ (by simpa using hL))
  have eL : vs.toArray.toList = vs := by simp
  rw [eL]
  have at1 : (h1.push (seqObj "list" vs.toArray 0)).get? h1.objs.size = some (seqObj "list" vs.toArray 0) := Heap.get?_push_size _ rfl
  have k2 : ∀ b o, h1.get? b = some o → (h1.push (seqObj "list" vs.toArray 0)).get? b = some o := fun b o e => Heap.get?_push_of_some _ e
  have k3 : ∀ b o, h1.get? b = some o → (sortingHeap (h1.push (seqObj "list" vs.toArray 0)) h1.objs.size vs).get? b = some o := fun b o e => sortingHeap_old (Nat.ne_of_lt (Heap.lt_size e)) (k2 b o e)
  refine wpAny_bind (wpAny_holding (wpAny_call_entry_kw slot_list_sort ⟨_, at1, rfl⟩ entry_list_sort ?body (args_list_sort _)))
  refine list_sort_vals (s := { s with heap := h1.push (seqObj "list" vs.toArray 0) }) at1 (S _ fun b o e => k3 b o (k1 b o e)) hL ?_
  obtain ⟨e, he⟩ := sortedHeap_at (vs := vs) (out := (sortVals (κ (sortingHeap (h1.push (seqObj "list" vs.toArray 0)) h1.objs.size vs)) false vs vs).toArray) at1
  refine ⟨_, rfl, wpAny_pure ⟨_, rfl, h _ h1 _ _ e (fun b o q => k3 b o (k1 b o q)) k1 (fun b o q => ?_) (Nat.le_refl _) he⟩⟩
  rw [sortedHeap_old (Nat.ne_of_lt (Heap.lt_size q)) (Heap.lt_size (k2 b o q))]
  exact k2 b o q
end
theorem each_of {K : PySem.W.Frag} {H : Hp} {h : Heap} {R : V → PyData → Prop} : ∀ {xs : List V} {us : List Value} {ds : List PyData}, Vals xs us → PySem.W.EachIs R xs ds → PySem.W.EachIs (fun u d => ∃ x, RelV x u ∧ R x d) us ds
  | _, _, _, .nil, .nil => .nil
  | _, _, _, .cons r rr, .cons e ee => .cons ⟨_, r, e⟩ (each_of (K := K) (H := H) (h := h) rr ee)
theorem each_back {R : V → PyData → Prop} : ∀ {us : List Value} {ds : List PyData}, PySem.W.EachIs (fun u d => ∃ x, RelV x u ∧ R x d) us ds → ∃ ys : List V, Vals ys us ∧ PySem.W.EachIs R ys ds
  | _, _, .nil => ⟨[], .nil, .nil⟩
  | _, _, .cons ⟨x, r, e⟩ ee => by
    obtain ⟨ys, h1, h2⟩ := each_back ee
    exact ⟨x :: ys, .cons r h1, .cons e h2⟩
theorem each_reads {h : Heap} : ∀ {us : List Value} {ds : List PyData} {as : List Addr}, ReadsAll h us ds as → PySem.W.EachIs (fun v b => ∃ as, Reads h v (id b) as) us ds := fun {us ds as} r => by
  have := PySem.W.readsAll_each (h := h) (id : PyData → PyData) (vs := us) (bs := ds) (as := as) (by rw [List.map_id]; exact r)
  exact this
section
variable {X : Cx}
open PySem.W in
theorem cr_sortA (hu : X.A.units + 66 < cLine) : CallR X (.builtin "sorted") (rSortA X.K) := by
  intro pins s σ H vs us Q I r h
  obtain ⟨a, xs, ds, R, rfl, hs, hd, ho, hR, q⟩ := h
  obtain rfl := Vals.ref1 r
  obtain ⟨o1, o2, o3⟩ := sortOk_of ho
  have dep : ∀ d ∈ ds, X.A.units + 2 + d.depth < cLine := fun d hm => by
    have := (okd_ok (o1 d hm)).2.2
    omega
  have core : ∀ {T : String} {o : Obj} {n : Nat} {its : List Value}, (T = "list" ∨ T = "tuple") → s.heap.get? a = some o → o.cls = .type T → o.data = .seq its.toArray n → Vals xs its → xs.length ≤ sizeLine →
      wpAny (model X.prog X.w) X.A (call (.builtin "sorted") [.ref a]) (EP X pins σ Q) X.xe s := by
    intro T o n its hT h1 h2 h3 rv hz
    obtain ⟨as, rd⟩ := Dp.readsAll I ds xs its hd rv
    have er := each_reads rd
    have e0 := each_of (K := X.K) (H := H) (h := s.heap) rv hR
    have mid : (ds.map id) = ds := List.map_id ds
    refine sorted_seq (κ := fun h' => dataKind h' (ds.map id)) hT h1 h2 h3 (by rw [← rv.length]; exact hz) (fun h' k => ?_) fun h0 h1 h' D n k0 k1 k' sz e => ?_
    · refine SortsAt.data (s := { s with heap := h' }) (ds := ds.map id) ?_ (by rw [mid]; exact o2) (by rw [mid]; exact o3) (by rw [mid]; exact fun d hm => dep d hm)
      rw [mid]
      exact er.mono fun _ _ ⟨as, r⟩ => ⟨as, PyProof.Rows.Reads.keeps k r⟩
    · have er0 : EachIs (fun v b => ∃ as, Reads h0 v (id b) as) its ds := er.mono fun _ _ ⟨as, r⟩ => ⟨as, PyProof.Rows.Reads.keeps k0 r⟩
      have out := sortVals_data (enc := (id : PyData → PyData)) false e0 er0 (by rw [mid]; exact o2)
      obtain ⟨ys, y1, y2⟩ := each_back out
      have ly : ys.length = xs.length := by
        rw [y1.length, sortVals_length false rfl, ← rv.length]
      have I1 : Inv X pins σ H { s with heap := h1 } := I.kept (t' := s.toks) k1
      have fr : H D = none := I1.hok.fresh sz
      refine ⟨.ref D, upd H D (.lst ys), I1.laid (a := D) (o := .lst ys) (t' := s.toks) k' sz ⟨by rw [ly]; exact hz, _, n, y1, e⟩, rfl, q ys D y2 fr⟩
  rcases hs with hs | hs
  · obtain ⟨its, rv, ⟨o, n, h1, h2, h4, h3⟩, hz⟩ := I.list hs
    exact core (.inl rfl) h1 h2 h3 rv hz
  · obtain ⟨its, rv, ⟨o, h1, h2, n, h3⟩, hz⟩ := I.tuple hs
    exact core (.inr rfl) h1 h2 h3 rv hz
end
noncomputable def sortS : List PyData → Option PyData
  | [.list ds] => if sortOk ds then some (.list (sortD ds)) else none
  | [.tuple ds] => if sortOk ds then some (.list (sortD ds)) else none
  | _ => none
theorem RpA.each {K : PySem.W.Frag} {Z : Fz} : ∀ {xs : List V} {ds : List PyData}, RpA K Z xs ds → PySem.W.EachIs (Rp K Z) xs ds
  | _, _, .nil => .nil
  | _, _, .cons r rr => .cons r rr.each
theorem RpA.of_each {K : PySem.W.Frag} {Z : Fz} : ∀ {xs : List V} {ds : List PyData}, PySem.W.EachIs (Rp K Z) xs ds → RpA K Z xs ds
  | _, _, .nil => .nil
  | _, _, .cons r rr => .cons r (RpA.of_each rr)
theorem sort_S (K : PySem.W.Frag) : CallS K (rSortA K) sortS := by
  intro U Z σ H ρ q xs ds d Q A r e k
  have nods : ∀ {ds : List PyData}, sortOk ds = true → nodA ds = true := fun h => nodA_of fun x hx => (okd_ok ((sortOk_of h).1 x hx)).1
  unfold sortS at e
  split at e
  · split at e
    · cases e
      obtain ⟨x, rfl, ro⟩ := r.one
      obtain ⟨a, ys, rfl, h, rr⟩ := ro.list_inv
      rename_i ho
      exact ⟨a, ys, _, Rp K Z, rfl, .inl (SqL.of (A.fro _ _ h)), rr.dp A.fro (nods ho), ho, rr.each, fun zs p hz hp => A.newL hp (RpA.of_each hz) k⟩
    · cases e
  · split at e
    · cases e
      obtain ⟨x, rfl, ro⟩ := r.one
      obtain ⟨a, ys, rfl, h, rr⟩ := ro.tuple_inv
      rename_i ho
      exact ⟨a, ys, _, Rp K Z, rfl, .inr (SqT.of (A.fro _ _ h)), rr.dp A.fro (nods ho), ho, rr.each, fun zs p hz hp => A.newL hp (RpA.of_each hz) k⟩
    · cases e
  · cases e
end Sb

set_option Elab.async false
set_option autoImplicit false
set_option linter.all false
set_option maxRecDepth 100000
set_option maxHeartbeats 4000000
/-! SbF: enumerate of a tuple; targets; what is walked, as data. -/
namespace Sb
open PySem PySem.Spec PyProof.Rows L2

/-! ### enumerate(tuple) -/
section
open AutoSeq1 (wpAny_loadPart')
theorem meets_enumerate_newT (l : Addr) (items : Array Value) (n : Nat) (dct : Option Addr) (sl : Array (Option Value)) :
    Meets (Builtin.«enumerate.__new__» ⟨[.type "enumerate", .ref l], []⟩) (fun _ R s => s.heap.get? l = some { cls := .type "tuple", dict := dct, data := .seq items n, slots := sl } ∧
      R (.ok (.ret (.ref (s.heap.push { cls := .type "tuple_iterator", data := .fields #[.ref l, .int 0 0] }).objs.size)))
        { s with heap := (s.heap.push { cls := .type "tuple_iterator", data := .fields #[.ref l, .int 0 0] }).push { cls := .type "enumerate", data := .fields #[.none, .bool false, .ref s.heap.objs.size, rawInt 0, .none, .none] } }) :=
  .of_wp fun prog w A R s h => by
    obtain ⟨hp, g, d, tk, os⟩ := s
    obtain ⟨hl, h⟩ := h
    have hsub := sub_enumerate
    have hL : Heap.IsTuple (Shared.heap ⟨hp, g, d, tk, os⟩) l items := ⟨_, hl, rfl, n, rfl⟩
    wp_walk using wpAny_loadPart' hl
    refine wpAny_stack_any fun st => wpAny_pure ?_
    split
    · rename_i c _ _ _ _ _
      cases (c == Value.type "enumerate")
      · wp_walk using wpAny_loadPart' hl, wpAny_pyIter_tuple hL
        exact ⟨_, rfl, h⟩
      · wp_walk using wpAny_loadPart' hl, wpAny_pyIter_tuple hL
        exact ⟨_, rfl, h⟩
    · wp_walk using wpAny_loadPart' hl, wpAny_pyIter_tuple hL
      exact ⟨_, rfl, h⟩
end
section
variable {prog : Program} {w : World} {A : Around} {E : Value → Shared → Prop} {s : Shared}
theorem call_enumerate_tuple {l : Addr} {items : Array Value} {Q : Value → Shared → Prop} (hL : s.heap.IsTuple l items)
    (h : ∀ h', IsEnum h' (s.heap.objs.size + 1) s.heap.objs.size 0 .none → h'.IsTupleIter s.heap.objs.size l 0 → (∀ b o, s.heap.get? b = some o → h'.get? b = some o) → Q (.ref (s.heap.objs.size + 1)) { s with heap := h' }) :
    wpAny (model prog w) A (call (.type "enumerate") [.ref l]) Q E s := by
  obtain ⟨⟨c, dct, dt, sl⟩, hl, hc, n, hd⟩ := hL
  replace hc : c = .type "tuple" := hc
  replace hd : dt = .seq items n := hd
  subst hc hd
  refine callType_new F.called_enumerate (by decide) (F.typeCall_enumerate_1 _) (F.newCall_enumerate_1 _) (fun obj => F.args_object_init_2 obj _) F.entry_enumerate_new (meets_enumerate_newT l items n dct sl) ⟨hl, ?_⟩
  generalize hg : s.heap.push { cls := .type "tuple_iterator", data := .fields #[.ref l, .int 0 0] } = g
  have hz : g.objs.size = s.heap.objs.size + 1 := by rw [← hg]; exact Heap.size_push ..
  have hit : g.get? s.heap.objs.size = some { cls := .type "tuple_iterator", data := .fields #[.ref l, .int 0 0] } := by rw [← hg]; exact Heap.get?_push_size _ rfl
  have keep : ∀ b o, s.heap.get? b = some o → g.get? b = some o := fun b o x => by rw [← hg]; exact Heap.get?_push_of_some _ x
  show _ ∧ _
  rw [hz]
  have he : IsEnum (g.push { cls := .type "enumerate", data := .fields #[.none, .bool false, .ref s.heap.objs.size, rawInt 0, .none, .none] }) (s.heap.objs.size + 1) s.heap.objs.size 0 .none := by
    have e := Heap.get?_push_size g (o := { cls := .type "enumerate", data := .fields #[.none, .bool false, .ref s.heap.objs.size, rawInt 0, .none, .none] }) rfl
    rw [hz] at e
    exact e
  exact ⟨⟨_, he, rfl⟩, h _ he ⟨_, Heap.get?_push_of_some _ hit, rfl, rfl⟩ fun b o x => Heap.get?_push_of_some _ (keep b o x)⟩
end
/-- the tuple at a, each item in a new pair with its place -/
def IteT (a : Addr) : It :=
  ⟨fun i H => ∃ (xs : List V) (x : V), H a = some (.tup xs) ∧ xs[i]? = some x, fun i H v H' => ∃ T x, v = .ref T ∧ H T = none ∧ H' = upd H T (.tup [.int (i : Nat), x]) ∧ ∀ xs, H a = some (.tup xs) → xs[i]? = some x, fun i H => ∃ xs : List V, H a = some (.tup xs) ∧ xs.length ≤ i⟩
theorem turn_enumT {P : Program} {w : World} {K : PySem.W.Frag} {elts : List Expr} {kk : Nat} {tpos : Pos} (a e it : Addr) :
    Turn P w K (.Tuple elts kk tpos) (IteT a) [e, it] e (fun i h => (∃ old, IsEnum h e it ((i : Nat) : Int) old) ∧ h.IsTupleIter it a i ∧ e ≠ it) where
  mem := by simp
  obj := fun i h st b hb => by
    obtain ⟨⟨old, he⟩, ⟨o, ho, hc, hd⟩, _⟩ := st
    have z : b = e ∨ b = it := by simpa using hb
    rcases z with z | z
    · subst z; exact ⟨_, he, fun v q => nomatch q⟩
    · subst z; exact ⟨o, ho, fun v q => by rw [hd] at q; cases q⟩
  keep := fun i h h' st k => let ⟨⟨old, he⟩, hi, hne⟩ := st; ⟨⟨old, k e (by simp) _ he⟩, hi.at fun o q => k it (by simp) o q, hne⟩
  item := by
    intro X hP hw hK hc i pins s σ H E I hf st hg
    subst hP hw hK
    obtain ⟨⟨old, he⟩, hit, hne⟩ := st
    obtain ⟨xs, x, hq, hx⟩ := hg
    obtain ⟨its, rv, p, hz⟩ := I.tuple (SqT.of hq)
    obtain ⟨u, hu, ru⟩ := rv.get hx
    have fe := (hf e (by simp)).1
    have fi := (hf it (by simp)).1
    have nea : e ≠ a := fun z => by rw [z, hq] at fe; cases fe
    have nia : a ≠ it := fun z => by rw [← z, hq] at fi; cases fi
    have hel : e < s.heap.objs.size := Heap.lt_size he
    have hil : it < s.heap.objs.size := by obtain ⟨_, q, _⟩ := hit; exact Heap.lt_size q
    have pT : s.heap.IsTuple a its.toArray := p
    have lt : i < its.toArray.size := by
      have := (List.getElem?_eq_some_iff.mp hu).1
      simpa using this
    refine wpAny_pyNext_enum_itemD (Draws.tuple (A := X.A.in1) (I.ok.hd hc) it a nia its.toArray) he ⟨hit, pT⟩ lt hne (by simp [nea, hne]) fun y h' tk hy ho st' hT hsz hk => ?_
    have ey : y = u := by
      have h1 : its.toArray[i]? = some u := by simpa using hu
      rw [h1] at hy; exact (Option.some.inj hy).symm
    subst ey
    refine ⟨_, rfl, wpAny_letOwnedTupleGo_enum (s := { s with heap := h', toks := tk + 1 }) ho fun h'' he' sb => ?_⟩
    have hT2 : h''.get? s.heap.objs.size = some { cls := .type "tuple", data := .seq #[.int i tk, y] } := (sb.2 _ (Nat.ne_of_gt hel)).trans hT
    have new : ObjOk X.prog X.w (upd H s.heap.objs.size (.tup [.int (i : Nat), x])) h'' s.heap.objs.size (.tup [.int (i : Nat), x]) :=
      ⟨by show 2 ≤ sizeLine; decide, [.int i tk, y], .cons ⟨_, rfl⟩ (.cons ru .nil), ⟨_, hT2, rfl, _, rfl⟩⟩
    have I1 : Inv X pins σ (upd H s.heap.objs.size (.tup [.int (i : Nat), x])) { s with heap := h'', toks := tk + 1 } :=
      I.turnedNew (ch := [e, it]) (fun b ob hb q => (sb.2 b (fun z => hb (by simp [z]))).trans (hk b ob (fun z => hb (by simp [z])) (fun z => hb (by simp [z])) q)) hf (Nat.le_refl _) new
    refine ⟨.ref s.heap.objs.size, _, I1, rfl, ⟨_, x, rfl, I.fresh, rfl, fun ys hy => ?_⟩, ⟨⟨y, ?_⟩, st'.1.at fun o q => (sb.2 it (Ne.symm hne)).trans q, hne⟩, fun b hb => ?_⟩
    · rw [hq] at hy; cases hy; exact hx
    · have e1 : ((i + 1 : Nat) : Int) = (i : Int) + 1 := by omega
      rw [e1]; exact he'
    · have z : b = e ∨ b = it := by simpa using hb
      have hb' : b < s.heap.objs.size := by
        rcases z with z | z
        · rw [z]; exact hel
        · rw [z]; exact hil
      rw [upd_ne (Nat.ne_of_lt hb')]
      exact (hf b hb).1
  done := by
    intro X hP hw hK hc i pins s σ H E I hf st hg
    subst hP hw hK
    obtain ⟨⟨old, he⟩, hit, hne⟩ := st
    obtain ⟨xs, hq, hx⟩ := hg
    obtain ⟨its, rv, p, hz⟩ := I.tuple (SqT.of hq)
    have pT : s.heap.IsTuple a its.toArray := p
    have fi := (hf it (by simp)).1
    have nia : a ≠ it := fun z => by rw [← z, hq] at fi; cases fi
    obtain ⟨f0, f1, f2, f3, f4, f5⟩ := hf it (by simp)
    have hT : s.TypeIs (.ref e) "enumerate" := ⟨_, he, rfl⟩
    have ended : wpAny (model X.prog X.w) X.A (pyNext (.ref e)) (fun r s1 => r = none ∧ Inv X pins σ H s1) E s := by
      have end0 := fun (Q : Value → Shared → Prop) (E : Value → Shared → Prop) (k : ∀ h' ex, Heap.ExtBut it s.heap h' → (∃ o, h'.get? ex = some o ∧ o.cls = .type "StopIteration") → E (.ref ex) { s with heap := h' }) =>
        wpAny_nextOf_tuple_end (prog := X.prog) (w := X.w) (A := X.A.in1) (Q := Q) (E := E) (I.ok.hd hc) hit pT (i := i) (by
          have := rv.length
          simp only [List.getElem?_toArray]
          exact List.getElem?_eq_none (by omega)) k
      have D : Draws X.prog X.w X.A.in1 it [it, a] i (fun _ _ => False) (fun j h => j = i ∧ h.IsTupleIter it a i ∧ h.IsTuple a its.toArray) :=
        { live := fun _ _ st => let ⟨o, ho, _⟩ := st.2.1; ⟨o, ho⟩
          frame := fun _ _ _ st hk => ⟨st.1, st.2.1.at fun o e => hk it (by simp) o e, st.2.2.at fun o e => hk a (by simp) o e⟩
          item := fun j s' Q E' lt st _ => absurd st.1 (Nat.ne_of_lt lt)
          done := fun s' Q E' st hE => wpAny_nextOf_tuple_end (A := X.A.in1) (I.ok.hd hc) st.2.1 st.2.2 (by
            have := rv.length
            simp only [List.getElem?_toArray]
            exact List.getElem?_eq_none (by omega)) hE }
      exact wpAny_pyNext_enum_endD D he ⟨rfl, hit, pT⟩ fun h' eb => ⟨rfl, I.turned (t' := s.toks) (fun b o hb q => eb b o hb q) f0 f1 f3 f4 f5⟩
    exact ended
  self := fun A i s Q E st h => let ⟨⟨_, he⟩, _⟩ := st; wpAny_pyIter_enum he h
/-- enumerate of a list or of a tuple -/
def iEnumA (K : PySem.W.Frag) (ta : TA) : TI := fun σ H R => ta σ H fun vs H1 => ∃ a xs, vs = [.ref a] ∧ ((SqL K H1 a xs ∧ R (Ite K a) H1) ∨ (H1 a = some (.tup xs) ∧ R (IteT a) H1))
theorem pi_enumA {X : Cx} {e : Expr} {ta : TA} {p pos tpos : Pos} {elts : List Expr} {kk : Nat} (hg : Gl X "enumerate") (hm : X.mg "enumerate" = none) (ha : PA X [e] ta) (hs : starEach [e] X.env = [(false, eval e X.env)]) :
    PI X (.Tuple elts kk tpos) (.Call (.Name "enumerate" p) [e] [] pos) (iEnumA X.K ta) := by
  refine ⟨fun pins s σ H R I hw => Call_ (ld_blt I hg hm boot_enumerate (PyProof.Rows.callWith_type1 (thn (ha.run pos pins s σ H _ I hw) ?_) hs rfl))⟩
  rintro us s1 ⟨vs, H1, I1, r1, a, xs, rfl, hq⟩
  obtain rfl := Vals.ref1 r1
  have fp : ∀ b ∈ [s1.heap.objs.size + 1, s1.heap.objs.size], ∀ {h' : Heap} {t' : Nat}, Inv X pins σ H1 { s1 with heap := h', toks := t' } → FpOk X pins H1 b := fun b hb {_ _} _ => by
    have z : b = s1.heap.objs.size + 1 ∨ b = s1.heap.objs.size := by simpa using hb
    have hle : s1.heap.objs.size ≤ b := by
      rcases z with z | z
      · rw [z]; exact Nat.le_add_right _ _
      · rw [z]; exact Nat.le_refl _
    exact I1.fpOk hle (I1.hok.fresh hle)
  rcases hq with ⟨hq, q⟩ | ⟨hq, q⟩
  · obtain ⟨its, rv, p', hz⟩ := I1.list hq
    refine call_enumerate_list p'.isList fun h' he hit hsz hk => wpAny_pyIter_enum he ?_
    have I2 : Inv X pins σ H1 { s1 with heap := h' } := I1.kept (t' := s1.toks) hk
    exact ⟨_, _, _, _, H1, rfl, I2, turn_enum a (s1.heap.objs.size + 1) s1.heap.objs.size, ⟨⟨.none, he⟩, hit, Nat.succ_ne_self _⟩, fun b hb => fp b hb I2, q⟩
  · obtain ⟨its, rv, p', hz⟩ := I1.tuple (SqT.of hq)
    refine call_enumerate_tuple (show s1.heap.IsTuple a its.toArray from p') fun h' he hit hk => wpAny_pyIter_enum he ?_
    have I2 : Inv X pins σ H1 { s1 with heap := h' } := I1.kept (t' := s1.toks) hk
    exact ⟨_, _, _, _, H1, rfl, I2, turn_enumT a (s1.heap.objs.size + 1) s1.heap.objs.size, ⟨⟨.none, he⟩, hit, Nat.succ_ne_self _⟩, fun b hb => fp b hb I2, q⟩
end Sb

set_option Elab.async false
set_option autoImplicit false
set_option linter.all false
set_option maxRecDepth 100000
set_option maxHeartbeats 4000000
/-! SbG: targets, walks, comprehensions, as data. -/
namespace Sb
open PySem PySem.Spec PyProof.Rows L2

/-! ### targets -/
mutual
inductive IT
  | nm (i : Nat)
  | tp (ts : ITs)
inductive ITs
  | nil
  | cons (t : IT) (r : ITs)
end
mutual
def asg : IT → PyData → Ev → Option Ev
  | .nm i, d, ρ => some (ρ.set i (some (.val d)))
  | .tp ts, d, ρ => match d with
    | .tuple ds => asgs ts ds ρ
    | .list ds => asgs ts ds ρ
    | _ => none
def asgs : ITs → List PyData → Ev → Option Ev
  | .nil, ds, ρ => match ds with
    | [] => some ρ
    | _ => none
  | .cons t r, ds, ρ => match ds with
    | [] => none
    | d :: ds => match asg t d ρ with
      | none => none
      | some ρ1 => asgs r ds ρ1
end
mutual
def slotsT : IT → List Nat
  | .nm i => [i]
  | .tp ts => slotsTs ts
def slotsTs : ITs → List Nat
  | .nil => []
  | .cons t r => slotsT t ++ slotsTs r
end
/-- alike but at the slots ss -/
def But (ss : List Nat) (σ σ' : Sg) : Prop := σ'.length = σ.length ∧ ∀ j, j ∉ ss → σ'[j]? = σ[j]?
theorem But.refl (ss : List Nat) (σ : Sg) : But ss σ σ := ⟨rfl, fun _ _ => rfl⟩
theorem But.trans {ss : List Nat} {σ σ1 σ2 : Sg} (a : But ss σ σ1) (b : But ss σ1 σ2) : But ss σ σ2 := ⟨b.1.trans a.1, fun j h => (b.2 j h).trans (a.2 j h)⟩
theorem But.mono {ss ss' : List Nat} {σ σ1 : Sg} (a : But ss σ σ1) (h : ∀ j ∈ ss, j ∈ ss') : But ss' σ σ1 := ⟨a.1, fun j n => a.2 j fun z => n (h j z)⟩
theorem wipe_get (σ : Sg) : ∀ (vs : List Nat) (j : Nat), (wipe σ vs)[j]? = if j ∈ vs then (if j < σ.length then some none else none) else σ[j]?
  | [], j => by simp [wipe]
  | v :: vs, j => by
    unfold wipe
    by_cases hj : v = j
    · subst hj
      rw [if_pos List.mem_cons_self]
      by_cases hl : v < σ.length
      · rw [if_pos hl, List.getElem?_set_self (by rw [wipe_length]; exact hl)]
      · rw [if_neg hl, List.getElem?_eq_none (by rw [List.length_set, wipe_length]; omega)]
    · rw [List.getElem?_set_ne hj, wipe_get σ vs j]
      by_cases hm : j ∈ vs
      · rw [if_pos hm, if_pos (List.mem_cons_of_mem _ hm)]
      · rw [if_neg hm, if_neg (by simp only [List.mem_cons, not_or]; exact ⟨fun e => hj e.symm, hm⟩)]
theorem But.wipe {ss vs : List Nat} {σ σ' : Sg} (b : But ss σ σ') (h : ∀ j ∈ ss, j ∈ vs) : L2.wipe σ' vs = L2.wipe σ vs := by
  apply List.ext_getElem?
  intro j
  rw [wipe_get, wipe_get, b.1]
  by_cases hm : j ∈ vs
  · rw [if_pos hm, if_pos hm]
  · rw [if_neg hm, if_neg hm]
    exact b.2 j fun z => hm (h j z)
theorem wipe_wipe (σ : Sg) (vs : List Nat) : L2.wipe (L2.wipe σ vs) vs = L2.wipe σ vs := by
  apply List.ext_getElem?
  intro j
  rw [wipe_get, wipe_get, wipe_length]
  by_cases hm : j ∈ vs
  · rw [if_pos hm, if_pos hm]
  · rw [if_neg hm, if_neg hm]
theorem set_but {σ : Sg} {i : Nat} {x : Option V} {ss : List Nat} (h : i ∈ ss) : But ss σ (σ.set i x) := ⟨by simp, fun j hj => List.getElem?_set_ne fun e => hj (by rw [← e]; exact h)⟩

def gEV (K : PySem.W.Frag) (ss : List Nat) (f : PyData → Ev → Option Ev) : TG := fun v σ H Q => ∃ (U : Hp) (Z : Fz) (ρ : Ev) (q : Sx) (d : PyData) (ρ' : Ev), Ab K U Z σ H ρ q ∧ Rp K Z v d ∧ f d ρ = some ρ' ∧
  ∀ σ', But ss σ σ' → Ab K U Z σ' H ρ' q → Q σ' H
def gEVs (K : PySem.W.Frag) (ss : List Nat) (f : List PyData → Ev → Option Ev) : TGs := fun vs σ H Q => ∃ (U : Hp) (Z : Fz) (ρ : Ev) (q : Sx) (ds : List PyData) (ρ' : Ev), Ab K U Z σ H ρ q ∧ RpA K Z vs ds ∧ f ds ρ = some ρ' ∧
  ∀ σ', But ss σ σ' → Ab K U Z σ' H ρ' q → Q σ' H
section
variable {X : Cx}
theorem _root_.L2.PG.weak {e : Expr} {t t' : TG} (h : PG X e t) (w : ∀ v σ H Q, t' v σ H Q → t v σ H Q) : PG X e t' := ⟨fun pins s σ H v u Q I r q => h.run pins s σ H v u Q I r (w v σ H Q q)⟩
theorem _root_.L2.PGs.weak {e : List Expr} {t t' : TGs} (h : PGs X e t) (w : ∀ v σ H Q, t' v σ H Q → t v σ H Q) : PGs X e t' := ⟨fun pins s σ H v u Q I r q => h.run pins s σ H v u Q I r (w v σ H Q q)⟩
theorem _root_.L2.PI.weak {tg e : Expr} {t t' : TI} (h : PI X tg e t) (w : ∀ σ H R, t' σ H R → t σ H R) : PI X tg e t' := ⟨fun pins s σ H R I q => h.run pins s σ H R I (w σ H R q)⟩
theorem pg_or {e : Expr} {t t' : TG} (h : PG X e t) (h' : PG X e t') : PG X e (fun v σ H Q => t v σ H Q ∨ t' v σ H Q) := ⟨fun pins s σ H v u Q I r q => q.elim (h.run pins s σ H v u Q I r) (h'.run pins s σ H v u Q I r)⟩
/-- what a target's name must be -/
def okNm (N : List Str) (sc : Scope) (fn : Str → Bool) (x : Str) (i : Nat) : Bool := decide (N[i]? = some x) && (match sc.names.lookup x with | some .local => true | some .cell => fn x | _ => false)
mutual
def chkT (N : List Str) (sc : Scope) (fn : Str → Bool) : IT → Expr → Bool
  | .nm i, e => match e with
    | .Name x _ => okNm N sc fn x i
    | _ => false
  | .tp ts, e => match e with
    | .Tuple es _ _ => chkTs N sc fn ts es
    | _ => false
def chkTs (N : List Str) (sc : Scope) (fn : Str → Bool) : ITs → List Expr → Bool
  | .nil, es => match es with
    | [] => true
    | _ => false
  | .cons t r, es => match es with
    | [] => false
    | e :: es => chkT N sc fn t e && chkTs N sc fn r es
end
theorem noStarEach : ∀ {ts : ITs} {es : List Expr} {N : List Str} {sc : Scope} {fn : Str → Bool} (env : Env), chkTs N sc fn ts es = true → (assignEach es env).findIdx? (·.1) = none ∧ (assignEach es env).length = es.length := by
  intro ts
  induction ts using ITs.rec (motive_1 := fun _ => True) with
  | nm i => trivial
  | tp ts ih => trivial
  | nil =>
    intro es N sc fn env h
    cases es with
    | nil => exact ⟨rfl, rfl⟩
    | cons e es => cases h
  | cons t r _ ih =>
    intro es N sc fn env h
    cases es with
    | nil => cases h
    | cons e es =>
      rw [chkTs, Bool.and_eq_true] at h
      obtain ⟨h1, h2⟩ := ih env h.2
      have key : assignEach (e :: es) env = (false, assign e env) :: assignEach es env := by
        cases e <;> first | rfl | (cases t <;> cases h.1)
      rw [key, List.findIdx?_cons, h1]
      exact ⟨rfl, by rw [List.length_cons, List.length_cons, h2]⟩
theorem asgs_len : ∀ {ts : ITs} {es : List Expr} {N : List Str} {sc : Scope} {fn : Str → Bool} {ds : List PyData} {ρ ρ' : Ev}, chkTs N sc fn ts es = true → asgs ts ds ρ = some ρ' → ds.length = es.length := by
  intro ts
  induction ts using ITs.rec (motive_1 := fun _ => True) with
  | nm i => trivial
  | tp ts ih => trivial
  | nil =>
    intro es N sc fn ds ρ ρ' h h2
    cases es with
    | nil =>
      cases ds with
      | nil => rfl
      | cons d ds => cases h2
    | cons e es => cases h
  | cons t r _ ih =>
    intro es N sc fn ds ρ ρ' h h2
    cases es with
    | nil => cases h
    | cons e es =>
      cases ds with
      | nil => cases h2
      | cons d ds =>
        rw [chkTs, Bool.and_eq_true] at h
        rw [asgs] at h2
        cases e1 : asg t d ρ with
        | none => rw [e1] at h2; cases h2
        | some ρ1 =>
          rw [e1] at h2
          rw [List.length_cons, List.length_cons, ih h.2 h2]
theorem pg_ok (hc : X.calm = true) (hN : X.N.Nodup) (ss : List Nat) : ∀ (t : IT) (e : Expr), chkT X.N X.env.scope X.fn t e = true → (∀ j ∈ slotsT t, j ∈ ss) → PG X e (gEV X.K ss (asg t)) := by
  intro t
  induction t using IT.rec (motive_2 := fun ts => ∀ es : List Expr, chkTs X.N X.env.scope X.fn ts es = true → (∀ j ∈ slotsTs ts, j ∈ ss) → PGs X es (gEVs X.K ss (asgs ts))) with
  | nm i =>
    intro e h hs
    cases e with
    | Name x pos =>
      have h : okNm X.N X.env.scope X.fn x i = true := h
      unfold okNm at h
      rw [Bool.and_eq_true, decide_eq_true_eq] at h
      obtain ⟨h1, h2⟩ := h
      have hx : Loc X.env.scope x ∧ (X.fn x = true ∨ X.env.scope.names.lookup x = some .local) := by
        split at h2
        · exact ⟨.inl ‹_›, .inr ‹_›⟩
        · exact ⟨.inr ‹_›, .inl h2⟩
        · cases h2
      refine (pg_name hN h1 hx.1 hx.2).weak fun v σ H Q hw => ?_
      obtain ⟨U, Z, ρ, q, d, ρ', A, r, e1, k⟩ := hw
      rw [asg] at e1
      cases e1
      exact k _ (set_but (hs i (by simp [slotsT]))) (A.setVal r)
    | _ => cases h
  | tp ts ih =>
    intro e h hs
    cases e with
    | Tuple es k pos =>
      have h : chkTs X.N X.env.scope X.fn ts es = true := h
      have hg := ih es h (fun j hj => hs j (by rw [slotsT]; exact hj))
      obtain ⟨n1, n2⟩ := noStarEach X.env h
      refine (pg_or (pg_tup hc hg rfl n1) (pg_unl hc hg rfl n1)).weak fun v σ H Q hw => ?_
      obtain ⟨U, Z, ρ, q, d, ρ', A, r, e1, kk⟩ := hw
      cases d with
      | tuple ds =>
        have e1 : asgs ts ds ρ = some ρ' := by rw [asg] at e1; exact e1
        obtain ⟨a, xs, rfl, h1, r1⟩ := r.tuple_inv
        exact .inl ⟨a, xs, rfl, SqT.of (A.fro _ _ h1), by rw [r1.length, n2, asgs_len h e1], U, Z, ρ, q, ds, ρ', A, r1, e1, kk⟩
      | list ds =>
        have e1 : asgs ts ds ρ = some ρ' := by rw [asg] at e1; exact e1
        obtain ⟨a, xs, rfl, h1, r1⟩ := r.list_inv
        exact .inr ⟨a, xs, rfl, SqL.of (A.fro _ _ h1), by rw [r1.length, n2, asgs_len h e1], U, Z, ρ, q, ds, ρ', A, r1, e1, kk⟩
      | _ => simp [asg] at e1
    | _ => cases h
  | nil =>
    rename_i es h hs
    cases es with
    | nil =>
      refine pgs_nil.weak fun v σ H Q hw => ?_
      obtain ⟨U, Z, ρ, q, ds, ρ', A, r, e1, k⟩ := hw
      cases ds with
      | nil =>
        have e2 : some ρ = some ρ' := by simpa [asgs] using e1
        cases e2
        cases r
        exact ⟨rfl, k σ (.refl _ _) A⟩
      | cons d ds => simp [asgs] at e1
    | cons e es => cases h
  | cons t r iht ihr =>
    rename_i es h hs
    cases es with
    | nil => cases h
    | cons e es =>
      rw [chkTs, Bool.and_eq_true] at h
      have key : (assignEach (e :: es) X.env).map (·.2) = assign e X.env :: (assignEach es X.env).map (·.2) := by
        cases e <;> first | rfl | (cases t <;> cases h.1)
      refine (pgs_cons (iht e h.1 fun j hj => hs j (by rw [slotsTs]; exact List.mem_append_left _ hj)) (ihr es h.2 fun j hj => hs j (by rw [slotsTs]; exact List.mem_append_right _ hj)) key).weak fun vs σ H Q hw => ?_
      obtain ⟨U, Z, ρ, q, ds, ρ', A, rp, e1, k⟩ := hw
      cases ds with
      | nil => simp [asgs] at e1
      | cons d ds =>
        rw [asgs] at e1
        cases e2 : asg t d ρ with
        | none => rw [e2] at e1; cases e1
        | some ρ1 =>
          simp only [e2] at e1
          cases rp with
          | cons r1 r2 =>
            exact ⟨_, _, rfl, U, Z, ρ, q, d, ρ1, A, r1, e2, fun σ1 b1 A1 => ⟨U, Z, ρ1, q, ds, ρ', A1, r2, e1, fun σ2 b2 A2 => k σ2 (b1.trans b2) A2⟩⟩
end

/-! ### walks -/
/-- the iterator J gives the items ds -/
def Yields (K : PySem.W.Frag) (Z1 : Fz) (J : It) (ds : List PyData) : Prop := ∀ {U : Hp} {Z : Fz} {σ : Sg} {H : Hp} {ρ : Ev} {q : Sx}, Z1.Le Z → Ab K U Z σ H ρ q →
  (∀ i d, ds[i]? = some d → J.go i H ∧ ∀ x H', J.yld i H x H' → ∃ Z', Z.Le Z' ∧ Ab K U Z' σ H' ρ q ∧ Rp K Z' x d) ∧ J.stop ds.length H
def iEV (K : PySem.W.Frag) (f : RunA) : TI := fun σ H R => ∃ (U : Hp) (Z : Fz) (ρ : Ev) (q : Sx) (ds : List PyData) (ρ' : Ev) (q' : Sx), Ab K U Z σ H ρ q ∧ f ρ q = some (ds, ρ', q') ∧
  ∀ Z' H' J, Z.Le Z' → Ab K U Z' σ H' ρ' q' → Yields K Z' J ds → ds.length ≤ sizeLine → R J H'
section
variable {K : PySem.W.Frag}
theorem yields_list {Z1 : Fz} {a : Addr} {xs : List V} {ds : List PyData} (h : Z1.F a = some (.lst xs)) (r : RpA K Z1 xs ds) : Yields K Z1 (Itl K a) ds := by
  intro U Z σ H ρ q l A
  have hH : H a = some (.lst xs) := A.fro _ _ (l.f _ _ h)
  have sole : ∀ ys, SqL K H a ys → ys[0]? = ys[0]? := fun _ _ => rfl
  refine ⟨fun i d hd => ?_, xs, SqL.of hH, by rw [r.length]; exact Nat.le_refl _⟩
  obtain ⟨v, hv, rv⟩ := r.get hd
  refine ⟨⟨xs, v, SqL.of hH, hv⟩, fun x H' hy => ?_⟩
  obtain ⟨rfl, f⟩ := hy
  have e := (f xs (SqL.of hH)).symm.trans hv
  cases e
  exact ⟨Z, .refl Z, A, rv.mono l⟩
theorem yields_tup {Z1 : Fz} {a : Addr} {xs : List V} {ds : List PyData} (h : Z1.F a = some (.tup xs)) (r : RpA K Z1 xs ds) : Yields K Z1 (Itt K a) ds := by
  intro U Z σ H ρ q l A
  have hH : H a = some (.tup xs) := A.fro _ _ (l.f _ _ h)
  refine ⟨fun i d hd => ?_, xs, SqT.of hH, by rw [r.length]; exact Nat.le_refl _⟩
  obtain ⟨v, hv, rv⟩ := r.get hd
  refine ⟨⟨xs, v, SqT.of hH, hv⟩, fun x H' hy => ?_⟩
  obtain ⟨rfl, f⟩ := hy
  have e := (f xs (SqT.of hH)).symm.trans hv
  cases e
  exact ⟨Z, .refl Z, A, rv.mono l⟩
def rngD (lo : Int) (n : Nat) : List PyData := (List.range n).map fun (k : Nat) => .int (lo + (k : Int))
def rngC (lo c : Int) (n : Nat) : List PyData := (List.range n).map fun (k : Nat) => .int (lo + (k : Int) * c)
theorem rngD_get {lo : Int} {n i : Nat} {d : PyData} (h : (rngD lo n)[i]? = some d) : i < n ∧ d = .int (lo + (i : Int)) := by
  unfold rngD at h
  rw [List.getElem?_map] at h
  by_cases hi : i < n
  · rw [List.getElem?_range hi] at h; cases h; exact ⟨hi, rfl⟩
  · rw [List.getElem?_eq_none (by simpa using hi)] at h; cases h
theorem rngC_get {lo c : Int} {n i : Nat} {d : PyData} (h : (rngC lo c n)[i]? = some d) : i < n ∧ d = .int (lo + (i : Int) * c) := by
  unfold rngC at h
  rw [List.getElem?_map] at h
  by_cases hi : i < n
  · rw [List.getElem?_range hi] at h; cases h; exact ⟨hi, rfl⟩
  · rw [List.getElem?_eq_none (by simpa using hi)] at h; cases h
theorem yields_rng {Z1 : Fz} (lo : Int) (n : Nat) : Yields K Z1 (Itr lo n) (rngD lo n) := by
  intro U Z σ H ρ q l A
  refine ⟨fun i d hd => ?_, by show n ≤ (rngD lo n).length; simp [rngD]⟩
  obtain ⟨hi, rfl⟩ := rngD_get hd
  refine ⟨hi, fun x H' hy => ?_⟩
  obtain ⟨rfl, rfl⟩ := hy
  exact ⟨Z, .refl Z, A, .int _⟩
theorem yields_rngC {Z1 : Fz} (lo c : Int) (n : Nat) : Yields K Z1 (Itc lo c n) (rngC lo c n) := by
  intro U Z σ H ρ q l A
  refine ⟨fun i d hd => ?_, by show n ≤ (rngC lo c n).length; simp [rngC]⟩
  obtain ⟨hi, rfl⟩ := rngC_get hd
  refine ⟨hi, fun x H' hy => ?_⟩
  obtain ⟨rfl, rfl⟩ := hy
  exact ⟨Z, .refl Z, A, .int _⟩
def enumD (ds : List PyData) : List PyData := ds.zipIdx.map fun p => .tuple [.int (p.2 : Nat), p.1]
theorem enumD_get {ds : List PyData} {i : Nat} {d : PyData} (h : (enumD ds)[i]? = some d) : ∃ x, ds[i]? = some x ∧ d = .tuple [.int (i : Nat), x] := by
  unfold enumD at h
  rw [List.getElem?_map, List.getElem?_zipIdx] at h
  cases e : ds[i]? with
  | none => rw [e] at h; cases h
  | some x => rw [e] at h; cases h; exact ⟨x, rfl, by simp⟩
theorem Ab.pair {U : Hp} {Z : Fz} {σ : Sg} {H : Hp} {ρ : Ev} {q : Sx} {T : Addr} {vs : List V} {ds : List PyData} (A : Ab K U Z σ H ρ q) (n : H T = none) (r : RpA K Z vs ds) :
    ∃ Z', Z.Le Z' ∧ Ab K U Z' σ (upd H T (.tup vs)) ρ q ∧ Rp K Z' (.ref T) (.tuple ds) := ⟨_, A.le_new n, A.new n, .tup upd_same (r.mono (A.le_new n))⟩
theorem yields_enumL {Z1 : Fz} {a : Addr} {xs : List V} {ds : List PyData} (h : Z1.F a = some (.lst xs)) (r : RpA K Z1 xs ds) : Yields K Z1 (Ite K a) (enumD ds) := by
  intro U Z σ H ρ q l A
  have hH : H a = some (.lst xs) := A.fro _ _ (l.f _ _ h)
  refine ⟨fun i d hd => ?_, xs, SqL.of hH, by rw [r.length]; simp [enumD]⟩
  obtain ⟨y, hy, rfl⟩ := enumD_get hd
  obtain ⟨v, hv, rv⟩ := r.get hy
  refine ⟨⟨xs, v, SqL.of hH, hv⟩, fun x H' hy => ?_⟩
  obtain ⟨T, z, rfl, n, rfl, f⟩ := hy
  have e := (f xs (SqL.of hH)).symm.trans hv
  cases e
  exact A.pair n (.cons (.int _) (.cons (rv.mono l) .nil))
theorem yields_enumT {Z1 : Fz} {a : Addr} {xs : List V} {ds : List PyData} (h : Z1.F a = some (.tup xs)) (r : RpA K Z1 xs ds) : Yields K Z1 (IteT a) (enumD ds) := by
  intro U Z σ H ρ q l A
  have hH : H a = some (.tup xs) := A.fro _ _ (l.f _ _ h)
  refine ⟨fun i d hd => ?_, xs, hH, by rw [r.length]; simp [enumD]⟩
  obtain ⟨y, hy, rfl⟩ := enumD_get hd
  obtain ⟨v, hv, rv⟩ := r.get hy
  refine ⟨⟨xs, v, hH, hv⟩, fun x H' hy => ?_⟩
  obtain ⟨T, z, rfl, n, rfl, f⟩ := hy
  have e := (f xs hH).symm.trans hv
  cases e
  exact A.pair n (.cons (.int _) (.cons (rv.mono l) .nil))
def zipD (ds es : List PyData) : List PyData := List.zipWith (fun x y => .tuple [x, y]) ds es
theorem zipD_get {ds es : List PyData} {i : Nat} {d : PyData} (h : (zipD ds es)[i]? = some d) : ∃ x y, ds[i]? = some x ∧ es[i]? = some y ∧ d = .tuple [x, y] := by
  unfold zipD at h
  rw [List.getElem?_zipWith] at h
  cases e : ds[i]? with
  | none => rw [e] at h; cases h
  | some x =>
    cases e2 : es[i]? with
    | none => rw [e, e2] at h; cases h
    | some y => rw [e, e2] at h; cases h; exact ⟨x, y, rfl, rfl, rfl⟩
theorem yields_zipL {Z1 : Fz} {a b : Addr} {xs ys : List V} {ds es : List PyData} (h : Z1.F a = some (.lst xs)) (r : RpA K Z1 xs ds) (h2 : Z1.F b = some (.lst ys)) (r2 : RpA K Z1 ys es) : Yields K Z1 (Itz K a b) (zipD ds es) := by
  intro U Z σ H ρ q l A
  have hH : H a = some (.lst xs) := A.fro _ _ (l.f _ _ h)
  have hH2 : H b = some (.lst ys) := A.fro _ _ (l.f _ _ h2)
  refine ⟨fun i d hd => ?_, xs, ys, SqL.of hH, SqL.of hH2, ?_⟩
  · obtain ⟨y, y2, hy, hy2, rfl⟩ := zipD_get hd
    obtain ⟨v, hv, rv⟩ := r.get hy
    obtain ⟨v2, hv2, rv2⟩ := r2.get hy2
    refine ⟨⟨xs, ys, v, v2, SqL.of hH, SqL.of hH2, hv, hv2⟩, fun x H' hy => ?_⟩
    obtain ⟨T, z, z2, rfl, n, rfl, f, f2⟩ := hy
    have e := (f xs (SqL.of hH)).symm.trans hv
    have e2 := (f2 ys (SqL.of hH2)).symm.trans hv2
    cases e
    cases e2
    exact A.pair n (.cons (rv.mono l) (.cons (rv2.mono l) .nil))
  · rw [r.length, r2.length]
    simp only [zipD, List.length_zipWith]
    omega
theorem yields_zipT {Z1 : Fz} {a b : Addr} {xs ys : List V} {ds es : List PyData} (h : Z1.F a = some (.tup xs)) (r : RpA K Z1 xs ds) (h2 : Z1.F b = some (.tup ys)) (r2 : RpA K Z1 ys es) : Yields K Z1 (RZ.ItzT K a b) (zipD ds es) := by
  intro U Z σ H ρ q l A
  have hH : H a = some (.tup xs) := A.fro _ _ (l.f _ _ h)
  have hH2 : H b = some (.tup ys) := A.fro _ _ (l.f _ _ h2)
  refine ⟨fun i d hd => ?_, xs, ys, SqT.of hH, SqT.of hH2, ?_⟩
  · obtain ⟨y, y2, hy, hy2, rfl⟩ := zipD_get hd
    obtain ⟨v, hv, rv⟩ := r.get hy
    obtain ⟨v2, hv2, rv2⟩ := r2.get hy2
    refine ⟨⟨xs, ys, v, v2, SqT.of hH, SqT.of hH2, hv, hv2⟩, fun x H' hy => ?_⟩
    obtain ⟨T, z, z2, rfl, n, rfl, f, f2⟩ := hy
    have e := (f xs (SqT.of hH)).symm.trans hv
    have e2 := (f2 ys (SqT.of hH2)).symm.trans hv2
    cases e
    cases e2
    exact A.pair n (.cons (rv.mono l) (.cons (rv2.mono l) .nil))
  · rw [r.length, r2.length]
    simp only [zipD, List.length_zipWith]
    omega
end

/-! ### comprehensions -/
def wipeE (ρ : Ev) (vs : List Nat) : Ev := vs.foldr (fun v ρ => ρ.set v none) ρ
/-- behind a comprehension: its own slots as they were (what was one's own there is forgotten) -/
def backE (ρ ρ' : Ev) : List Nat → Ev
  | [] => ρ'
  | v :: vs => (backE ρ ρ' vs).set v (match ρ[v]? with | some (some (.val d)) => some (.val d) | _ => none)
def compL (body : PyData → Ev → Sx → Option (Option PyData × Ev × Sx)) : List PyData → Ev → Sx → Option (List PyData × Ev × Sx)
  | [], ρ, q => some ([], ρ, q)
  | x :: xs, ρ, q => match body x ρ q with
    | none => none
    | some (y, ρ1, q1) => match compL body xs ρ1 q1 with
      | none => none
      | some (ys, ρ2, q2) => some (y.toList ++ ys, ρ2, q2)
def compB (own : List Nat) (tg : PyData → Ev → Option Ev) (cond : RunT) (elt : Run) : PyData → Ev → Sx → Option (Option PyData × Ev × Sx) := fun x ρ q =>
  match tg x ρ with
  | none => none
  | some ρ1 => match cond ρ1 q with
    | none => none
    | some (b, ρ2, q2) => if b = true then (match elt ρ2 q2 with
        | none => none
        | some (d, ρ3, q3) => some (some d, wipeE ρ3 own, q3)) else some (none, wipeE ρ2 own, q2)
def compR (own : List Nat) (it : RunA) (tg : PyData → Ev → Option Ev) (cond : RunT) (elt : Run) : Run := fun ρ q =>
  match it ρ q with
  | none => none
  | some (ds, ρ1, q1) => match compL (compB own tg cond elt) ds (wipeE ρ1 own) q1 with
    | none => none
    | some (ys, ρ2, q2) => some (.list ys, backE ρ1 ρ2 own, q2)
section
variable {K : PySem.W.Frag} {U : Hp} {Z : Fz} {σ : Sg} {H : Hp} {ρ : Ev} {q : Sx} {D : Addr} {o o' : HO}
theorem wipeE_length (ρ : Ev) : ∀ vs, (wipeE ρ vs).length = ρ.length
  | [] => rfl
  | v :: vs => by show ((wipeE ρ vs).set v none).length = _; rw [List.length_set, wipeE_length ρ vs]
theorem wipeE_some {ρ : Ev} {i : Nat} {x : SV} : ∀ {vs : List Nat}, (wipeE ρ vs)[i]? = some (some x) → ρ[i]? = some (some x) ∧ i ∉ vs
  | [], h => ⟨h, by simp⟩
  | v :: vs, h => by
    have h : ((wipeE ρ vs).set v none)[i]? = some (some x) := h
    rcases get_set h with ⟨_, z, _⟩ | ⟨hne, h⟩
    · cases z
    · obtain ⟨h1, h2⟩ := wipeE_some h
      exact ⟨h1, by simp only [List.mem_cons, not_or]; exact ⟨fun e => hne e.symm, h2⟩⟩
theorem Ab.wipe (A : Ab K U Z σ H ρ q) (vs : List Nat) : Ab K U Z (L2.wipe σ vs) H (wipeE ρ vs) q := by
  refine ⟨A.toAbH, by rw [wipe_length, wipeE_length, A.len], fun i sv e => ?_, fun i j d e a e1 e2 e3 e4 => ?_⟩
  · obtain ⟨e, n⟩ := wipeE_some e
    obtain ⟨v, hv, h⟩ := A.slot i sv e
    exact ⟨v, by rw [wipe_get, if_neg n]; exact hv, h⟩
  · obtain ⟨e1, _⟩ := wipeE_some e1
    obtain ⟨e2, _⟩ := wipeE_some e2
    exact A.sep i j d e a e1 e2 (wipe_some e3).1 (wipe_some e4).1
theorem Ab.guard (A : Ab K U Z σ H ρ q) (h : H D = some o) (l : Lone U Z D) (n : Apart σ ρ D) : Ab K (upd U D o) Z σ H ρ q := by
  refine ⟨⟨A.fro, fun b u e => ?_, fun x c e => ?_, A.nos⟩, A.len, fun i sv e => ?_, A.sep⟩
  · by_cases hb : b = D
    · subst hb; rw [upd_same] at e; cases e; exact ⟨h, l.f⟩
    · rw [upd_ne hb] at e; exact A.unt b u e
  · obtain ⟨h1, h2, h3, h4, h5, h6⟩ := A.src x c e
    obtain ⟨n1, n2⟩ := l.s _ e
    exact ⟨h1, h2, h3, h4, by rw [upd_ne (Ne.symm n1)]; exact h5, by rw [upd_ne (Ne.symm n2)]; exact h6⟩
  · obtain ⟨v, hv, hs⟩ := A.slot i sv e
    refine ⟨v, hv, ?_⟩
    cases sv with
    | val d => exact hs
    | own d =>
      obtain ⟨a, rfl, h2, h3⟩ := hs
      have hne : a ≠ D := fun z => n i d e (by rw [hv, z])
      exact ⟨a, rfl, h2, ⟨h3.f, by rw [upd_ne hne]; exact h3.u, h3.s⟩⟩
/-- what is guarded is no one's here -/
theorem Ab.guarded (A : Ab K (upd U D o) Z σ H ρ q) : H D = some o ∧ Z.F D = none ∧ (∀ p, Z.sa = some p → D ≠ p.1 ∧ D ≠ p.2) ∧ Apart σ ρ D := by
  obtain ⟨h1, h2⟩ := A.unt D o upd_same
  refine ⟨h1, h2, fun p hp => ?_, fun i d e z => ?_⟩
  · obtain ⟨x, c⟩ := p
    obtain ⟨_, _, _, _, h5, h6⟩ := A.src x c hp
    exact ⟨fun e => (by rw [← (show D = x from e), upd_same] at h5; cases h5), fun e => (by rw [← (show D = c from e), upd_same] at h6; cases h6)⟩
  · obtain ⟨v, hv, a, e1, h2, h3⟩ := A.slot i _ e
    rw [z] at hv; cases hv; cases e1
    have := h3.u
    rw [upd_same] at this; cases this
theorem Ab.unguard (A : Ab K (upd U D o) Z σ H ρ q) (hU : U D = none) : Ab K U Z σ H ρ q ∧ Lone U Z D := by
  obtain ⟨g1, g2, g3, g4⟩ := A.guarded
  refine ⟨⟨⟨A.fro, fun b u e => A.unt b u (by rw [upd_ne (ne_of_none e hU)]; exact e), fun x c e => ?_, A.nos⟩, A.len, fun i sv e => ?_, A.sep⟩, ⟨g2, hU, g3⟩⟩
  · obtain ⟨h1, h2, h3, h4, h5, h6⟩ := A.src x c e
    obtain ⟨n1, n2⟩ := g3 _ e
    exact ⟨h1, h2, h3, h4, by rw [upd_ne (Ne.symm n1)] at h5; exact h5, by rw [upd_ne (Ne.symm n2)] at h6; exact h6⟩
  · obtain ⟨v, hv, hs⟩ := A.slot i sv e
    refine ⟨v, hv, ?_⟩
    cases sv with
    | val d => exact hs
    | own d =>
      obtain ⟨a, rfl, h2, h3⟩ := hs
      have hne : a ≠ D := fun z => g4 i d e (by rw [hv, z])
      have := h3.u
      rw [upd_ne hne] at this
      exact ⟨a, rfl, h2, ⟨h3.f, this, h3.s⟩⟩
theorem Ab.reguard (A : Ab K (upd U D o) Z σ H ρ q) (hU : U D = none) : Ab K (upd U D o') Z σ (upd H D o') ρ q := by
  obtain ⟨g1, g2, g3, g4⟩ := A.guarded
  obtain ⟨A1, l⟩ := A.unguard hU
  exact (A1.upds (o := o') l g4).guard upd_same l g4
theorem backE_length (ρ ρ' : Ev) : ∀ vs, (backE ρ ρ' vs).length = ρ'.length
  | [] => rfl
  | v :: vs => by unfold backE; rw [List.length_set, backE_length ρ ρ' vs]
theorem backE_some {ρ ρ' : Ev} {i : Nat} {x : SV} : ∀ {vs : List Nat}, (backE ρ ρ' vs)[i]? = some (some x) → (i ∉ vs ∧ ρ'[i]? = some (some x)) ∨ (∃ d, x = .val d ∧ ρ[i]? = some (some (.val d)))
  | [], h => .inl ⟨by simp, h⟩
  | v :: vs, h => by
    unfold backE at h
    rcases get_set h with ⟨e, z, _⟩ | ⟨hne, h⟩
    · subst e
      split at z
      · cases z; exact .inr ⟨_, rfl, ‹_›⟩
      · cases z
    · rcases backE_some h with ⟨h1, h2⟩ | h
      · exact .inl ⟨by simp only [List.mem_cons, not_or]; exact ⟨fun e => hne e.symm, h1⟩, h2⟩
      · exact .inr h
theorem Ab.back {Z' : Fz} {H' : Hp} {ρ' : Ev} {q' : Sx} {vs : List Nat} (A : Ab K U Z σ H ρ q) (l : Z.Le Z') (A' : Ab K U Z' (L2.wipe σ vs) H' ρ' q') : Ab K U Z' σ H' (backE ρ ρ' vs) q' := by
  refine ⟨A'.toAbH, by rw [backE_length, ← A'.len, wipe_length], fun i sv e => ?_, fun i j d e a e1 e2 e3 e4 => ?_⟩
  · rcases backE_some e with ⟨n, e1⟩ | ⟨d, rfl, e1⟩
    · obtain ⟨v, hv, h⟩ := A'.slot i sv e1
      exact ⟨v, (wipe_some hv).1, h⟩
    · obtain ⟨v, hv, h⟩ := A.slot i _ e1
      exact ⟨v, hv, Rp.mono l h⟩
  · rcases backE_some e1 with ⟨n1, e1⟩ | ⟨_, z, _⟩
    · rcases backE_some e2 with ⟨n2, e2⟩ | ⟨_, z, _⟩
      · exact A'.sep i j d e a e1 e2 (by rw [wipe_get, if_neg n1]; exact e3) (by rw [wipe_get, if_neg n2]; exact e4)
      · cases z
    · cases z
theorem compL_drop {body : PyData → Ev → Sx → Option (Option PyData × Ev × Sx)} {ds : List PyData} {i : Nat} {ρ : Ev} {q : Sx} {r : List PyData × Ev × Sx} {d : PyData} (hd : ds[i]? = some d) (h : compL body (ds.drop i) ρ q = some r) :
    ∃ y ρ1 q1 ys, body d ρ q = some (y, ρ1, q1) ∧ compL body (ds.drop (i + 1)) ρ1 q1 = some (ys, r.2.1, r.2.2) ∧ r.1 = y.toList ++ ys := by
  obtain ⟨hi, e⟩ := List.getElem?_eq_some_iff.mp hd
  rw [List.drop_eq_getElem_cons hi, e, compL] at h
  cases e1 : body d ρ q with
  | none => rw [e1] at h; cases h
  | some r1 =>
    obtain ⟨y, ρ1, q1⟩ := r1
    simp only [e1] at h
    cases e2 : compL body (ds.drop (i + 1)) ρ1 q1 with
    | none => rw [e2] at h; cases h
    | some r2 =>
      obtain ⟨ys, ρ2, q2⟩ := r2
      simp only [e2] at h
      cases h
      exact ⟨y, ρ1, q1, ys, rfl, e2, rfl⟩
theorem tLc_of {own ss : List Nat} {it : RunA} {tg : PyData → Ev → Option Ev} {cond : RunT} {elt : Run} (hss : ∀ j ∈ ss, j ∈ own) (σ : Sg) (H : Hp) (Q : VK) (h : tEV K (compR own it tg cond elt) σ H Q) :
    tLc (iEV K it) (gEV K ss tg) (tTV K cond) (tEV K elt) own σ H Q := by
  obtain ⟨U, Z, ρ, q, d, ρ', q', A, e, k⟩ := h
  unfold compR at e
  cases e1 : it ρ q with
  | none => rw [e1] at e; cases e
  | some r1 =>
    obtain ⟨ds, ρ1, q1⟩ := r1
    simp only [e1] at e
    cases e2 : compL (compB own tg cond elt) ds (wipeE ρ1 own) q1 with
    | none => rw [e2] at e; cases e
    | some r2 =>
      obtain ⟨ys, ρ2, q2⟩ := r2
      simp only [e2] at e
      obtain ⟨rfl, rfl, rfl⟩ : PyData.list ys = d ∧ backE ρ1 ρ2 own = ρ' ∧ q2 = q' := by
        have e := Option.some.inj e
        exact ⟨congrArg (·.1) e, congrArg (·.2.1) e, congrArg (·.2.2) e⟩
      refine ⟨U, Z, ρ, q, ds, ρ1, q1, A, e1, fun Z1 H1 J l1 A1 Y hsz D hD => ?_⟩
      have hU : U D = none := (A1.lone_new hD).u
      refine ⟨fun i m H => m = ds.length - i ∧ i ≤ ds.length ∧ ∃ (Z' : Fz) (ρi : Ev) (qi : Sx) (av : List V) (ad rest : List PyData), Z1.Le Z' ∧ Ab K (upd U D (.lst av)) Z' (L2.wipe σ own) H ρi qi ∧ RpA K Z' av ad ∧ av.length ≤ i ∧
        compL (compB own tg cond elt) (ds.drop i) ρi qi = some (rest, ρ2, q2) ∧ ad ++ rest = ys, ⟨ds.length, by simp, Nat.zero_le _, Z1, wipeE ρ1 own, q1, [], [], ys, .refl _, ?_, .nil, Nat.zero_le _, e2, rfl⟩, ?_⟩
      · have A2 := (A1.wipe own)
        exact (A2.upds (A2.lone_new hD) (A2.apart_new hD)).guard upd_same (A2.lone_new hD) (A2.apart_new hD)
      · rintro i m H2 ⟨rfl, hi, Z', ρi, qi, av, ad, rest, l', A', ra, hal, ec, ey⟩
        obtain ⟨Y1, Y2⟩ := Y l' A'
        by_cases hlt : i < ds.length
        · have hd : ds[i]? = some ds[i] := List.getElem?_eq_getElem hlt
          obtain ⟨y, ρ3, q3, ys', b1, b2, b3⟩ := compL_drop hd ec
          obtain ⟨g1, g2⟩ := Y1 i _ hd
          refine .inr ⟨g1, fun H' => ∃ (Z'' : Fz) (av' : List V), Z'.Le Z'' ∧ Ab K (upd U D (.lst av')) Z'' (L2.wipe σ own) H' ρ3 q3 ∧ RpA K Z'' av' (ad ++ y.toList) ∧ av'.length ≤ i + 1, fun H' hN => ?_, fun x H' hy => ?_⟩
          · obtain ⟨Z'', av', l'', A'', ra', hal'⟩ := hN
            refine ⟨ds.length - (i + 1), by omega, rfl, hlt, Z'', ρ3, q3, av', ad ++ y.toList, ys', l'.trans l'', A'', ra', hal', b2, ?_⟩
            rw [List.append_assoc, ← b3]; exact ey
          · obtain ⟨Z3, l3, A3, r3⟩ := g2 x H' hy
            unfold compB at b1
            cases t1 : tg ds[i] ρi with
            | none => rw [t1] at b1; cases b1
            | some ρ4 =>
              simp only [t1] at b1
              refine ⟨upd U D (.lst av), Z3, ρi, qi, ds[i], ρ4, A3, r3, t1, fun σ2 but A4 => ?_⟩
              have hw : L2.wipe σ2 own = L2.wipe σ own := by rw [but.wipe hss, wipe_wipe]
              refine ⟨hw, ?_⟩
              cases t2 : cond ρ4 qi with
              | none => rw [t2] at b1; cases b1
              | some r5 =>
                obtain ⟨b, ρ5, q5⟩ := r5
                simp only [t2] at b1
                refine ⟨upd U D (.lst av), Z3, ρ4, qi, b, ρ5, q5, A4, t2, fun Z5 H5 l5 A5 => ?_⟩
                cases b with
                | false =>
                  rw [if_neg (by simp)] at b1 ⊢
                  cases b1
                  refine ⟨Z5, av, l3.trans l5, ?_, ?_, by omega⟩
                  · have := A5.wipe own
                    rw [hw] at this
                    exact this
                  · rw [show ad ++ (none : Option PyData).toList = ad from List.append_nil _]
                    exact ra.mono (l3.trans l5)
                | true =>
                  rw [if_pos rfl] at b1 ⊢
                  cases t3 : elt ρ5 q5 with
                  | none => rw [t3] at b1; cases b1
                  | some r6 =>
                    obtain ⟨d6, ρ6, q6⟩ := r6
                    simp only [t3] at b1
                    cases b1
                    refine ⟨upd U D (.lst av), Z5, ρ5, q5, d6, ρ6, q3, A5, t3, fun Z6 H6 v l6 A6 r6 => ?_⟩
                    refine ⟨av, A6.guarded.1, ?_, Z6, av ++ [v], l3.trans (l5.trans l6), ?_, (ra.mono (l3.trans (l5.trans l6))).append (.cons r6 .nil), ?_⟩
                    · exact Nat.lt_of_le_of_lt hal (Nat.lt_of_lt_of_le hlt hsz)
                    · have := (A6.wipe own).reguard (o' := .lst (av ++ [v])) hU
                      rw [hw] at this
                      exact this
                    · rw [List.length_append]; simp only [List.length_singleton]; omega
        · have ei : i = ds.length := by omega
          subst ei
          refine .inl ⟨Y2, ?_⟩
          rw [List.drop_length, compL] at ec
          cases ec
          rw [List.append_nil] at ey
          subst ey
          obtain ⟨g1, g2, g3, g4⟩ := A'.guarded
          obtain ⟨A7, l7⟩ := A'.unguard hU
          have le7 : Z'.Le (Z'.add D (.lst av)) := Fz.le_add l7.f
          exact k _ _ _ (l1.trans (l'.trans le7)) (A1.back (l'.trans le7) (A7.freeze l7 g4 g1)) (.lst upd_same (ra.mono le7))
end
end Sb

set_option Elab.async false
set_option autoImplicit false
set_option linter.all false
set_option maxRecDepth 100000
set_option maxHeartbeats 4000000
/-! SbH: what a def promises, its call, the law's end. -/
namespace Sb
open PySem PySem.Spec PyProof.Rows L2

/-- what a statement comes to -/
inductive Out where
  | nx (ρ : Ev) (q : Sx)
  | rt (d : PyData) (q : Sx)
abbrev RunS := Ev → Sx → Option Out
def sSt (K : PySem.W.Frag) (f : RunS) : TS := fun D σ H => ∃ (U : Hp) (Z : Fz) (ρ : Ev) (q : Sx) (o : Out), Ab K U Z σ H ρ q ∧ f ρ q = some o ∧
  match o with
  | .nx ρ' q' => ∀ Z' σ' H', Z.Le Z' → Ab K U Z' σ' H' ρ' q' → D.nx σ' H'
  | .rt d q' => ∀ Z' H' v, Z.Le Z' → AbH K U Z' H' q' → Rp K Z' v d → D.rt v H'
def startE (n : Nat) (ds : List PyData) : Ev := ds.map (fun d => some (SV.val d)) ++ List.replicate (n - ds.length) none
/-- a def's body as a function -/
def fnR (n : Nat) (f : RunS) : Fn := fun ds q => match f (startE n ds) q with
  | some (.rt d q') => some (d, q')
  | some (.nx _ q') => some (.none, q')
  | none => none

structure FnG (P : Program) (w : World) (K : PySem.W.Frag) (mg : Str → Option Value) (base : Heap) (k : Nat) (f : Addr) (fd : FuncData) (ps : List Str) (F : Fn) : Prop where
  run : ∀ (A : Around) (outer : List Env) (s : Shared) (H : Hp) (args : Args) (us : List Value) (vs : List V) (U : Hp) (Z : Fz) (q : Sx) (ds : List PyData) (d : PyData) (q' : Sx),
    Room k A → A.guards = some [] → Env0 P w K mg base A outer s H → BindsTo s fd args (ps.zip us) → Vals vs us → ds.length = ps.length → AbH K U Z H q → RpA K Z vs ds → F ds q = some (d, q') →
    codeAny (model P w) A (.call (.ref f) args) (CR CX0 outer P w H s (fun v H' => ∃ Z', Z.Le Z' ∧ AbH K U Z' H' q' ∧ Rp K Z' v d) E0) s
theorem FnG.up {P : Program} {w : World} {K : PySem.W.Frag} {mg : Str → Option Value} {base : Heap} {j k : Nat} {f : Addr} {fd : FuncData} {ps : List Str} {F : Fn} (G : FnG P w K mg base j f fd ps F) (h : j ≤ k) : FnG P w K mg base k f fd ps F :=
  ⟨fun A outer s H args us vs U Z q ds d q' r => G.run A outer s H args us vs U Z q ds d q' (r.mono h)⟩
/-- another word for what it computes -/
theorem FnG.as {P : Program} {w : World} {K : PySem.W.Frag} {mg : Str → Option Value} {base : Heap} {k : Nat} {f : Addr} {fd : FuncData} {ps : List Str} {F F' : Fn} (G : FnG P w K mg base k f fd ps F)
    (h : ∀ ds q d q', ds.length = ps.length → F' ds q = some (d, q') → F ds q = some (d, q')) : FnG P w K mg base k f fd ps F' :=
  ⟨fun A outer s H args us vs U Z q ds d q' r g e b v l a p e2 => G.run A outer s H args us vs U Z q ds d q' r g e b v l a p (h _ _ _ _ l e2)⟩

theorem startE_get {n : Nat} {ds : List PyData} {i : Nat} {sv : SV} (h : (startE n ds)[i]? = some (some sv)) : ∃ d, ds[i]? = some d ∧ sv = .val d := by
  unfold startE at h
  by_cases hi : i < ds.length
  · rw [List.getElem?_append_left (by simpa using hi), List.getElem?_map] at h
    cases e : ds[i]? with
    | none => rw [e] at h; cases h
    | some d => rw [e] at h; cases h; exact ⟨d, rfl, rfl⟩
  · rw [List.getElem?_append_right (by simpa using hi), List.getElem?_replicate] at h
    split at h <;> cases h
/-- a body starts -/
theorem AbH.start {K : PySem.W.Frag} {U : Hp} {Z : Fz} {H : Hp} {q : Sx} {N : List Str} {vs : List V} {ds : List PyData} (A : AbH K U Z H q) (r : RpA K Z vs ds) : Ab K U Z (start N vs) H (startE N.length ds) q := by
  refine ⟨A, ?_, fun i sv e => ?_, fun i j d e a e1 e2 e3 e4 => ?_⟩
  · unfold L2.start startE
    rw [List.length_append, List.length_append, List.length_map, List.length_map, List.length_replicate, List.length_replicate, r.length]
  · obtain ⟨d, hd, rfl⟩ := startE_get e
    obtain ⟨v, hv, rv⟩ := r.get hd
    refine ⟨v, ?_, rv⟩
    have hi : i < vs.length := (List.getElem?_eq_some_iff.mp hv).1
    unfold L2.start
    rw [List.getElem?_append_left (by simpa using hi), List.getElem?_map, hv]
    rfl
  · obtain ⟨d', _, z⟩ := startE_get e1
    cases z

section
variable {P : Program} {w : World} {K : PySem.W.Frag} {mg : Str → Option Value} {base : Heap}
/-- a def of the text: from its body's reading -/
theorem fnG_of {x qual : Str} {st : Stmt} {f : Addr} {fd : FuncData} {N ps : List Str} {k : Nat} {R : RunS} (G : L2.Fun K x qual st f fd) (S : FnScope N ps (defScope st))
    (hb : ∀ (cdv : Value) (A : Around) (outer : List Env) (s : Shared) (H : Hp), Room k (A.deeper (envOfC qual (defScope st) s.heap.objs.size f cdv)) → A.guards = some [] →
      PSs (cxOf CX0 P w K mg base N qual (defScope st) f cdv A outer s H E0).nox (defBody st) (sSt K R)) :
    FnG P w K mg base (k + 1) f fd ps (fnR N.length R) := by
  obtain ⟨oc, od, kV, doc, pm, an, cdv, ct, osl, rfl, lk, hcd⟩ := G.ex
  constructor
  intro A outer s H args us vs U Z q ds d q' room hg e0 hbind rv hlen AH ra hF
  have hvl : vs.length = ps.length := ra.length.trans hlen
  have kin : K.In s.heap := e0.mod.kin.keeps fun b o e => (e0.bs b o e).1
  have nolim : s.heap.NoLimit := e0.mod.nolimit.keeps fun b o e => (e0.bs b o e).1
  refine codeAny_call_function room.depth (kin _ _ lk) rfl S.co S.gen rfl (PySem.W.codeRec_of kin hcd) (hbind _ _ _ _ ?_)
  refine wpAny_newFunctionEnv_cells S.kind (fun p hp => ?_) fun env he s1 hx => ?_
  · have hm := S.par p.1 (List.of_mem_zip (a := p.1) (b := p.2) hp).1
    exact hm.imp id fun z => ⟨z, PySem.W.cellsFrom_some _ _ _ (.inl z)⟩
  · subst he
    refine ⟨nolim.keeps hx.toInCall.keep, codeAny_func ?_⟩
    have I0 := inv_start (CX := CX0) (P := P) (w := w) (mg := mg) (E := E0) S room.hd e0 hvl rv hx
    have body := (hb cdv A outer s H (room.deeper _) hg).nox
    unfold fnR at hF
    cases hR : R (startE N.length ds) q with
    | none => rw [hR] at hF; cases hF
    | some o =>
      simp only [hR] at hF
      refine wpAny_mono (body.run [] s1 (L2.start N vs) H { nx := fun _ H' => ∃ Z', Z.Le Z' ∧ AbH K U Z' H' q' ∧ Rp K Z' .non d, rt := fun v H' => ∃ Z', Z.Le Z' ∧ AbH K U Z' H' q' ∧ Rp K Z' v d } I0 ⟨U, Z, _, q, o, AH.start ra, hR, ?_⟩) (fun fl s' hs => ?_) fun e s' hs => hs
      · cases o with
        | nx ρ1 q1 =>
          have hF : some (PyData.none, q1) = some (d, q') := hF
          cases hF
          exact fun Z' σ' H' l A' => ⟨Z', l, A'.toAbH, .non⟩
        | rt d1 q1 =>
          have hF : some (d1, q1) = some (d, q') := hF
          cases hF
          exact fun Z' H' v l A' r => ⟨Z', l, A', r⟩
      · cases fl with
        | ret u =>
          obtain ⟨v, σ', H', J, ru, w⟩ := hs
          exact ⟨v, H', J.os, J.bare, J.base, J.hok, ru, w⟩
        | next =>
          obtain ⟨σ', H', J, w⟩ := hs
          exact ⟨.non, H', J.os, J.bare, J.base, J.hok, rfl, w⟩
        | brk => obtain ⟨_, _, _, z⟩ := hs; exact z.elim
        | cont => obtain ⟨_, _, _, z⟩ := hs; exact z.elim
end

/-! ### the call -/
/-- what the callee may not touch: what is neither frozen nor the source's -/
noncomputable def keptU (Z : Fz) (H : Hp) : Hp := fun a => open Classical in if Z.F a = none ∧ ∀ p, Z.sa = some p → a ≠ p.1 ∧ a ≠ p.2 then H a else none
section
variable {K : PySem.W.Frag} {U : Hp} {Z Z1 : Fz} {σ : Sg} {H H1 : Hp} {ρ : Ev} {q q1 : Sx}
theorem keptU_some {a : Addr} {o : HO} (h : keptU Z H a = some o) : H a = some o ∧ Z.F a = none ∧ ∀ p, Z.sa = some p → a ≠ p.1 ∧ a ≠ p.2 := by
  unfold keptU at h
  split at h
  · rename_i c
    exact ⟨h, c.1, c.2⟩
  · cases h
theorem keptU_of {a : Addr} {o : HO} (h : H a = some o) (h2 : Z.F a = none) (h3 : ∀ p, Z.sa = some p → a ≠ p.1 ∧ a ≠ p.2) : keptU Z H a = some o := by
  unfold keptU
  rw [if_pos ⟨h2, h3⟩]
  exact h
theorem AbH.kept (A : AbH K U Z H q) : AbH K (keptU Z H) Z H q := by
  refine ⟨A.fro, fun a o e => ?_, fun a c e => ?_, A.nos⟩
  · obtain ⟨h1, h2, _⟩ := keptU_some e
    exact ⟨h1, h2⟩
  · obtain ⟨h1, h2, h3, h4, _⟩ := A.src a c e
    refine ⟨h1, h2, h3, h4, ?_, ?_⟩
    · cases z : keptU Z H a with
      | none => rfl
      | some o => exact absurd rfl ((keptU_some z).2.2 _ e).1
    · cases z : keptU Z H c with
      | none => rfl
      | some o => exact absurd rfl ((keptU_some z).2.2 _ e).2
/-- behind a call -/
theorem Ab.after (A : Ab K U Z σ H ρ q) (l : Z.Le Z1) (A1 : AbH K (keptU Z H) Z1 H1 q1) : Ab K U Z1 σ H1 ρ q1 := by
  have sub : ∀ {a : Addr} {o : HO}, U a = some o → keptU Z H a = some o := fun {a o} e => by
    obtain ⟨h1, h2⟩ := A.unt a o e
    refine keptU_of h1 h2 fun p hp => ?_
    obtain ⟨x, c⟩ := p
    obtain ⟨_, _, _, _, h5, h6⟩ := A.src x c hp
    exact ⟨fun z => (by rw [z, h5] at e; cases e), fun z => (by rw [z, h6] at e; cases e)⟩
  have none_of : ∀ {a : Addr}, keptU Z H a = none → U a = none := fun {a} h => by
    cases e : U a with
    | none => rfl
    | some o => rw [sub e] at h; cases h
  refine ⟨⟨A1.fro, fun a o e => A1.unt a o (sub e), fun a c e => ?_, A1.nos⟩, A.len, fun i sv e => ?_, A.sep⟩
  · obtain ⟨h1, h2, h3, h4, h5, h6⟩ := A1.src a c e
    exact ⟨h1, h2, h3, h4, none_of h5, none_of h6⟩
  · obtain ⟨v, hv, h⟩ := A.slot i sv e
    refine ⟨v, hv, ?_⟩
    cases sv with
    | val d => exact Rp.mono l h
    | own d =>
      obtain ⟨a, rfl, h2, h3⟩ := h
      have keep : ∀ {o : HO}, H a = some o → keptU Z H a = some o := fun e => keptU_of e h3.f h3.s
      obtain ⟨o, ho⟩ := h2.some
      refine ⟨a, rfl, h2.mono l fun o e => (A1.unt a o (keep e)).1, (A1.unt a o (keep ho)).2, h3.u, fun p hp => ?_⟩
      obtain ⟨x, c⟩ := p
      obtain ⟨_, _, _, _, h5, h6⟩ := A1.src x c hp
      exact ⟨fun z => (by rw [← (show a = x from z), keep ho] at h5; cases h5), fun z => (by rw [← (show a = c from z), keep ho] at h6; cases h6)⟩
end
/-- f(..) by what f promises -/
def callR (F : Fn) (g : RunA) : Run := fun ρ q => match g ρ q with
  | none => none
  | some (ds, ρ1, q1) => match F ds q1 with
    | none => none
    | some (d, q2) => some (d, ρ1, q2)
/-- the name x stands for a def that promises F of n arguments -/
structure CallOk (P : Program) (w : World) (K : PySem.W.Frag) (mg : Str → Option Value) (base : Heap) (k : Nat) (x : Str) (n : Nat) (F : Fn) : Prop where
  ex : ∃ (f : Addr) (fd : FuncData) (ps : List Str), FnG P w K mg base k f fd ps F ∧ mg x = some (.ref f) ∧ PySem.W.keepIn K (.ref f) = true ∧ Binds K fd ps [] ∧ ps.length = n
section
variable {X : Cx} {k : Nat} {x : Str} {F : Fn} {g : RunA} {p pos : Pos} {e : Expr} {es : List Expr} {n : Nat}
theorem user_run {pins : List (Addr × Obj)} {σ : Sg} {H : Hp} {s : Shared} {Q : VK} {us : List Value} {vs : List V} {U : Hp} {Z : Fz} {ρ : Ev} {q q' : Sx} {ds : List PyData} {d : PyData} {f : Addr} {fd : FuncData} {ps : List Str}
    (G : FnG X.prog X.w X.K X.mg X.base k f fd ps F) (hr : Room k X.A) (hg : X.A.guards = some []) (hb : Binds X.K fd ps []) (hl : ds.length = ps.length) (I : Inv X pins σ H s) (r : Vals vs us) (A : Ab X.K U Z σ H ρ q) (ra : RpA X.K Z vs ds) (hF : F ds q = some (d, q'))
    (k : ∀ Z' H' v, Z.Le Z' → Ab X.K U Z' σ H' ρ q' → Rp X.K Z' v d → Q v H') : wpAny (model X.prog X.w) X.A (call (.ref f) us) (EP X pins σ Q) X.xe s := by
  have hu : (us ++ []).length = ps.length := by rw [List.append_nil, ← r.length, ra.length, hl]
  refine wpAny_call (codeAny_mono (G.run X.A X.stack s H ⟨us, []⟩ us vs _ Z q ds d q' hr hg I.env0 (by have := hb s us I.kIn hu; rwa [List.append_nil] at this) r hl A.toAbH.kept ra hF) fun res s' hq => ?_)
  cases res with
  | error _ => exact hq.elim
  | ok fl =>
    cases fl with
    | ret u =>
      obtain ⟨v, H', J, r', Z', l, A', rp⟩ := I.after hq
      exact ⟨v, H', J, r', k Z' H' v l (A.after l A') rp⟩
    | next => exact hq.elim
    | brk => exact hq.elim
    | cont => exact hq.elim
theorem callR_some {ρ : Ev} {q : Sx} {d : PyData} {ρ' : Ev} {q' : Sx} (h : callR F g ρ q = some (d, ρ', q')) : ∃ ds q1, g ρ q = some (ds, ρ', q1) ∧ F ds q1 = some (d, q') := by
  unfold callR at h
  cases e1 : g ρ q with
  | none => rw [e1] at h; cases h
  | some r1 =>
    obtain ⟨ds, ρ1, q1⟩ := r1
    simp only [e1] at h
    cases e2 : F ds q1 with
    | none => rw [e2] at h; cases h
    | some r2 =>
      obtain ⟨d2, q2⟩ := r2
      simp only [e2] at h
      cases h
      exact ⟨ds, q1, rfl, e2⟩
/-- f(a, ..) -/
theorem pe_user (c : CallOk X.prog X.w X.K X.mg X.base k x (es.length + 1) F) (hr : Room k X.A) (hg : X.A.guards = some []) (hgl : Gl X x) (ha : PA X (e :: es) (tAV X.K g)) (hdb : (x == ("__debug__" : Str)) = false) (hn : ∀ ρ q ds ρ' q', g ρ q = some (ds, ρ', q') → ds.length = es.length + 1)
    (he : starEach (e :: es) X.env = (false, eval e X.env) :: starEach es X.env) (hpl : (backTo pos (starEach es X.env)).any (·.1) = false) : PE X (.Call (.Name x p) (e :: es) [] pos) (tEV X.K (callR F g)) := by
  obtain ⟨f, fd, ps, G, hm, hk, hb, hps⟩ := c.ex
  refine ⟨fun pins s σ H Q I h => ?_⟩
  obtain ⟨U, Z, ρ, q, d, ρ', q', A, e1, kk⟩ := h
  obtain ⟨ds, q1, e2, e3⟩ := callR_some e1
  refine wpAny_Call_Name_kw (ld_glob I hgl hm ?_ hdb)
  refine PySem.W.callWith_K (h₀ := X.base) I.ok.mod.kin hk (thn (ha.run pos pins s σ H (fun vs H1 => ∃ Z1, Z.Le Z1 ∧ Ab X.K U Z1 σ H1 ρ' q1 ∧ RpA X.K Z1 vs ds) I ⟨U, Z, ρ, q, ds, ρ', q1, A, e2, fun Z1 H1 vs l A1 r1 => ⟨Z1, l, A1, r1⟩⟩) fun us s1 ⟨vs, H1, I1, r1, Z1, l1, A1, ra⟩ => ⟨I1.kIn, ?_⟩) he hpl
  exact user_run G hr hg hb (by rw [hps]; exact hn _ _ _ _ _ e2) I1 r1 A1 ra e3 fun Z' H' v l A' r => kk Z' H' v (l1.trans l) A' r
/-- f() -/
theorem pe_user0 (c : CallOk X.prog X.w X.K X.mg X.base k x 0 F) (hr : Room k X.A) (hg : X.A.guards = some []) (hgl : Gl X x) (hdb : (x == ("__debug__" : Str)) = false) : PE X (.Call (.Name x p) [] [] pos) (tEV X.K (callR F fun ρ q => some ([], ρ, q))) := by
  obtain ⟨f, fd, ps, G, hm, hk, hb, hps⟩ := c.ex
  refine ⟨fun pins s σ H Q I h => ?_⟩
  obtain ⟨U, Z, ρ, q, d, ρ', q', A, e1, kk⟩ := h
  obtain ⟨ds, q1, e2, e3⟩ := callR_some e1
  cases e2
  refine wpAny_Call_Name_kw (ld_glob I hgl hm ?_ hdb)
  exact PySem.W.callWith_K0 I.kIn hk (user_run (us := []) G hr hg hb (by rw [hps]; rfl) I .nil A .nil e3 kk)
end

/-! ### the law's end -/
theorem vals_of : ∀ {vs : List Value} {ns : List Int}, IntsAre vs ns → Vals (ns.map V.int) vs
  | _, _, .nil => .nil
  | _, _, .cons _ t r => .cons ⟨t, rfl⟩ (vals_of r)
theorem lawG {P : Program} {w : World} {K : PySem.W.Frag} {mg mb : Str → Option Value} {k : Nat} {fa a : Addr} {fd : FuncData} {x : Str} {F : Fn} {s₁ : Shared} {vs : List Value} {ns : List Int} {q q' : Sx}
    (KX : K.In s₁.heap) (hns : s₁.heap.Ns mainGlobals mg) (hb : s₁.heap.Ns builtinsNs mb) (hbb : ∀ x : Str, x ≠ "__name__" → mb x = bootBuiltins x) (hlim : s₁.heap.NoLimit) (hgens : s₁.gens = #[])
    (ha : s₁.heap.get? a = some { cls := .type "list", data := .seq vs.toArray }) (hi : IntsAre vs ns) (hl : ns.length ≤ sizeLine) (hr : Room k callerA)
    (hF : ∀ base : Heap, K.In base → base.Ns mainGlobals mg → FnG P w K mg base k fa fd [x] F) (hbind : ∀ (s : Shared) (u : Value), BindsTo s fd ⟨[u], []⟩ [(x, u)]) (he : F [scrD ns] q = some (.bool true, q')) :
    codeAny (model P w) callerA (.call (.ref fa) ⟨[.ref a], []⟩) (fun r s' => r = .ok (.ret (.bool true)) ∧ OldK s₁.heap s'.heap ∧ s'.os = s₁.os ∧ AllBare s'.gens) s₁ := by
  have rv := vals_of hi
  have lv : vs.length = ns.length := by rw [← rv.length, List.length_map]
  -- the script alone is in the abstract heap, and only where the module does not know it
  let o1 : Obj := { cls := .type "list", data := .seq vs.toArray }
  let H : Hp := fun b => if b = a ∧ K.lookup a = none then some (.frz o1 (.lst (ns.map V.int))) else none
  have inv : ∀ {b : Addr} {u : HO}, H b = some u → b = a ∧ K.lookup a = none ∧ u = .frz o1 (.lst (ns.map V.int)) := fun {b u} e => by
    have e : (if b = a ∧ K.lookup a = none then some (HO.frz o1 (.lst (ns.map V.int))) else none) = some u := e
    split at e
    · rename_i c
      cases e
      exact ⟨c.1, c.2, rfl⟩
    · cases e
  have ok : HOk P w H s₁.heap := fun b u e => by
    obtain ⟨rfl, _, rfl⟩ := inv e
    exact ⟨ha, by rw [List.length_map]; exact hl, vs, _, rv, ha⟩
  have scr : SqL K H a (ns.map V.int) := by
    cases hk : K.lookup a with
    | none => exact .inl (.inr ⟨o1, if_pos ⟨rfl, hk⟩⟩)
    | some o =>
      have e := KX a o hk
      rw [ha] at e
      cases e
      exact .inr ⟨_, vs.toArray, _, hk, rfl, rfl, rfl, by rw [List.size_toArray, lv]; exact hl, by simpa using rv⟩
  have free : ∀ {b : Addr} {o : Obj}, s₁.heap.get? b = some o → (∀ xs n, o.data ≠ .seq xs n) → H b = none := fun {b o} e d => by
    cases z : H b with
    | none => rfl
    | some u =>
      obtain ⟨rfl, _, _⟩ := inv z
      rw [ha] at e
      cases e
      exact absurd rfl (d _ _)
  have ns_of : ∀ {b : Addr} {m : Str → Option Value}, s₁.heap.Ns b m → (hidT s₁.heap H).Ns b m := fun {b m} h => by
    obtain ⟨o, es, ep, e, d, r⟩ := h
    exact ⟨o, es, ep, hidT_get e (free e fun xs n z => by rw [d] at z; cases z), d, r⟩
  have kb : K.In (hidT s₁.heap H) := fun b o e => hidT_get (KX b o e) (by
    cases z : H b with
    | none => rfl
    | some u =>
      obtain ⟨rfl, z2, _⟩ := inv z
      rw [z2] at e
      cases e)
  have md : L2.Mod K mg (hidT s₁.heap H) := ⟨kb, ns_of hns, ⟨mb, ns_of hb, hbb⟩, let ⟨m, h1, h2⟩ := hlim; ⟨m, ns_of h1, h2⟩⟩
  have env0 : Env0 P w K mg (hidT s₁.heap H) callerA [] s₁ H := ⟨rfl, md, fun b o e => of_hidT e, Nat.le_of_eq (hidT_size _ _), trivial, (fun b hb => by cases hb), ok, AllBare.of_eq hgens⟩
  have AH : AbH K (fun _ => none) ⟨H, none⟩ H q := ⟨fun _ _ e => e, (fun _ _ e => by cases e), (fun _ _ e => by cases e), fun _ => rfl⟩
  refine codeAny_mono ((hF _ kb (ns_of hns)).run callerA [] s₁ H ⟨[.ref a], []⟩ [.ref a] [.ref a] _ _ q _ _ q' hr rfl env0 (hbind s₁ (.ref a)) (.cons rfl .nil) rfl AH (.cons (.scr scr) .nil) he) fun r s' h => ?_
  cases r with
  | error _ => exact h.elim
  | ok fl =>
    cases fl with
    | next => exact h.elim
    | brk => exact h.elim
    | cont => exact h.elim
    | ret u =>
      obtain ⟨v, H', os, bare, un, hok', ru, Z', l, A', rp⟩ := h
      obtain rfl := rp.bool_inv
      obtain rfl : u = Value.bool true := ru
      refine ⟨rfl, OldK.of_keep fun b o e => ?_, os, bare⟩
      cases z : H b with
      | none => exact un.keep b o e z (fun z => by cases z) (fun z => by cases z)
      | some u =>
        obtain ⟨rfl, _, rfl⟩ := inv z
        rw [ha] at e
        cases e
        exact (hok' b _ (un.frzs b _ _ z)).1
/-- the goal that the head leaves -/
theorem walkG {l : PySem.W.OpenLaw} {n k : Nat} {q : Program} {loose : List Str} {XP : (Str → Option Value) → Heap → Prop} {YP : World → Heap → Prop} {d : DefRec} {K : Params → PySem.W.Frag} {F : Fn} {x : Str} {q0 : Sx}
    (hn : l.most = some n) (hn2 : n ≤ sizeLine) (hdf : d.params.defaults = []) (hr : Room k callerA) (hY : ∀ (w : World) (h : Heap), YP w h → (K w.params).In h)
    (hF : ∀ (w : World) (mg : Str → Option Value) (fa : Addr) (h : Heap), (K w.params).In h → h.Ns mainGlobals mg → mg d.name = some (.ref fa) →
      ∃ fd : FuncData, (∀ (s : Shared) (u : Value), BindsTo s fd ⟨[u], []⟩ [(x, u)]) ∧ ∀ base : Heap, (K w.params).In base → base.Ns mainGlobals mg → FnG l.prog w (K w.params) mg base k fa fd [x] F)
    (he : ∀ ns : List Int, ns.length ≤ n → ∃ q', F [scrD ns] q0 = some (.bool true, q')) :
    PySem.W.WalkO q loose XP YP l.row.toRowW d [] (fun f vs => PySem.call f vs) := by
  refine Att.attach_call hn hdf fun w s₀ s₁ mg mb fa o pm cd doc a vs ns G Y ho hd hcd hmg hobj hints hlen hgens => ?_
  obtain ⟨fd, hb, h2⟩ := hF w mg fa _ (hY w _ Y) G.T.g hmg
  obtain ⟨q', e⟩ := he ns hlen
  exact lawG (hY w _ Y) G.T.g G.T.b G.T.builtins G.T.nolimit hgens hobj hints (Nat.le_trans hlen hn2) hr h2 hb e
end Sb

set_option Elab.async false
set_option autoImplicit false
set_option linter.all false
set_option maxRecDepth 100000
set_option maxHeartbeats 4000000
/-! SbI: expressions as data: what they are, what they come to. -/
namespace Sb
open PySem PySem.Spec PyProof.Rows L2

inductive BO | add | sub | mul | div | mod | shl | pow
inductive CO | lt | le | gt | ge | eq | ne | is | isn | inn | nin
inductive BF | len | list | tuple | abs | int | sum | any | all | max | min | sorted | repr
def BO.op : BO → Operator
  | .add => .Add
  | .sub => .Sub
  | .mul => .Mult
  | .div => .FloorDiv
  | .mod => .Mod
  | .shl => .LShift
  | .pow => .Pow
def BO.sem : BO → PyData → PyData → Option PyData
  | .add => addS
  | .sub => subS
  | .mul => mulS
  | .div => divS
  | .mod => modS
  | .shl => shlS
  | .pow => powS
def CO.op : CO → CmpOp
  | .lt => .Lt
  | .le => .LtE
  | .gt => .Gt
  | .ge => .GtE
  | .eq => .Eq
  | .ne => .NotEq
  | .is => .Is
  | .isn => .IsNot
  | .inn => .In
  | .nin => .NotIn
def CO.sem : CO → PyData → PyData → Option PyData
  | .lt => ordS fun i j => decide (i < j)
  | .le => ordS fun i j => decide (i ≤ j)
  | .gt => ordS fun i j => decide (j < i)
  | .ge => ordS fun i j => decide (j ≤ i)
  | .eq => eqS
  | .ne => notS eqS
  | .is => isS
  | .isn => notS isS
  | .inn => inS
  | .nin => notS inS
def BF.name : BF → String
  | .len => "len"
  | .list => "list"
  | .tuple => "tuple"
  | .abs => "abs"
  | .int => "int"
  | .sum => "sum"
  | .any => "any"
  | .all => "all"
  | .max => "max"
  | .min => "min"
  | .sorted => "sorted"
  | .repr => "repr"
noncomputable def BF.sem : BF → List PyData → Option PyData
  | .len => lenS
  | .list => listS
  | .tuple => tupleS
  | .abs => absS
  | .int => intS
  | .sum => sumS
  | .any => anyS
  | .all => allS
  | .max => maxS
  | .min => minS
  | .sorted => sortS
  | .repr => reprS

mutual
inductive IE
  | var (i : Nat)
  | cst (d : PyData)
  | tup (es : IEs)
  | lst (es : IEs)
  | bin (o : BO) (a b : IE)
  | neg (a : IE)
  | nt (a : IE)
  | cmp (o : CO) (a b : IE)
  | ch2 (o o' : CO) (a b c : IE)
  | an (a b : IE)
  | or (a b : IE)
  | one (a : IE)
  | ite (c a b : IE)
  | ix (a b : IE)
  | sl (a : IE) (lo hi : IO)
  | rv (a : IE)
  | fn (f : BF) (es : IEs)
  | isa (T : String) (a : IE)
  | call (i : Nat) (es : IEs)
  | comp (own : List (Str × Nat)) (tg : IT) (it : II) (c : IO) (elt : IE)
  | scp (a : IE)
  | lrg (t : Bool) (a : IO) (b : IE)
  | pop (i : Nat)
  | popAt (i : Nat) (e : IE)
inductive IEs
  | nil
  | cons (e : IE) (es : IEs)
inductive IO
  | none
  | some (e : IE)
inductive II
  | seq (e : IE)
  | rg (a : IO) (b : IE)
  | rg3 (a b c : IE)
  | enum (e : IE)
  | zip (a b : IE)
end

/-! ### what they come to -/
def varR (i : Nat) : Run := fun ρ q => match ρ[i]? with
  | some (some (.val d)) => some (d, ρ, q)
  | some (some (.own (.list ds))) => some (.list ds, ρ.set i (some (.val (.list ds))), q)
  | _ => none
def cstR (d : PyData) : Run := fun ρ q => some (d, ρ, q)
def f1 (sem : PyData → Option PyData) (f : Run) : Run := fun ρ q => match f ρ q with
  | none => none
  | some (x, ρ1, q1) => match sem x with
    | none => none
    | some d => some (d, ρ1, q1)
def liftA (sem : List PyData → Option PyData) (g : RunA) : Run := fun ρ q => match g ρ q with
  | none => none
  | some (xs, ρ1, q1) => match sem xs with
    | none => none
    | some d => some (d, ρ1, q1)
def nilR : RunA := fun ρ q => some ([], ρ, q)
def consR (f : Run) (g : RunA) : RunA := fun ρ q => match f ρ q with
  | none => none
  | some (x, ρ1, q1) => match g ρ1 q1 with
    | none => none
    | some (xs, ρ2, q2) => some (x :: xs, ρ2, q2)
def tupD (ds : List PyData) : Option PyData := if ds.length ≤ 1000000 then some (.tuple ds) else none
def lstD (ds : List PyData) : Option PyData := if ds.length ≤ 1000000 then some (.list ds) else none
def negS : PyData → Option PyData
  | .int i => some (.int (-i))
  | _ => none
def ntS : PyData → Option PyData
  | .bool b => some (.bool (!b))
  | _ => none
def anR (f g : Run) : Run := fun ρ q => match f ρ q with
  | some (.bool true, ρ1, q1) => g ρ1 q1
  | some (.bool false, ρ1, q1) => some (.bool false, ρ1, q1)
  | _ => none
def orR (f g : Run) : Run := fun ρ q => match f ρ q with
  | some (.bool true, ρ1, q1) => some (.bool true, ρ1, q1)
  | some (.bool false, ρ1, q1) => g ρ1 q1
  | _ => none
def iteR (c : RunT) (f g : Run) : Run := fun ρ q => match c ρ q with
  | some (true, ρ1, q1) => f ρ1 q1
  | some (false, ρ1, q1) => g ρ1 q1
  | none => none
def ch2R (s s' : PyData → PyData → Option PyData) (f g h : Run) : Run := fun ρ q => match f ρ q with
  | none => none
  | some (x, ρ1, q1) => match g ρ1 q1 with
    | none => none
    | some (y, ρ2, q2) => match s x y with
      | some (.bool true) => (match h ρ2 q2 with
        | none => none
        | some (z, ρ3, q3) => match s' y z with
          | none => none
          | some d => some (d, ρ3, q3))
      | some (.bool false) => some (.bool false, ρ2, q2)
      | _ => none
abbrev RunO := Ev → Sx → Option (Option Int × Ev × Sx)
def noneO : RunO := fun ρ q => some (none, ρ, q)
def someO (f : Run) : RunO := fun ρ q => match f ρ q with
  | some (.int i, ρ1, q1) => some (some i, ρ1, q1)
  | _ => none
def slR (f : Run) (lo hi : RunO) : Run := fun ρ q => match f ρ q with
  | none => none
  | some (x, ρ1, q1) => match lo ρ1 q1 with
    | none => none
    | some (l, ρ2, q2) => match hi ρ2 q2 with
      | none => none
      | some (u, ρ3, q3) => match slS x l u with
        | none => none
        | some d => some (d, ρ3, q3)
def frzE (ρ : Ev) : Ev := ρ.map fun
  | some (.own d) => some (.val d)
  | x => x
/-- what is read leaves one's own as it is -/
def scpR (f : Run) : Run := fun ρ q => match f (frzE ρ) q with
  | none => none
  | some (d, _, q1) => if lfr d = true then some (d, ρ, q1) else none
def rngS (lo hi : Int) : Option (List PyData) := if -1000000000 ≤ lo ∧ hi ≤ 1000000000 ∧ hi - lo ≤ 1000000 ∧ lo ≤ 1000000000 ∧ -1000000000 ≤ hi then some (rngD lo (hi - lo).toNat) else none
/-- a range's items -/
def rgR (a : RunO) (b : Run) : RunA := fun ρ q => match a ρ q with
  | none => none
  | some (l, ρ1, q1) => match b ρ1 q1 with
    | some (.int hi, ρ2, q2) => (match rngS (l.getD 0) hi with
      | none => none
      | some ds => some (ds, ρ2, q2))
    | _ => none
def stepN (lo hi c : Int) : Nat := (Builtin.Range.rangeSize lo hi c).toNat
def rng3S (lo hi c : Int) : Option (List PyData) := if c ≠ 0 ∧ c.natAbs ≤ 1000000 ∧ Builtin.Range.small lo hi c = true ∧ stepN lo hi c ≤ 1000000 then some (rngC lo c (stepN lo hi c)) else none
def rg3R (a b c : Run) : RunA := fun ρ q => match a ρ q with
  | some (.int lo, ρ1, q1) => (match b ρ1 q1 with
    | some (.int hi, ρ2, q2) => (match c ρ2 q2 with
      | some (.int s, ρ3, q3) => (match rng3S lo hi s with
        | none => none
        | some ds => some (ds, ρ3, q3))
      | _ => none)
    | _ => none)
  | _ => none
def seqR (f : Run) : RunA := fun ρ q => match f ρ q with
  | some (.list ds, ρ1, q1) => some (ds, ρ1, q1)
  | some (.tuple ds, ρ1, q1) => some (ds, ρ1, q1)
  | _ => none
def enumR (f : Run) : RunA := fun ρ q => match seqR f ρ q with
  | none => none
  | some (ds, ρ1, q1) => some (enumD ds, ρ1, q1)
def zipS : PyData → PyData → Option (List PyData)
  | .list a, .list b => some (zipD a b)
  | .tuple a, .tuple b => some (zipD a b)
  | _, _ => none
def zipR (f g : Run) : RunA := fun ρ q => match f ρ q with
  | none => none
  | some (x, ρ1, q1) => match g ρ1 q1 with
    | none => none
    | some (y, ρ2, q2) => match zipS x y with
      | none => none
      | some ds => some (ds, ρ2, q2)
def lrgR (t : Bool) (g : RunA) : Run := fun ρ q => match g ρ q with
  | none => none
  | some (ds, ρ1, q1) => some (if t then .tuple ds else .list ds, ρ1, q1)
def yesR : RunT := fun ρ q => some (true, ρ, q)
def popR (i : Nat) : Run := fun ρ q => match ρ[i]? with
  | some (some (.own (.list ds))) => (match ds[ds.length - 1]? with
    | none => none
    | some d => some (d, ρ.set i (some (.own (.list ds.dropLast))), q))
  | _ => none
def isOwn : Option (Option SV) → Bool
  | some (some (.own (.list _))) => true
  | _ => false
def popAtR (i : Nat) (f : Run) : Run := fun ρ q => match f ρ q with
  | some (.int k, ρ1, q1) => (match ρ1[i]? with
    | some (some (.own (.list ds))) => if isOwn ρ[i]? = false then none else if 0 ≤ k ∧ k ≤ 1000000 then (match ds[k.toNat]? with
      | none => none
      | some d => some (d, ρ1.set i (some (.own (.list (ds.eraseIdx k.toNat)))), q1)) else none
    | _ => none)
  | _ => none

mutual
noncomputable def runE (fs : List Fn) : IE → Run
  | .var i => varR i
  | .cst d => cstR d
  | .tup es => liftA tupD (runEs fs es)
  | .lst es => liftA lstD (runEs fs es)
  | .bin o a b => f2 o.sem (runE fs a) (runE fs b)
  | .neg a => f1 negS (runE fs a)
  | .nt a => f1 ntS (runE fs a)
  | .cmp o a b => f2 o.sem (runE fs a) (runE fs b)
  | .ch2 o o' a b c => ch2R o.sem o'.sem (runE fs a) (runE fs b) (runE fs c)
  | .an a b => anR (runE fs a) (runE fs b)
  | .or a b => orR (runE fs a) (runE fs b)
  | .one a => runE fs a
  | .ite c a b => iteR (fT (runE fs c)) (runE fs a) (runE fs b)
  | .ix a b => f2 ixS (runE fs a) (runE fs b)
  | .sl a lo hi => slR (runE fs a) (runO fs lo) (runO fs hi)
  | .rv a => f1 revS (runE fs a)
  | .fn f es => liftA f.sem (runEs fs es)
  | .isa T a => f1 (isaS T) (runE fs a)
  | .call i es => callR (fs.getD i fun _ _ => none) (runEs fs es)
  | .comp own tg it c elt => compR (own.map (·.2)) (runI fs it) (asg tg) (runC fs c) (runE fs elt)
  | .scp a => scpR (runE fs a)
  | .lrg t a b => lrgR t (rgR (runO fs a) (runE fs b))
  | .pop i => popR i
  | .popAt i e => popAtR i (runE fs e)
noncomputable def runEs (fs : List Fn) : IEs → RunA
  | .nil => nilR
  | .cons e es => consR (runE fs e) (runEs fs es)
noncomputable def runO (fs : List Fn) : IO → RunO
  | .none => noneO
  | .some e => someO (runE fs e)
noncomputable def runC (fs : List Fn) : IO → RunT
  | .none => yesR
  | .some e => fT (runE fs e)
noncomputable def runI (fs : List Fn) : II → RunA
  | .seq e => seqR (runE fs e)
  | .rg a b => rgR (runO fs a) (runE fs b)
  | .rg3 a b c => rg3R (runE fs a) (runE fs b) (runE fs c)
  | .enum e => enumR (runE fs e)
  | .zip a b => zipR (runE fs a) (runE fs b)
end
end Sb

set_option Elab.async false
set_option autoImplicit false
set_option linter.all false
set_option maxRecDepth 100000
set_option maxHeartbeats 4000000
/-! SbJ: the readings of expressions give what is said of data. -/
namespace Sb
open PySem PySem.Spec PyProof.Rows L2

/-! ### the readings -/
section
variable {K : PySem.W.Frag} {σ : Sg} {H : Hp} {Q : VK}
theorem w_var {i : Nat} (h : tEV K (varR i) σ H Q) : tVar i σ H Q := by
  obtain ⟨U, Z, ρ, q, d, ρ', q', A, e, k⟩ := h
  unfold varR at e
  split at e
  · rename_i d0 he
    cases e
    obtain ⟨v, hv, r⟩ := A.slot i _ he
    exact ⟨v, hv, k Z H v (.refl Z) A r⟩
  · rename_i ds he
    cases e
    obtain ⟨Z', v, l, hv, A', r⟩ := A.slotFreeze he
    exact ⟨v, hv, k Z' H v l A' r⟩
  · cases e
/-- a constant's value -/
def cstV : PyData → Option V
  | .none => some .non
  | .bool b => some (.bl b)
  | .int i => some (.int i)
  | .str x => some (.str x)
  | _ => none
theorem w_cst {d : PyData} {v : V} (hv : cstV d = some v) (h : tEV K (cstR d) σ H Q) : tC v σ H Q := by
  obtain ⟨U, Z, ρ, q, d', ρ', q', A, e, k⟩ := h
  cases e
  refine k Z H v (.refl Z) A ?_
  cases d <;> cases hv
  · exact .non
  · exact .bl _
  · exact .int _
  · exact .str _
theorem f1_some {sem : PyData → Option PyData} {f : Run} {ρ : Ev} {q : Sx} {d : PyData} {ρ' : Ev} {q' : Sx} (h : f1 sem f ρ q = some (d, ρ', q')) : ∃ x, f ρ q = some (x, ρ', q') ∧ sem x = some d := by
  unfold f1 at h
  split at h
  · cases h
  · split at h
    · cases h
    · cases h; exact ⟨_, by assumption, by assumption⟩
theorem liftA_some {sem : List PyData → Option PyData} {f : RunA} {ρ : Ev} {q : Sx} {d : PyData} {ρ' : Ev} {q' : Sx} (h : liftA sem f ρ q = some (d, ρ', q')) : ∃ x, f ρ q = some (x, ρ', q') ∧ sem x = some d := by
  unfold liftA at h
  split at h
  · cases h
  · split at h
    · cases h
    · cases h; exact ⟨_, by assumption, by assumption⟩
theorem w_f1 {sem : PyData → Option PyData} {f : Run} {r : V → Hp → VK → Prop}
    (hs : ∀ {U : Hp} {Z : Fz} {σ : Sg} {H : Hp} {ρ : Ev} {q : Sx} {x : V} {dx d : PyData} {Q : VK}, Ab K U Z σ H ρ q → Rp K Z x dx → sem dx = some d → (∀ Z' H' v, Z.Le Z' → Ab K U Z' σ H' ρ q → Rp K Z' v d → Q v H') → r x H Q)
    (h : tEV K (f1 sem f) σ H Q) : tUn r (tEV K f) σ H Q := by
  obtain ⟨U, Z, ρ, q, d, ρ', q', A, e, k⟩ := h
  obtain ⟨x, e1, e2⟩ := f1_some e
  exact ⟨U, Z, ρ, q, x, ρ', q', A, e1, fun Z1 H1 v l A1 r1 => hs A1 r1 e2 fun Z2 H2 u l2 A2 r2 => k Z2 H2 u (l.trans l2) A2 r2⟩
theorem w_lift {sem : List PyData → Option PyData} {f : RunA} {r : List V → Hp → VK → Prop} (hs : CallS K r sem) (h : tEV K (liftA sem f) σ H Q) : tCB r (tAV K f) σ H Q := by
  obtain ⟨U, Z, ρ, q, d, ρ', q', A, e, k⟩ := h
  obtain ⟨x, e1, e2⟩ := liftA_some e
  exact ⟨U, Z, ρ, q, x, ρ', q', A, e1, fun Z1 H1 v l A1 r1 => hs A1 r1 e2 fun Z2 H2 u l2 A2 r2 => k Z2 H2 u (l.trans l2) A2 r2⟩
theorem tup_S : CallS K (fun xs H Q => xs.length ≤ sizeLine ∧ ∀ p, H p = none → Q (.ref p) (upd H p (.tup xs))) tupD := by
  intro U Z σ H ρ q xs ds d Q A r e k
  unfold tupD at e
  split at e
  · cases e
    refine ⟨by rw [r.length]; exact lim_line (by assumption), fun p hp => A.newT hp r k⟩
  · cases e
theorem lst_S : CallS K (fun xs H Q => xs.length ≤ sizeLine ∧ ∀ p, H p = none → Q (.ref p) (upd H p (.lst xs))) lstD := by
  intro U Z σ H ρ q xs ds d Q A r e k
  unfold lstD at e
  split at e
  · cases e
    refine ⟨by rw [r.length]; exact lim_line (by assumption), fun p hp => A.newL hp r k⟩
  · cases e
theorem w_nil {Qa : List V → Hp → Prop} (h : tAV K nilR σ H Qa) : tNil σ H Qa := by
  obtain ⟨U, Z, ρ, q, d, ρ', q', A, e, k⟩ := h
  cases e
  exact k Z H [] (.refl Z) A .nil
theorem consR_some {f : Run} {g : RunA} {ρ : Ev} {q : Sx} {ds : List PyData} {ρ' : Ev} {q' : Sx} (h : consR f g ρ q = some (ds, ρ', q')) : ∃ x ρ1 q1 xs, f ρ q = some (x, ρ1, q1) ∧ g ρ1 q1 = some (xs, ρ', q') ∧ ds = x :: xs := by
  unfold consR at h
  split at h
  · cases h
  · split at h
    · cases h
    · cases h; exact ⟨_, _, _, _, by assumption, by assumption, rfl⟩
theorem w_cons {f : Run} {g : RunA} {Qa : List V → Hp → Prop} (h : tAV K (consR f g) σ H Qa) : tCons (tEV K f) (tAV K g) σ H Qa := by
  obtain ⟨U, Z, ρ, q, d, ρ', q', A, e, k⟩ := h
  obtain ⟨x, ρ1, q1, xs, e1, e2, rfl⟩ := consR_some e
  exact ⟨U, Z, ρ, q, x, ρ1, q1, A, e1, fun Z1 H1 v l A1 r1 => ⟨U, Z1, ρ1, q1, xs, ρ', q', A1, e2, fun Z2 H2 vs l2 A2 r2 => k Z2 H2 (v :: vs) (l.trans l2) A2 (.cons (r1.mono l2) r2)⟩⟩
/-! tests -/
theorem w_an {f g : Run} (h : tEV K (anR f g) σ H Q) : tAndV (tEV K f) (tEV K g) σ H Q := by
  obtain ⟨U, Z, ρ, q, d, ρ', q', A, e, k⟩ := h
  unfold anR at e
  split at e
  · rename_i ρ1 q1 e1
    refine ⟨U, Z, ρ, q, .bool true, ρ1, q1, A, e1, fun Z1 H1 v l A1 r1 => ⟨true, r1.bool_inv, ?_⟩⟩
    refine iteT ?_
    exact ⟨U, Z1, ρ1, q1, d, ρ', q', A1, e, fun Z2 H2 v l2 A2 r2 => k Z2 H2 v (l.trans l2) A2 r2⟩
  · rename_i ρ1 q1 e1
    cases e
    refine ⟨U, Z, ρ, q, .bool false, ρ', q', A, e1, fun Z1 H1 v l A1 r1 => ⟨false, r1.bool_inv, ?_⟩⟩
    refine iteF ?_
    exact k Z1 H1 _ l A1 (.bl false)
  · cases e
theorem w_or {f g : Run} (h : tEV K (orR f g) σ H Q) : tOrV (tEV K f) (tEV K g) σ H Q := by
  obtain ⟨U, Z, ρ, q, d, ρ', q', A, e, k⟩ := h
  unfold orR at e
  split at e
  · rename_i ρ1 q1 e1
    cases e
    refine ⟨U, Z, ρ, q, .bool true, ρ', q', A, e1, fun Z1 H1 v l A1 r1 => ⟨true, r1.bool_inv, ?_⟩⟩
    refine iteT ?_
    exact k Z1 H1 _ l A1 (.bl true)
  · rename_i ρ1 q1 e1
    refine ⟨U, Z, ρ, q, .bool false, ρ1, q1, A, e1, fun Z1 H1 v l A1 r1 => ⟨false, r1.bool_inv, ?_⟩⟩
    refine iteF ?_
    exact ⟨U, Z1, ρ1, q1, d, ρ', q', A1, e, fun Z2 H2 v l2 A2 r2 => k Z2 H2 v (l.trans l2) A2 r2⟩
  · cases e
variable {Qb : Bool → Hp → Prop}
theorem w_anT {f g : Run} (h : tTV K (fT (anR f g)) σ H Qb) : tAnd (tTV K (fT f)) (tTV K (fT g)) σ H Qb := by
  obtain ⟨U, Z, ρ, q, d, ρ', q', A, e, k⟩ := h
  have e := fT_some e
  unfold anR at e
  split at e
  · rename_i ρ1 q1 e1
    refine ⟨U, Z, ρ, q, true, ρ1, q1, A, by unfold fT; rw [e1], fun Z1 H1 l A1 => ?_⟩
    refine iteT ?_
    exact ⟨U, Z1, ρ1, q1, d, ρ', q', A1, by unfold fT; rw [e], fun Z2 H2 l2 A2 => k Z2 H2 (l.trans l2) A2⟩
  · rename_i ρ1 q1 e1
    cases e
    refine ⟨U, Z, ρ, q, false, ρ', q', A, by unfold fT; rw [e1], fun Z1 H1 l A1 => ?_⟩
    refine iteF ?_
    exact k Z1 H1 l A1
  · cases e
theorem w_orT {f g : Run} (h : tTV K (fT (orR f g)) σ H Qb) : tOr (tTV K (fT f)) (tTV K (fT g)) σ H Qb := by
  obtain ⟨U, Z, ρ, q, d, ρ', q', A, e, k⟩ := h
  have e := fT_some e
  unfold orR at e
  split at e
  · rename_i ρ1 q1 e1
    cases e
    refine ⟨U, Z, ρ, q, true, ρ', q', A, by unfold fT; rw [e1], fun Z1 H1 l A1 => ?_⟩
    refine iteT ?_
    exact k Z1 H1 l A1
  · rename_i ρ1 q1 e1
    refine ⟨U, Z, ρ, q, false, ρ1, q1, A, by unfold fT; rw [e1], fun Z1 H1 l A1 => ?_⟩
    refine iteF ?_
    exact ⟨U, Z1, ρ1, q1, d, ρ', q', A1, by unfold fT; rw [e], fun Z2 H2 l2 A2 => k Z2 H2 (l.trans l2) A2⟩
  · cases e
theorem ntS_some {x d : PyData} (h : ntS x = some d) : ∃ b, x = .bool b ∧ d = .bool (!b) := by
  cases x <;> simp [ntS] at h
  exact ⟨_, rfl, h.symm⟩
theorem w_nt {f : Run} (h : tEV K (f1 ntS f) σ H Q) : tNotV (tEV K f) σ H Q := by
  obtain ⟨U, Z, ρ, q, d, ρ', q', A, e, k⟩ := h
  obtain ⟨x, e1, e2⟩ := f1_some e
  obtain ⟨b, rfl, rfl⟩ := ntS_some e2
  exact ⟨U, Z, ρ, q, .bool b, ρ', q', A, e1, fun Z1 H1 v l A1 r1 => ⟨b, r1.bool_inv, k Z1 H1 _ l A1 (.bl _)⟩⟩
theorem w_ntT {f : Run} (h : tTV K (fT (f1 ntS f)) σ H Qb) : tNot (tTV K (fT f)) σ H Qb := by
  obtain ⟨U, Z, ρ, q, d, ρ', q', A, e, k⟩ := h
  obtain ⟨x, e1, e2⟩ := f1_some (fT_some e)
  obtain ⟨b, rfl, e3⟩ := ntS_some e2
  cases e3
  exact ⟨U, Z, ρ, q, b, ρ', q', A, by unfold fT; rw [e1], fun Z1 H1 l A1 => k Z1 H1 l A1⟩
theorem w_ite {c : RunT} {f g : Run} (h : tEV K (iteR c f g) σ H Q) : tIf (tTV K c) (tEV K f) (tEV K g) σ H Q := by
  obtain ⟨U, Z, ρ, q, d, ρ', q', A, e, k⟩ := h
  unfold iteR at e
  split at e
  · rename_i ρ1 q1 e1
    refine ⟨U, Z, ρ, q, true, ρ1, q1, A, e1, fun Z1 H1 l A1 => ?_⟩
    refine iteT ?_
    exact ⟨U, Z1, ρ1, q1, d, ρ', q', A1, e, fun Z2 H2 v l2 A2 r2 => k Z2 H2 v (l.trans l2) A2 r2⟩
  · rename_i ρ1 q1 e1
    refine ⟨U, Z, ρ, q, false, ρ1, q1, A, e1, fun Z1 H1 l A1 => ?_⟩
    refine iteF ?_
    exact ⟨U, Z1, ρ1, q1, d, ρ', q', A1, e, fun Z2 H2 v l2 A2 r2 => k Z2 H2 v (l.trans l2) A2 r2⟩
  · cases e
theorem w_ch2 {s s' : PyData → PyData → Option PyData} {r r' : R2} {f g h : Run} (hs : OpS K r s) (hs' : OpS K r' s') (w : tEV K (ch2R s s' f g h) σ H Q) : tChain r r' (tEV K f) (tEV K g) (tEV K h) σ H Q := by
  obtain ⟨U, Z, ρ, q, d, ρ', q', A, e, k⟩ := w
  unfold ch2R at e
  split at e
  · cases e
  rename_i x ρ1 q1 e1
  split at e
  · cases e
  rename_i y ρ2 q2 e2
  refine ⟨U, Z, ρ, q, x, ρ1, q1, A, e1, fun Z1 H1 v1 l1 A1 r1 => ⟨U, Z1, ρ1, q1, y, ρ2, q2, A1, e2, fun Z2 H2 v2 l2 A2 r2 => ?_⟩⟩
  split at e
  · rename_i e3
    split at e
    · cases e
    rename_i z ρ3 q3 e4
    split at e
    · cases e
    rename_i d' e5
    cases e
    refine hs A2 (r1.mono l2) r2 e3 fun Z3 H3 v3 l3 A3 r3 => ⟨true, r3.bool_inv, ?_⟩
    refine iteT ?_
    exact ⟨U, Z3, ρ2, q2, z, ρ', q', A3, e4, fun Z4 H4 v4 l4 A4 r4 => hs' A4 (r2.mono (l3.trans l4)) r4 e5 fun Z5 H5 v5 l5 A5 r5 => k Z5 H5 v5 (l1.trans (l2.trans (l3.trans (l4.trans l5)))) A5 r5⟩
  · rename_i e3
    cases e
    refine hs A2 (r1.mono l2) r2 e3 fun Z3 H3 v3 l3 A3 r3 => ⟨false, r3.bool_inv, ?_⟩
    refine iteF ?_
    exact k Z3 H3 _ (l1.trans (l2.trans l3)) A3 (.bl false)
  · cases e
/-- a reading by values as a test's -/
theorem w_test {t : TE} {f : Run} (w : ∀ Q, tEV K f σ H Q → t σ H Q) (h : tTV K (fT f) σ H Qb) : tTest t σ H Qb := by
  obtain ⟨U, Z, ρ, q, c, ρ', q', A, e, k⟩ := h
  exact w _ ⟨U, Z, ρ, q, .bool c, ρ', q', A, fT_some e, fun Z' H' v l A' r => ⟨c, r.bool_inv, k Z' H' l A'⟩⟩

/-! slices -/
def tOV (K : PySem.W.Frag) (f : RunO) : TO := fun σ H Qo => ∃ (U : Hp) (Z : Fz) (ρ : Ev) (q : Sx) (o : Option Int) (ρ' : Ev) (q' : Sx), Ab K U Z σ H ρ q ∧ f ρ q = some (o, ρ', q') ∧ ∀ Z' H', Z.Le Z' → Ab K U Z' σ H' ρ' q' → Qo o H'
theorem w_noneO {Qo : Option Int → Hp → Prop} (h : tOV K noneO σ H Qo) : tNoPart σ H Qo := by
  obtain ⟨U, Z, ρ, q, o, ρ', q', A, e, k⟩ := h
  cases e
  exact k Z H (.refl Z) A
theorem someO_some {f : Run} {ρ : Ev} {q : Sx} {o : Option Int} {ρ' : Ev} {q' : Sx} (e : someO f ρ q = some (o, ρ', q')) : ∃ i, o = some i ∧ f ρ q = some (.int i, ρ', q') := by
  unfold someO at e
  split at e
  · cases e; exact ⟨_, rfl, by assumption⟩
  · cases e
theorem w_someO {f : Run} {Qo : Option Int → Hp → Prop} (h : tOV K (someO f) σ H Qo) : tPart (tEV K f) σ H Qo := by
  obtain ⟨U, Z, ρ, q, o, ρ', q', A, e, k⟩ := h
  obtain ⟨i, rfl, e1⟩ := someO_some e
  exact ⟨U, Z, ρ, q, _, ρ', q', A, e1, fun Z1 H1 v l A1 r1 => ⟨i, r1.int_inv, k Z1 H1 l A1⟩⟩
theorem w_sl {f : Run} {lo hi : RunO} (h : tEV K (slR f lo hi) σ H Q) : tSl (fun x l u H Q => rSlL K x l u H Q ∨ rSlA K x l u H Q) (tEV K f) (tOV K lo) (tOV K hi) σ H Q := by
  obtain ⟨U, Z, ρ, q, d, ρ', q', A, e, k⟩ := h
  unfold slR at e
  split at e
  · cases e
  rename_i x ρ1 q1 e1
  split at e
  · cases e
  rename_i l ρ2 q2 e2
  split at e
  · cases e
  rename_i u ρ3 q3 e3
  split at e
  · cases e
  rename_i d' e4
  cases e
  exact ⟨U, Z, ρ, q, x, ρ1, q1, A, e1, fun Z1 H1 v1 l1 A1 r1 => ⟨U, Z1, ρ1, q1, l, ρ2, q2, A1, e2, fun Z2 H2 l2 A2 => ⟨U, Z2, ρ2, q2, u, ρ', q', A2, e3, fun Z3 H3 l3 A3 =>
    sl_S A3 (r1.mono (l2.trans l3)) e4 fun Z4 H4 v l4 A4 r4 => k Z4 H4 v (l1.trans (l2.trans (l3.trans l4))) A4 r4⟩⟩⟩
theorem w_rv {f : Run} (h : tEV K (f1 revS f) σ H Q) : tRevA K (tEV K f) σ H Q := by
  obtain ⟨U, Z, ρ, q, d, ρ', q', A, e, k⟩ := h
  obtain ⟨x, e1, e2⟩ := f1_some e
  refine ⟨U, Z, ρ, q, x, ρ', q', A, e1, fun Z1 H1 v l A1 r1 => ?_⟩
  unfold revS at e2
  split at e2
  · cases e2
    obtain ⟨a, xs, rfl, h1, r2⟩ := r1.list_inv
    exact ⟨a, xs, rfl, .inl ⟨SqL.of (A1.fro _ _ h1), fun p hp => A1.newL hp r2.reverse fun Z' H' v l' A' r' => k Z' H' v (l.trans l') A' r'⟩⟩
  · cases e2
    obtain ⟨a, xs, rfl, h1, r2⟩ := r1.tuple_inv
    exact ⟨a, xs, rfl, .inr ⟨SqT.of (A1.fro _ _ h1), fun p hp => A1.newT hp r2.reverse fun Z' H' v l' A' r' => k Z' H' v (l.trans l') A' r'⟩⟩
  · cases e2
theorem w_isa {T : String} {f : Run} (h : tEV K (f1 (isaS T) f) σ H Q) : tCB (rIsi K) (tCons (tEV K f) (tCons (tC (.ty T)) tNil)) σ H Q := by
  obtain ⟨U, Z, ρ, q, d, ρ', q', A, e, k⟩ := h
  obtain ⟨x, e1, e2⟩ := f1_some e
  exact ⟨U, Z, ρ, q, x, ρ', q', A, e1, fun Z1 H1 v l A1 r1 => isa_S A1 r1 e2 fun Z' H' v l' A' r' => k Z' H' v (l.trans l') A' r'⟩
theorem w_neg {f : Run} (h : tEV K (f1 negS f) σ H Q) : tUn (rU fun i => .int (-i)) (tEV K f) σ H Q := by
  refine w_f1 (sem := negS) (fun {U Z σ H ρ q x dx d Q} A r e k => ?_) h
  cases dx <;> simp [negS] at e
  subst e
  obtain rfl := r.int_inv
  exact ⟨_, rfl, A.same (.int _) k⟩
end
end Sb

set_option Elab.async false
set_option autoImplicit false
set_option linter.all false
set_option maxRecDepth 100000
set_option maxHeartbeats 4000000
/-! SbK: walks, one's own lists, reading one's own. -/
namespace Sb
open PySem PySem.Spec PyProof.Rows L2

/-! ### sizes, from the heap as it is -/
def tHok (X : Cx) (t : TE) : TE := fun σ H Q => t σ H fun v H1 => (∃ h, HOk X.prog X.w H1 h) → Q v H1
theorem pe_hok {X : Cx} {e : Expr} {t : TE} (h : PE X e t) : PE X e (tHok X t) := ⟨fun pins s σ H Q I w => by
  refine thn (h.run pins s σ H _ I w) fun u s1 hq => ?_
  obtain ⟨v, H1, I1, r, k⟩ := hq
  exact ⟨v, H1, I1, r, k ⟨_, I1.hok⟩⟩⟩
theorem hok_lst {P : Program} {w : World} {H : Hp} {a : Addr} {xs : List V} (h : ∃ h, HOk P w H h) (e : H a = some (.lst xs)) : xs.length ≤ sizeLine := by
  obtain ⟨h, hh⟩ := h
  exact (hh a _ e).1
theorem hok_tup {P : Program} {w : World} {H : Hp} {a : Addr} {xs : List V} (h : ∃ h, HOk P w H h) (e : H a = some (.tup xs)) : xs.length ≤ sizeLine := by
  obtain ⟨h, hh⟩ := h
  exact (hh a _ e).1
theorem pi_or {X : Cx} {tg e : Expr} {t t' : TI} (h : PI X tg e t) (h' : PI X tg e t') : PI X tg e (fun σ H R => t σ H R ∨ t' σ H R) := ⟨fun pins s σ H R I w => w.elim (h.run pins s σ H R I) (h'.run pins s σ H R I)⟩
section
variable {X : Cx} {tg e e2 : Expr} {f g : Run} {p pos : Pos}
theorem seqR_some {ρ : Ev} {q : Sx} {ds : List PyData} {ρ' : Ev} {q' : Sx} (h : seqR f ρ q = some (ds, ρ', q')) : f ρ q = some (.list ds, ρ', q') ∨ f ρ q = some (.tuple ds, ρ', q') := by
  unfold seqR at h
  split at h
  · cases h; exact .inl (by assumption)
  · cases h; exact .inr (by assumption)
  · cases h
theorem pi_seq (he : PE X e (tEV X.K f)) : PI X tg e (iEV X.K (seqR f)) := by
  refine (pi_or (pi_list (pe_hok he)) (pi_tup (pe_hok he))).weak fun σ H R h => ?_
  obtain ⟨U, Z, ρ, q, ds, ρ', q', A, e1, k⟩ := h
  rcases seqR_some e1 with e1 | e1
  · refine .inl ⟨U, Z, ρ, q, _, ρ', q', A, e1, fun Z1 H1 v l A1 r1 hk => ?_⟩
    obtain ⟨a, xs, rfl, h1, r2⟩ := r1.list_inv
    exact ⟨a, rfl, ⟨xs, SqL.of (A1.fro _ _ h1)⟩, k Z1 H1 _ l A1 (yields_list h1 r2) (by rw [← r2.length]; exact hok_lst hk (A1.fro _ _ h1))⟩
  · refine .inr ⟨U, Z, ρ, q, _, ρ', q', A, e1, fun Z1 H1 v l A1 r1 hk => ?_⟩
    obtain ⟨a, xs, rfl, h1, r2⟩ := r1.tuple_inv
    exact ⟨a, rfl, ⟨xs, SqT.of (A1.fro _ _ h1)⟩, k Z1 H1 _ l A1 (yields_tup h1 r2) (by rw [← r2.length]; exact hok_tup hk (A1.fro _ _ h1))⟩
theorem rngS_some {lo hi : Int} {ds : List PyData} (h : rngS lo hi = some ds) : (-1000000000 ≤ lo ∧ hi ≤ 1000000000 ∧ hi - lo ≤ 1000000 ∧ lo ≤ 1000000000 ∧ -1000000000 ≤ hi) ∧ ds = rngD lo (hi - lo).toNat := by
  unfold rngS at h
  split at h
  · cases h; exact ⟨by assumption, rfl⟩
  · cases h
theorem rngD_len (lo : Int) (n : Nat) : (rngD lo n).length = n := by simp [rngD]
theorem rgR_some {a : RunO} {ρ : Ev} {q : Sx} {ds : List PyData} {ρ' : Ev} {q' : Sx} (h : rgR a f ρ q = some (ds, ρ', q')) :
    ∃ l ρ1 q1 hi, a ρ q = some (l, ρ1, q1) ∧ f ρ1 q1 = some (.int hi, ρ', q') ∧ rngS (l.getD 0) hi = some ds := by
  unfold rgR at h
  split at h
  · cases h
  · split at h
    · split at h
      · cases h
      · cases h; exact ⟨_, _, _, _, by assumption, by assumption, by assumption⟩
    · cases h
theorem pi_rg1 (hg : Gl X "range") (hm : X.mg "range" = none) (he : PE X e (tEV X.K f)) (hs : starEach [e] X.env = [(false, eval e X.env)]) : PI X tg (.Call (.Name "range" p) [e] [] pos) (iEV X.K (rgR noneO f)) := by
  refine (pi_range1 hg hm (pa_cons he pa_nil hs) hs).weak fun σ H R h => ?_
  obtain ⟨U, Z, ρ, q, ds, ρ', q', A, e1, k⟩ := h
  obtain ⟨l, ρ1, q1, hi, e2, e3, e4⟩ := rgR_some e1
  cases e2
  obtain ⟨⟨b1, b2, b3, b4, b5⟩, rfl⟩ := rngS_some e4
  have g0 : (none : Option Int).getD 0 = 0 := rfl
  rw [g0] at b1 b3 b4 k
  refine ⟨U, Z, _, _, _, ρ', q', A, e3, fun Z1 H1 v l A1 r1 => ⟨hi, by rw [r1.int_inv], by omega, by omega, ?_⟩⟩
  have e5 : hi.toNat = (hi - 0).toNat := by simp
  rw [e5]
  exact k Z1 H1 _ l A1 (yields_rng 0 _) (by rw [rngD_len]; exact lim_line (by omega))
theorem pi_rg2 (hg : Gl X "range") (hm : X.mg "range" = none) (he : PE X e (tEV X.K f)) (he2 : PE X e2 (tEV X.K g)) (hs : starEach [e, e2] X.env = (false, eval e X.env) :: starEach [e2] X.env) (hs2 : starEach [e2] X.env = [(false, eval e2 X.env)]) :
    PI X tg (.Call (.Name "range" p) [e, e2] [] pos) (iEV X.K (rgR (someO f) g)) := by
  refine (pi_range2 hg hm (pa_cons he (pa_cons he2 pa_nil hs2) hs) (by rw [hs, hs2]) hs2).weak fun σ H R h => ?_
  obtain ⟨U, Z, ρ, q, ds, ρ', q', A, e1, k⟩ := h
  obtain ⟨l, ρ1, q1, hi, c2, e3, e4⟩ := rgR_some e1
  obtain ⟨lo, rfl, d2⟩ := someO_some c2
  obtain ⟨⟨b1, b2, b3, b4, b5⟩, rfl⟩ := rngS_some e4
  have g0 : (some lo).getD 0 = lo := rfl
  rw [g0] at b1 b3 b4 k
  refine ⟨U, Z, ρ, q, _, ρ1, q1, A, d2, fun Z1 H1 v l1 A1 r1 => ⟨U, Z1, ρ1, q1, _, ρ', q', A1, e3, fun Z2 H2 v2 l2 A2 r2 => ⟨lo, hi, by rw [r1.int_inv, r2.int_inv], ⟨by omega, by omega, by omega, by omega⟩, ?_⟩⟩⟩
  exact k Z2 H2 _ (l1.trans l2) A2 (yields_rng lo _) (by rw [rngD_len]; exact lim_line (by omega))
theorem rangeSize_nat' {lo hi c : Int} (hc : c ≠ 0) : Builtin.Range.rangeSize lo hi c = (stepN lo hi c : Int) := by
  have : 0 ≤ Builtin.Range.rangeSize lo hi c := by
    unfold Builtin.Range.rangeSize
    split
    · split
      · have := Int.ediv_nonneg (a := hi - lo - 1) (b := c) (by omega) (by omega); omega
      · exact Int.le_refl _
    · split
      · have := Int.ediv_nonneg (a := lo - hi - 1) (b := -c) (by omega) (by omega); omega
      · exact Int.le_refl _
  unfold stepN
  omega
theorem rg3R_some {a b c : Run} {ρ : Ev} {q : Sx} {ds : List PyData} {ρ' : Ev} {q' : Sx} (h : rg3R a b c ρ q = some (ds, ρ', q')) :
    ∃ lo ρ1 q1 hi ρ2 q2 s, a ρ q = some (.int lo, ρ1, q1) ∧ b ρ1 q1 = some (.int hi, ρ2, q2) ∧ c ρ2 q2 = some (.int s, ρ', q') ∧ rng3S lo hi s = some ds := by
  unfold rg3R at h
  split at h
  · split at h
    · split at h
      · split at h
        · cases h
        · cases h; exact ⟨_, _, _, _, _, _, _, by assumption, by assumption, by assumption, by assumption⟩
      · cases h
    · cases h
  · cases h
theorem pi_rg3 {e3 : Expr} {h : Run} (hg : Gl X "range") (hm : X.mg "range" = none) (he : PE X e (tEV X.K f)) (he2 : PE X e2 (tEV X.K g)) (he3 : PE X e3 (tEV X.K h)) (hs : starEach [e, e2, e3] X.env = (false, eval e X.env) :: starEach [e2, e3] X.env)
    (hs2 : starEach [e2, e3] X.env = (false, eval e2 X.env) :: starEach [e3] X.env) (hs3 : starEach [e3] X.env = [(false, eval e3 X.env)]) : PI X tg (.Call (.Name "range" p) [e, e2, e3] [] pos) (iEV X.K (rg3R f g h)) := by
  refine (pi_range3 hg hm (pa_cons he (pa_cons he2 (pa_cons he3 pa_nil hs3) hs2) hs) hs (by rw [hs2, hs3]; rfl)).weak fun σ H R w => ?_
  obtain ⟨U, Z, ρ, q, ds, ρ', q', A, e1, k⟩ := w
  obtain ⟨lo, ρ1, q1, hi, ρ2, q2, s, d1, d2, d3, e4⟩ := rg3R_some e1
  unfold rng3S at e4
  split at e4
  · rename_i c
    cases e4
    refine ⟨U, Z, ρ, q, _, ρ1, q1, A, d1, fun Z1 H1 v1 l1 A1 r1 => ⟨U, Z1, ρ1, q1, _, ρ2, q2, A1, d2, fun Z2 H2 v2 l2 A2 r2 => ⟨U, Z2, ρ2, q2, _, ρ', q', A2, d3, fun Z3 H3 v3 l3 A3 r3 => ?_⟩⟩⟩
    refine ⟨lo, hi, s, stepN lo hi s, by rw [r1.int_inv, r2.int_inv, r3.int_inv], ⟨c.1, by omega, c.2.2.1, rangeSize_nat' c.1⟩, ?_⟩
    exact k Z3 H3 _ (l1.trans (l2.trans l3)) A3 (yields_rngC lo s _) (by simp only [rngC, List.length_map, List.length_range]; exact lim_line c.2.2.2)
  · cases e4
theorem pi_en {elts : List Expr} {kk : Nat} {tpos : Pos} (hg : Gl X "enumerate") (hm : X.mg "enumerate" = none) (he : PE X e (tEV X.K f)) (hs : starEach [e] X.env = [(false, eval e X.env)]) : PI X (.Tuple elts kk tpos) (.Call (.Name "enumerate" p) [e] [] pos) (iEV X.K (enumR f)) := by
  refine (pi_enumA hg hm (pa_cons (pe_hok he) pa_nil hs) hs).weak fun σ H R h => ?_
  obtain ⟨U, Z, ρ, q, ds, ρ', q', A, e1, k⟩ := h
  unfold enumR at e1
  split at e1
  · cases e1
  rename_i ds0 ρ1 q1 e2
  cases e1
  have hl : (enumD ds0).length = ds0.length := by simp [enumD]
  rw [hl] at k
  rcases seqR_some e2 with e1 | e1
  · refine ⟨U, Z, ρ, q, _, _, _, A, e1, fun Z1 H1 v l A1 r1 hk => ?_⟩
    obtain ⟨a, xs, rfl, h1, r2⟩ := r1.list_inv
    exact ⟨a, xs, rfl, .inl ⟨SqL.of (A1.fro _ _ h1), k Z1 H1 _ l A1 (yields_enumL h1 r2) (by rw [← r2.length]; exact hok_lst hk (A1.fro _ _ h1))⟩⟩
  · refine ⟨U, Z, ρ, q, _, _, _, A, e1, fun Z1 H1 v l A1 r1 hk => ?_⟩
    obtain ⟨a, xs, rfl, h1, r2⟩ := r1.tuple_inv
    exact ⟨a, xs, rfl, .inr ⟨A1.fro _ _ h1, k Z1 H1 _ l A1 (yields_enumT h1 r2) (by rw [← r2.length]; exact hok_tup hk (A1.fro _ _ h1))⟩⟩
theorem zipD_len (ds es : List PyData) : (zipD ds es).length = min ds.length es.length := by simp [zipD]
theorem pi_zp {elts : List Expr} {kk : Nat} {tpos : Pos} (hg : Gl X "zip") (hm : X.mg "zip" = none) (he : PE X e (tEV X.K f)) (he2 : PE X e2 (tEV X.K g)) (hs : starEach [e, e2] X.env = (false, eval e X.env) :: starEach [e2] X.env) (hs2 : starEach [e2] X.env = [(false, eval e2 X.env)]) :
    PI X (.Tuple elts kk tpos) (.Call (.Name "zip" p) [e, e2] [] pos) (iEV X.K (zipR f g)) := by
  refine (RZ.pi_zipA hg hm (pa_cons he (pa_cons (pe_hok he2) pa_nil hs2) hs) hs (by rw [hs2]; rfl)).weak fun σ H R w => ?_
  obtain ⟨U, Z, ρ, q, ds, ρ', q', A, e1, k⟩ := w
  unfold zipR at e1
  split at e1
  · cases e1
  rename_i x ρ1 q1 e2
  split at e1
  · cases e1
  rename_i y ρ2 q2 e3
  split at e1
  · cases e1
  rename_i ds' e4
  cases e1
  refine ⟨U, Z, ρ, q, _, _, _, A, e2, fun Z1 H1 v1 l1 A1 r1 => ⟨U, Z1, ρ1, q1, _, _, _, A1, e3, fun Z2 H2 v2 l2 A2 r2 hk => ?_⟩⟩
  unfold zipS at e4
  split at e4
  · cases e4
    obtain ⟨a, xs, rfl, h1, ra⟩ := (r1.mono l2).list_inv
    obtain ⟨b, ys, rfl, h2, rb⟩ := r2.list_inv
    refine ⟨a, b, xs, ys, rfl, .inl ⟨SqL.of (A2.fro _ _ h1), SqL.of (A2.fro _ _ h2), k Z2 H2 _ (l1.trans l2) A2 (yields_zipL h1 ra h2 rb) ?_⟩⟩
    rw [zipD_len]
    have := hok_lst hk (A2.fro _ _ h2)
    rw [rb.length] at this
    exact Nat.le_trans (Nat.min_le_right _ _) this
  · cases e4
    obtain ⟨a, xs, rfl, h1, ra⟩ := (r1.mono l2).tuple_inv
    obtain ⟨b, ys, rfl, h2, rb⟩ := r2.tuple_inv
    refine ⟨a, b, xs, ys, rfl, .inr ⟨SqT.of (A2.fro _ _ h1), SqT.of (A2.fro _ _ h2), k Z2 H2 _ (l1.trans l2) A2 (yields_zipT h1 ra h2 rb) ?_⟩⟩
    rw [zipD_len]
    have := hok_tup hk (A2.fro _ _ h2)
    rw [rb.length] at this
    exact Nat.le_trans (Nat.min_le_right _ _) this
  · cases e4

/-! ### list(range(..)), tuple(range(..)) -/
theorem rg_rp {K : PySem.W.Frag} {Z : Fz} (lo hi : Int) : RpA K Z (rgV lo hi) (rngD lo (hi - lo).toNat) := by
  have := RpA.ints (K := K) (Z := Z) ((List.range (hi - lo).toNat).map fun i => lo + ((i : Nat) : Int))
  rw [List.map_map, List.map_map] at this
  exact this
theorem w_lrgL {σ : Sg} {H : Hp} {Q : VK} {a : RunO} {te : Sg → Hp → (Int → Int → Hp → Prop) → Prop}
    (hs : ∀ {U : Hp} {Z : Fz} {ρ : Ev} {q : Sx} {ds : List PyData} {ρ' : Ev} {q' : Sx} {Q : Int → Int → Hp → Prop}, Ab X.K U Z σ H ρ q → rgR a f ρ q = some (ds, ρ', q') → (∀ Z' H' lo hi, Z.Le Z' → Ab X.K U Z' σ H' ρ' q' → RgOk lo hi → ds = rngD lo (hi - lo).toNat → Q lo hi H') → te σ H Q)
    (h : tEV X.K (lrgR false (rgR a f)) σ H Q) : tLstRg te σ H Q := by
  obtain ⟨U, Z, ρ, q, d, ρ', q', A, e, k⟩ := h
  unfold lrgR at e
  split at e
  · cases e
  rename_i ds ρ1 q1 e1
  cases e
  refine hs A e1 fun Z' H' lo hi l A' ok ed => ⟨ok, fun p hp => A'.newL hp (rg_rp lo hi) fun Z2 H2 v l2 A2 r2 => k Z2 H2 v (l.trans l2) A2 ?_⟩
  rw [ed]
  exact r2
theorem w_lrgT {σ : Sg} {H : Hp} {Q : VK} {a : RunO} {te : Sg → Hp → (Int → Int → Hp → Prop) → Prop}
    (hs : ∀ {U : Hp} {Z : Fz} {ρ : Ev} {q : Sx} {ds : List PyData} {ρ' : Ev} {q' : Sx} {Q : Int → Int → Hp → Prop}, Ab X.K U Z σ H ρ q → rgR a f ρ q = some (ds, ρ', q') → (∀ Z' H' lo hi, Z.Le Z' → Ab X.K U Z' σ H' ρ' q' → RgOk lo hi → ds = rngD lo (hi - lo).toNat → Q lo hi H') → te σ H Q)
    (h : tEV X.K (lrgR true (rgR a f)) σ H Q) : tTupRg te σ H Q := by
  obtain ⟨U, Z, ρ, q, d, ρ', q', A, e, k⟩ := h
  unfold lrgR at e
  split at e
  · cases e
  rename_i ds ρ1 q1 e1
  cases e
  refine hs A e1 fun Z' H' lo hi l A' ok ed => ⟨ok, fun p hp => A'.newT hp (rg_rp lo hi) fun Z2 H2 v l2 A2 r2 => k Z2 H2 v (l.trans l2) A2 ?_⟩
  rw [ed]
  exact r2
theorem rg1_s {σ : Sg} {H : Hp} {U : Hp} {Z : Fz} {ρ : Ev} {q : Sx} {ds : List PyData} {ρ' : Ev} {q' : Sx} {Q : Int → Int → Hp → Prop} (A : Ab X.K U Z σ H ρ q) (e1 : rgR noneO f ρ q = some (ds, ρ', q'))
    (k : ∀ Z' H' lo hi, Z.Le Z' → Ab X.K U Z' σ H' ρ' q' → RgOk lo hi → ds = rngD lo (hi - lo).toNat → Q lo hi H') : tRg1 (tEV X.K f) σ H Q := by
  obtain ⟨l, ρ1, q1, hi, e2, e3, e4⟩ := rgR_some e1
  cases e2
  obtain ⟨⟨b1, b2, b3, b4, b5⟩, rfl⟩ := rngS_some e4
  have g0 : (none : Option Int).getD 0 = 0 := rfl
  rw [g0] at b1 b3 b4 k
  exact ⟨U, Z, _, _, _, ρ', q', A, e3, fun Z1 H1 v l A1 r1 => ⟨hi, r1.int_inv, k Z1 H1 0 hi l A1 ⟨by omega, by omega, by omega, by omega, by omega⟩ rfl⟩⟩
theorem rg2_s {σ : Sg} {H : Hp} {U : Hp} {Z : Fz} {ρ : Ev} {q : Sx} {ds : List PyData} {ρ' : Ev} {q' : Sx} {Q : Int → Int → Hp → Prop} (A : Ab X.K U Z σ H ρ q) (e1 : rgR (someO f) g ρ q = some (ds, ρ', q'))
    (k : ∀ Z' H' lo hi, Z.Le Z' → Ab X.K U Z' σ H' ρ' q' → RgOk lo hi → ds = rngD lo (hi - lo).toNat → Q lo hi H') : tRg2 (tEV X.K f) (tEV X.K g) σ H Q := by
  obtain ⟨l, ρ1, q1, hi, c2, e3, e4⟩ := rgR_some e1
  obtain ⟨lo, rfl, d2⟩ := someO_some c2
  obtain ⟨⟨b1, b2, b3, b4, b5⟩, rfl⟩ := rngS_some e4
  have g0 : (some lo).getD 0 = lo := rfl
  rw [g0] at b1 b3 b4 k
  exact ⟨U, Z, ρ, q, _, ρ1, q1, A, d2, fun Z1 H1 v l A1 r1 => ⟨U, Z1, ρ1, q1, _, ρ', q', A1, e3, fun Z2 H2 v2 l2 A2 r2 => ⟨lo, hi, r1.int_inv, r2.int_inv, k Z2 H2 lo hi (l.trans l2) A2 ⟨by omega, by omega, by omega, by omega, by omega⟩ rfl⟩⟩⟩
end

/-! ### reading one's own -/
def OwnA (σ : Sg) (ρ : Ev) (a : Addr) : Prop := ∃ (i : Nat) (d : PyData), ρ[i]? = some (some (SV.own d)) ∧ σ[i]? = some (some (V.ref a))
noncomputable def inF (Z : Fz) (σ : Sg) (ρ : Ev) (H : Hp) : Fz := ⟨fun a => open Classical in if OwnA σ ρ a then H a else Z.F a, Z.sa⟩
noncomputable def outF (Z : Fz) (σ : Sg) (ρ : Ev) : Fz := ⟨fun a => open Classical in if OwnA σ ρ a then none else Z.F a, Z.sa⟩
section
variable {K : PySem.W.Frag} {U : Hp} {Z Z' : Fz} {σ : Sg} {H H' : Hp} {ρ ρ1 : Ev} {q q1 : Sx}
theorem Ab.own_lone (A : Ab K U Z σ H ρ q) {a : Addr} (h : OwnA σ ρ a) : Lone U Z a := by
  obtain ⟨i, d, h1, h2⟩ := h
  obtain ⟨v, hv, b, rfl, _, l⟩ := A.slot i _ h1
  rw [h2] at hv
  cases hv
  exact l
theorem inF_own {a : Addr} (h : OwnA σ ρ a) : (inF Z σ ρ H).F a = H a := by
  show (open Classical in if OwnA σ ρ a then H a else Z.F a) = _
  rw [if_pos h]
theorem inF_not {a : Addr} (h : ¬ OwnA σ ρ a) : (inF Z σ ρ H).F a = Z.F a := by
  show (open Classical in if OwnA σ ρ a then H a else Z.F a) = _
  rw [if_neg h]
theorem outF_own {a : Addr} (h : OwnA σ ρ a) : (outF Z σ ρ).F a = none := by
  show (open Classical in if OwnA σ ρ a then none else Z.F a) = _
  rw [if_pos h]
theorem outF_not {a : Addr} (h : ¬ OwnA σ ρ a) : (outF Z σ ρ).F a = Z.F a := by
  show (open Classical in if OwnA σ ρ a then none else Z.F a) = _
  rw [if_neg h]
theorem frzE_get {i : Nat} {sv : SV} (h : (frzE ρ)[i]? = some (some sv)) : ∃ d, sv = .val d ∧ (ρ[i]? = some (some (.val d)) ∨ ρ[i]? = some (some (.own d))) := by
  unfold frzE at h
  rw [List.getElem?_map] at h
  cases e : ρ[i]? with
  | none => rw [e] at h; cases h
  | some o =>
    rw [e] at h
    cases o with
    | none => cases h
    | some s =>
      cases s with
      | val d => cases h; exact ⟨d, rfl, .inl rfl⟩
      | own d => cases h; exact ⟨d, rfl, .inr rfl⟩
theorem Ab.inF (A : Ab K U Z σ H ρ q) : Z.Le (inF Z σ ρ H) ∧ Ab K U (Sb.inF Z σ ρ H) σ H (frzE ρ) q := by
  have le : Z.Le (Sb.inF Z σ ρ H) := ⟨fun a o e => by
    rw [inF_not fun c => by rw [(A.own_lone c).f] at e; cases e]
    exact e, fun _ e => e⟩
  refine ⟨le, ⟨fun a o e => ?_, fun a o e => ?_, fun a c e => ?_, A.nos⟩, by rw [A.len]; simp [frzE], fun i sv e => ?_, fun i j d1 d2 a e1 _ _ _ => ?_⟩
  · by_cases h : OwnA σ ρ a
    · rw [inF_own h] at e; exact e
    · rw [inF_not h] at e; exact A.fro a o e
  · obtain ⟨h1, h2⟩ := A.unt a o e
    refine ⟨h1, ?_⟩
    rw [inF_not fun c => by rw [(A.own_lone c).u] at e; cases e]
    exact h2
  · obtain ⟨h1, h2, h3, h4, h5, h6⟩ := A.src a c e
    refine ⟨h1, h2, ?_, ?_, h5, h6⟩
    · rw [inF_not fun z => ((A.own_lone z).s _ e).1 rfl]; exact h3
    · rw [inF_not fun z => ((A.own_lone z).s _ e).2 rfl]; exact h4
  · obtain ⟨d, rfl, h | h⟩ := frzE_get e
    · obtain ⟨v, hv, r⟩ := A.slot i _ h
      exact ⟨v, hv, Rp.mono le r⟩
    · obtain ⟨v, hv, a, rfl, ho, l⟩ := A.slot i _ h
      refine ⟨_, hv, ?_⟩
      cases d with
      | list ds =>
        obtain ⟨xs, hx, r⟩ := ho
        exact Rp.lst (by rw [inF_own ⟨i, _, h, hv⟩]; exact hx) (r.mono le)
      | _ => exact ho.elim
  · obtain ⟨d, z, _⟩ := frzE_get e1
    cases z
theorem Ab.outF (A : Ab K U Z σ H ρ q) (l : (Sb.inF Z σ ρ H).Le Z') (A' : Ab K U Z' σ H' ρ1 q1) : Z.Le (outF Z' σ ρ) ∧ Ab K U (Sb.outF Z' σ ρ) σ H' ρ q1 := by
  have le : Z.Le (Sb.outF Z' σ ρ) := ⟨fun a o e => by
    have n : ¬ OwnA σ ρ a := fun c => by rw [(A.own_lone c).f] at e; cases e
    rw [outF_not n]
    exact l.f a o (by rw [inF_not n]; exact e), fun p e => l.s p e⟩
  have no : ∀ {a : Addr}, Z'.F a = none → (Sb.outF Z' σ ρ).F a = none := fun {a} e => by
    by_cases h : OwnA σ ρ a
    · exact outF_own h
    · rw [outF_not h]; exact e
  refine ⟨le, ⟨fun a o e => ?_, fun a o e => ?_, fun a c e => ?_, A'.nos⟩, A.len, fun i sv e => ?_, A.sep⟩
  · by_cases h : OwnA σ ρ a
    · rw [outF_own h] at e; cases e
    · rw [outF_not h] at e; exact A'.fro a o e
  · obtain ⟨h1, h2⟩ := A'.unt a o e
    exact ⟨h1, no h2⟩
  · obtain ⟨h1, h2, h3, h4, h5, h6⟩ := A'.src a c e
    exact ⟨h1, h2, no h3, no h4, h5, h6⟩
  · obtain ⟨v, hv, h⟩ := A.slot i sv e
    refine ⟨v, hv, ?_⟩
    cases sv with
    | val d => exact Rp.mono le h
    | own d =>
      obtain ⟨a, rfl, ho, ln⟩ := h
      have ow : OwnA σ ρ a := ⟨i, d, e, hv⟩
      have keep : ∀ o, H a = some o → Z'.F a = some o := fun o e => l.f a o (by rw [inF_own ow]; exact e)
      refine ⟨a, rfl, ho.mono le fun o e => A'.fro a o (keep o e), outF_own ow, ln.u, fun p hp => ?_⟩
      obtain ⟨x, c⟩ := p
      obtain ⟨_, _, h3, h4, _, _⟩ := A'.src x c hp
      obtain ⟨o, hoo⟩ := ho.some
      have z := keep o hoo
      exact ⟨fun y => (by rw [show a = x from y, h3] at z; cases z), fun y => (by rw [show a = c from y, h4] at z; cases z)⟩
theorem w_scp {Q : VK} {f : Run} (h : tEV K (scpR f) σ H Q) : tEV K f σ H Q := by
  obtain ⟨U, Z, ρ, q, d, ρ', q', A, e, k⟩ := h
  unfold scpR at e
  split at e
  · cases e
  rename_i d0 ρ0 q0 e1
  split at e
  · rename_i hl
    cases e
    obtain ⟨l0, A0⟩ := A.inF
    refine ⟨U, _, frzE ρ, q, d, ρ0, q', A0, e1, fun Z1 H1 v l A1 r1 => ?_⟩
    obtain ⟨l2, A2⟩ := A.outF l A1
    refine k _ H1 v l2 A2 (r1.lfree (fun a xs e => ?_) hl)
    rw [outF_not fun c => ?_]
    · exact e
    · obtain ⟨i, d1, h1, h2⟩ := id c
      obtain ⟨v', hv, b, rfl, ho, _⟩ := A.slot i _ h1
      rw [h2] at hv
      cases hv
      cases d1 with
      | list ds =>
        obtain ⟨ys, hy, _⟩ := ho
        have := l.f a _ (by rw [inF_own c]; exact hy)
        rw [e] at this
        cases this
      | _ => exact ho.elim
  · cases e
end

theorem w_scpT {K : PySem.W.Frag} {σ : Sg} {H : Hp} {Qb : Bool → Hp → Prop} {f : Run} (h : tTV K (fT (scpR f)) σ H Qb) : tTV K (fT f) σ H Qb := by
  obtain ⟨U, Z, ρ, q, d, ρ', q', A, e, k⟩ := h
  have e := fT_some e
  unfold scpR at e
  split at e
  · cases e
  rename_i d0 ρ0 q0 e1
  split at e
  · cases e
    obtain ⟨l0, A0⟩ := A.inF
    refine ⟨U, _, frzE ρ, q, d, ρ0, q', A0, by unfold fT; rw [e1], fun Z1 H1 l A1 => ?_⟩
    obtain ⟨l2, A2⟩ := A.outF l A1
    exact k _ H1 l2 A2
  · cases e

/-! ### one's own lists: pop -/
section
variable {X : Cx} {x : Str} {i : Nat} {np apos cpos : Pos} {f : Run}
theorem RpA.dropLast {K : PySem.W.Frag} {Z : Fz} {vs : List V} {ds : List PyData} (r : RpA K Z vs ds) : RpA K Z vs.dropLast ds.dropLast := by
  rw [List.dropLast_eq_take, List.dropLast_eq_take, r.length]
  exact r.take _
theorem Ab.own {K : PySem.W.Frag} {U : Hp} {Z : Fz} {σ : Sg} {H : Hp} {ρ : Ev} {q : Sx} (A : Ab K U Z σ H ρ q) {ds : List PyData} (e : ρ[i]? = some (some (.own (.list ds)))) :
    ∃ a xs, σ[i]? = some (some (.ref a)) ∧ H a = some (.lst xs) ∧ RpA K Z xs ds ∧ Lone U Z a := by
  obtain ⟨v, hv, a, rfl, ⟨xs, hx, r⟩, l⟩ := A.slot i _ e
  exact ⟨a, xs, hv, hx, r, l⟩
theorem w_pop {K : PySem.W.Frag} {σ : Sg} {H : Hp} {Q : VK} (h : tEV K (popR i) σ H Q) : tBM0 K "list" rPop (tVar i) σ H Q := by
  obtain ⟨U, Z, ρ, q, d, ρ', q', A, e, k⟩ := h
  unfold popR at e
  split at e
  · rename_i ds he
    split at e
    · cases e
    rename_i d0 hd
    cases e
    obtain ⟨a, xs, hv, hx, r, l⟩ := A.own he
    obtain ⟨y, hy, ry⟩ := r.get hd
    rw [← r.length] at hy
    exact ⟨_, hv, .inl ⟨rfl, xs, SqL.of hx⟩, a, xs, y, rfl, rfl, hx, hy, k Z _ y (.refl Z) (A.put he hv l ⟨_, upd_same, r.dropLast⟩) ry⟩
  · cases e
theorem w_popAt {K : PySem.W.Frag} {σ : Sg} {H : Hp} {Q : VK} (h : tEV K (popAtR i f) σ H Q) : tBM K "list" rPopAt (tVar i) (tCons (tEV K f) tNil) σ H Q := by
  obtain ⟨U, Z, ρ, q, d, ρ', q', A, e, k⟩ := h
  unfold popAtR at e
  split at e
  · rename_i kk ρ1 q1 e1
    split at e
    · rename_i ds he
      split at e
      · cases e
      rename_i ho
      split at e
      · rename_i hb
        split at e
        · cases e
        rename_i d0 hd
        cases e
        obtain ⟨ds0, he0⟩ : ∃ ds0, ρ[i]? = some (some (.own (.list ds0))) := by
          unfold isOwn at ho
          split at ho
          · exact ⟨_, by assumption⟩
          · exact absurd rfl ho
        obtain ⟨a, xs, hv, hx, _, _⟩ := A.own he0
        refine ⟨_, hv, .inl ⟨rfl, xs, SqL.of hx⟩, U, Z, ρ, q, _, ρ1, _, A, e1, fun Z1 H1 v l A1 r1 => ?_⟩
        obtain ⟨a1, ys, hv1, hy, r, ln⟩ := A1.own he
        rw [hv] at hv1
        cases hv1
        obtain ⟨y, hy1, ry⟩ := r.get hd
        have hlt : kk.toNat < ys.length := (List.getElem?_eq_some_iff.mp hy1).1
        refine ⟨a, ys, kk, kk.toNat, y, rfl, by rw [r1.int_inv], hy, by omega, by omega, ?_, hy1, k Z1 _ y l (A1.put he hv ln ⟨_, upd_same, r.eraseIdx _⟩) ry⟩
        have h1 : ¬ kk < 0 := by omega
        have h2 : kk < (ys.length : Int) := by omega
        simp [seqIndex?, h1, h2, hb.1]
      · cases e
    · cases e
  · cases e
end
end Sb

set_option Elab.async false
set_option autoImplicit false
set_option linter.all false
set_option maxRecDepth 100000
set_option maxHeartbeats 4000000
/-! SbL: the check of an expression against the text, and what it gives. -/
namespace Sb
open PySem PySem.Spec PyProof.Rows L2

/-! ### what is looked up -/
structure CC where
  N : List Str
  fns : List (Str × Nat)
  bn : List Str
def glb (sc : Scope) (x : Str) : Bool := decide (sc.names.lookup x = some .globalImplicit) && !(x == ("__debug__" : Str)) && decide (x ≠ ("__name__" : Str))
def vis (sc : Scope) (x : Str) : Bool := (decide (sc.names.lookup x = some .local) || decide (sc.names.lookup x = some .cell) || decide (sc.names.lookup x = some .free)) && !(x == ("__debug__" : Str)) && !(x == ("__classdict__" : Str))
def bfn (C : CC) (sc : Scope) (x : Str) : Bool := glb sc x && decide (x ∈ C.bn)
def star1 : Expr → Bool
  | .Starred .. => true
  | _ => false
def noSt (es : List Expr) : Bool := es.all fun e => !star1 e
def notIf : Expr → Bool
  | .IfExp .. => false
  | _ => true
def notSl : Expr → Bool
  | .Slice .. => false
  | _ => true
def notSet : Expr → Bool
  | .Set .. => false
  | _ => true
def cstOk : PyData → Const → Bool
  | .none, .none => true
  | .bool a, .bool b => decide (a = b)
  | .int a, .int b => decide (a = b)
  | .str a, .str b => decide (a = b)
  | _, _ => false
def types : List String := ["int", "bool", "str", "tuple", "list"]
def BF.isTy : BF → Bool
  | .list => true
  | .tuple => true
  | .int => true
  | _ => false

mutual
def chkE (C : CC) (sc : Scope) (fn : Str → Bool) : IE → Expr → Bool
  | .var i, e => match e with
    | .Name x _ => decide (C.N[i]? = some x) && vis sc x
    | _ => false
  | .cst d, e => match e with
    | .Constant c _ _ => cstOk d c
    | _ => false
  | .tup es, e => match e with
    | .Tuple xs _ _ => chkEs C sc fn es xs
    | _ => false
  | .lst es, e => match e with
    | .List xs _ => chkEs C sc fn es xs
    | _ => false
  | .bin o a b, e => match e with
    | .BinOp x op y _ => decide (op = o.op) && chkE C sc fn a x && chkE C sc fn b y
    | _ => false
  | .neg a, e => match e with
    | .UnaryOp op x _ => decide (op = .USub) && chkE C sc fn a x
    | _ => false
  | .nt a, e => match e with
    | .UnaryOp op x _ => decide (op = .Not) && chkE C sc fn a x && notIf x
    | _ => false
  | .cmp o a b, e => match e with
    | .Compare x [op] [y] _ => decide (op = o.op) && chkE C sc fn a x && chkE C sc fn b y && !(behindInMarks op y)
    | _ => false
  | .ch2 o o' a b c, e => match e with
    | .Compare x [op, op'] [y, z] _ => decide (op = o.op) && decide (op' = o'.op) && chkE C sc fn a x && chkE C sc fn b y && chkE C sc fn c z && !(lastMarks [op, op'] [y, z])
    | _ => false
  | .an a b, e => match e with
    | .BoolOp op (x :: y :: r) p => decide (op = .And) && chkE C sc fn a x && notIf x && chkE C sc fn b (.BoolOp .And (y :: r) p)
    | _ => false
  | .or a b, e => match e with
    | .BoolOp op (x :: y :: r) p => decide (op = .Or) && chkE C sc fn a x && notIf x && chkE C sc fn b (.BoolOp .Or (y :: r) p)
    | _ => false
  | .one a, e => match e with
    | .BoolOp _ [x] _ => chkE C sc fn a x && notIf x
    | _ => false
  | .ite c a b, e => match e with
    | .IfExp t x y _ => chkE C sc fn c t && notIf t && chkE C sc fn a x && chkE C sc fn b y
    | _ => false
  | .ix a b, e => match e with
    | .Subscript x y _ => chkE C sc fn a x && chkE C sc fn b y && notSl y
    | _ => false
  | .sl a lo hi, e => match e with
    | .Subscript x (.Slice l h none _) _ => chkE C sc fn a x && chkO C sc fn lo l && chkO C sc fn hi h
    | _ => false
  | .rv a, e => match e with
    | .Subscript x (.Slice none none (some (.UnaryOp op (.Constant c _ _) _)) _) _ => decide (op = .USub) && decide (c = .int 1) && chkE C sc fn a x
    | _ => false
  | .fn f es, e => match e with
    | .Call (.Name x _) (y :: ys) [] _ => decide (x = (f.name : Str)) && bfn C sc x && chkEs C sc fn es (y :: ys) && noSt (y :: ys)
    | _ => false
  | .isa T a, e => match e with
    | .Call (.Name x _) [y, .Name t _] [] _ => decide (x = ("isinstance" : Str)) && bfn C sc x && chkE C sc fn a y && !(star1 y) && decide (t = (T : Str)) && bfn C sc t && decide (T ∈ types)
    | _ => false
  | .call i es, e => match e with
    | .Call (.Name x _) ys [] _ => decide (C.fns[i]? = some (x, ys.length)) && glb sc x && chkEs C sc fn es ys && noSt ys
    | _ => false
  | .comp own tg it c elt, e => match e with
    | .ListComp x [⟨t, i, ifs, a⟩] scope _ => decide (a = 0) && blkC C.N sc scope own && (slotsT tg).all (fun j => decide (j ∈ own.map (·.2))) && notSet i && chkI C sc fn it t i &&
        chkT C.N (relS scope sc) (fun z => scope.names.lookup z == some .cell) tg t && chkC C (relS scope sc) (fun z => scope.names.lookup z == some .cell) c ifs && chkE C (relS scope sc) (fun z => scope.names.lookup z == some .cell) elt x
    | _ => false
  | .scp a, e => chkE C sc fn a e
  | .lrg t a b, e => match e with
    | .Call (.Name x _) [.Call (.Name r _) [y] [] _] [] _ => decide (x = ((if t then "tuple" else "list" : String) : Str)) && bfn C sc x && decide (r = ("range" : Str)) && bfn C sc r && chkO C sc fn a none && chkE C sc fn b y && !(star1 y)
    | .Call (.Name x _) [.Call (.Name r _) [z, y] [] _] [] _ => decide (x = ((if t then "tuple" else "list" : String) : Str)) && bfn C sc x && decide (r = ("range" : Str)) && bfn C sc r && chkO C sc fn a (some z) && chkE C sc fn b y && !(star1 y) && !(star1 z)
    | _ => false
  | .pop i, e => match e with
    | .Call (.Attribute (.Name x _) n ap) [] [] cp => decide (C.N[i]? = some x) && vis sc x && decide (n = ("pop" : Str)) && (ap.endLine == cp.line)
    | _ => false
  | .popAt i a, e => match e with
    | .Call (.Attribute (.Name x _) n ap) [y] [] cp => decide (C.N[i]? = some x) && vis sc x && decide (n = ("pop" : Str)) && (ap.endLine == cp.line) && chkE C sc fn a y && !(star1 y)
    | _ => false
def chkEs (C : CC) (sc : Scope) (fn : Str → Bool) : IEs → List Expr → Bool
  | .nil, es => match es with
    | [] => true
    | _ => false
  | .cons a r, es => match es with
    | [] => false
    | x :: xs => chkE C sc fn a x && !(star1 x) && chkEs C sc fn r xs
def chkO (C : CC) (sc : Scope) (fn : Str → Bool) : IO → Option Expr → Bool
  | .none, o => match o with
    | none => true
    | _ => false
  | .some a, o => match o with
    | none => false
    | some x => chkE C sc fn a x
def chkC (C : CC) (sc : Scope) (fn : Str → Bool) : IO → List Expr → Bool
  | .none, es => match es with
    | [] => true
    | _ => false
  | .some a, es => match es with
    | [x] => chkE C sc fn a x && notIf x
    | _ => false
def chkI (C : CC) (sc : Scope) (fn : Str → Bool) : II → Expr → Expr → Bool
  | .seq a, _, e => chkE C sc fn a e
  | .rg a b, _, e => match e with
    | .Call (.Name r _) [y] [] _ => decide (r = ("range" : Str)) && bfn C sc r && chkO C sc fn a none && chkE C sc fn b y && !(star1 y)
    | .Call (.Name r _) [z, y] [] _ => decide (r = ("range" : Str)) && bfn C sc r && chkO C sc fn a (some z) && chkE C sc fn b y && !(star1 y) && !(star1 z)
    | _ => false
  | .rg3 a b c, _, e => match e with
    | .Call (.Name r _) [x, y, z] [] _ => decide (r = ("range" : Str)) && bfn C sc r && chkE C sc fn a x && chkE C sc fn b y && chkE C sc fn c z && !(star1 x) && !(star1 y) && !(star1 z)
    | _ => false
  | .enum a, t, e => match t, e with
    | .Tuple _ _ _, .Call (.Name r _) [y] [] _ => decide (r = ("enumerate" : Str)) && bfn C sc r && chkE C sc fn a y && !(star1 y)
    | _, _ => false
  | .zip a b, t, e => match t, e with
    | .Tuple _ _ _, .Call (.Name r _) [x, y] [] _ => decide (r = ("zip" : Str)) && bfn C sc r && chkE C sc fn a x && chkE C sc fn b y && !(star1 x) && !(star1 y)
    | _, _ => false
end

/-! ### the surroundings -/
structure XC (C : CC) (fs : List Fn) (k : Nat) (X : Cx) : Prop where
  calm : X.calm = true
  N : X.N = C.N
  nd : C.N.Nodup
  gu : X.A.guards = some []
  rm : Room k X.A
  bn : ∀ x ∈ C.bn, X.mg x = none
  fns : ∀ (i : Nat) (x : Str) (n : Nat), C.fns[i]? = some (x, n) → CallOk X.prog X.w X.K X.mg X.base k x n (fs.getD i fun _ _ => none)
theorem XC.blk {C : CC} {fs : List Fn} {k : Nat} {X : Cx} (h : XC C fs k X) (s : Shared) (H : Hp) (scope : Scope) (cenv : Env) (fp : List Addr) : XC C fs k (X.blk s H scope cenv fp) :=
  ⟨h.calm, h.N, h.nd, h.gu, h.rm, h.bn, h.fns⟩
theorem glb_ok {X : Cx} {x : Str} (h : glb X.env.scope x = true) : Gl X x ∧ (x == ("__debug__" : Str)) = false ∧ x ≠ ("__name__" : Str) := by
  unfold glb at h
  simp only [Bool.and_eq_true, decide_eq_true_eq, Bool.not_eq_true'] at h
  exact ⟨h.1.1, h.1.2, h.2⟩
theorem vis_ok {sc : Scope} {x : Str} (h : vis sc x = true) : Vis sc x ∧ (x == ("__debug__" : Str)) = false ∧ (x == ("__classdict__" : Str)) = false := by
  unfold vis at h
  simp only [Bool.and_eq_true, Bool.or_eq_true, decide_eq_true_eq, Bool.not_eq_true'] at h
  exact ⟨h.1.1.elim (fun a => a.elim .inl fun a => .inr (.inl a)) fun a => .inr (.inr a), h.1.2, h.2⟩
theorem bfn_ok {C : CC} {fs : List Fn} {k : Nat} {X : Cx} {x : Str} (hX : XC C fs k X) (h : bfn C X.env.scope x = true) : Gl X x ∧ (x == ("__debug__" : Str)) = false ∧ x ≠ ("__name__" : Str) ∧ X.mg x = none := by
  unfold bfn at h
  simp only [Bool.and_eq_true, decide_eq_true_eq] at h
  obtain ⟨a, b, c⟩ := glb_ok h.1
  exact ⟨a, b, c, hX.bn x h.2⟩
theorem star_cons {e : Expr} (es : List Expr) (env : Env) (h : star1 e = false) : starEach (e :: es) env = (false, eval e env) :: starEach es env := by
  cases e <;> first | rfl | cases h
theorem star_all {env : Env} : ∀ {es : List Expr}, noSt es = true → (starEach es env).any (·.1) = false
  | [], _ => rfl
  | e :: es, h => by
    unfold noSt at h
    simp only [List.all_cons, Bool.and_eq_true, Bool.not_eq_true'] at h
    rw [star_cons es env h.1, List.any_cons, star_all (es := es) h.2]
    rfl
theorem back_any {pos : Pos} {l : List (Bool × Sem Value)} : (backTo pos l).any (·.1) = l.any (·.1) := by
  unfold backTo
  rw [List.any_map]
  rfl
theorem plain_ix {y : Expr} (h : notSl y = true) : PlainIx y := by
  intro o i
  cases y <;> first | rfl | cases h
theorem fold_no {i : Expr} {env : Env} (h : notSet i = true) : ∀ x, foldedSetIterable i env x = pure x := by
  intro x
  cases i <;> first | rfl | cases h

structure EOk (X : Cx) (f : Run) (e : Expr) : Prop where
  pe : PE X e (tEV X.K f)
  pt : notIf e = true → PT X e (tTV X.K (fT f))
  pw : ∀ op es pos, e = .BoolOp op es pos → PW X e (tTV X.K (fT f))
theorem EOk.of {X : Cx} {f : Run} {e : Expr} (h : PE X e (tEV X.K f)) (he : ∀ whole, isTrue e X.env whole = (do let v ← whole; standAt e.pos; holding [v] (truthy v))) (hb : ∀ op es pos, e ≠ .BoolOp op es pos) : EOk X f e :=
  ⟨h, fun _ => et_val h he, fun op es pos z => absurd z (hb op es pos)⟩

/-! ### operators and built-ins -/
section
variable {X : Cx} {k : Nat}
theorem BO.ok (o : BO) : ∃ r, OpR X (binaryOp o.op) r ∧ OpS X.K r o.sem := by
  cases o
  · exact ⟨_, op_add.or (op_cat.or op_catA), add_S⟩
  · exact ⟨_, op_sub, sub_S⟩
  · exact ⟨_, op_mul.or (op_rep.or op_repTA), mul_S⟩
  · exact ⟨_, op_fdiv, div_S⟩
  · exact ⟨_, op_mod, mod_S⟩
  · exact ⟨_, op_shl, shl_S⟩
  · exact ⟨_, op_pow, pow_S⟩
theorem CO.ok (hu : X.A.units + 66 < cLine) (o : CO) : ∃ r, OpR X (compareOp o.op) r ∧ OpS X.K r o.sem := by
  have h64 : X.A.units + 64 < cLine := by omega
  have h65 : X.A.units + 65 < cLine := by omega
  cases o
  · exact ⟨_, op_lt, ord_S _⟩
  · exact ⟨_, op_le, ord_S _⟩
  · exact ⟨_, op_gt, ord_S _⟩
  · exact ⟨_, op_ge, ord_S _⟩
  · exact ⟨_, op_eq.or (op_eqD h64), eq_S⟩
  · exact ⟨_, op_ne.or (op_neD h64), ne_S⟩
  · exact ⟨_, op_isN.or op_isBl, is_S⟩
  · exact ⟨_, op_notN.or op_notBl, isnot_S⟩
  · exact ⟨_, op_in_seq.or (op_inA h65), in_S⟩
  · exact ⟨_, op_notIn_seq.or (op_notInA h65), notin_S⟩
def BF.callee (f : BF) : Value := if f.isTy then .type f.name else .builtin f.name
theorem BF.ok (hc : X.calm = true) (hg : X.A.guards = some []) (hu : X.A.units + 66 < cLine) (f : BF) : ∃ r, CallR X f.callee r ∧ CallS X.K r f.sem := by
  cases f
  · exact ⟨_, call_len_seq, len_S⟩
  · exact ⟨_, call_list_of, list_S⟩
  · exact ⟨_, call_tuple_of, tuple_S⟩
  · exact ⟨_, call_abs, abs_S⟩
  · exact ⟨_, call_int1, int_S⟩
  · exact ⟨_, cr_sum hc, sum_S⟩
  · exact ⟨_, cr_any hc, any_S⟩
  · exact ⟨_, cr_all hc, all_S⟩
  · exact ⟨_, (call_max2 hc).or (cr_max hc), max_S⟩
  · exact ⟨_, (call_min2 hc).or (cr_min hc), min_S⟩
  · exact ⟨_, cr_sortA hu, sort_S _⟩
  · exact ⟨_, call_repr hg hu, repr_S _⟩
theorem BF.boot (f : BF) : bootBuiltins (f.name : Str) = some f.callee := by
  cases f <;> decide +kernel
theorem boot_ty : ∀ T ∈ types, bootBuiltins (T : Str) = some (.type T) := by decide +kernel
end
end Sb

set_option Elab.async false
set_option autoImplicit false
set_option linter.all false
set_option maxRecDepth 100000
set_option maxHeartbeats 4000000
/-! SbM: what the check gives. -/
namespace Sb
open PySem PySem.Spec PyProof.Rows L2

theorem XC.u {C : CC} {fs : List Fn} {k : Nat} {X : Cx} (h : XC C fs k X) : X.A.units + 66 < cLine := by have := h.rm.un; omega
theorem runEs_len {fs : List Fn} {C : CC} {sc : Scope} {fn : Str → Bool} : ∀ {es : IEs} {xs : List Expr} {ρ : Ev} {q : Sx} {ds : List PyData} {ρ' : Ev} {q' : Sx}, chkEs C sc fn es xs = true → runEs fs es ρ q = some (ds, ρ', q') → ds.length = xs.length
  | .nil, xs, ρ, q, ds, ρ', q', h, e => by
    have e : nilR ρ q = some (ds, ρ', q') := e
    cases e
    cases xs with
    | nil => rfl
    | cons x xs => cases h
  | .cons a r, xs, ρ, q, ds, ρ', q', h, e => by
    have e : consR (runE fs a) (runEs fs r) ρ q = some (ds, ρ', q') := e
    obtain ⟨x, ρ1, q1, ys, e1, e2, rfl⟩ := consR_some e
    cases xs with
    | nil => cases h
    | cons z zs =>
      have h : (chkE C sc fn a z && !(star1 z) && chkEs C sc fn r zs) = true := h
      simp only [Bool.and_eq_true] at h
      rw [List.length_cons, List.length_cons, runEs_len h.2 e2]
section
variable {C : CC} {fs : List Fn} {k : Nat}
theorem beh {op : CmpOp} {y : Expr} (h : (!(behindInMarks op y)) = true) : behindInMarks op y = false := by
  cases e : behindInMarks op y with
  | false => rfl
  | true => rw [e] at h; cases h
theorem not_t {b : Bool} (h : (!b) = true) : b = false := by
  cases b with
  | false => rfl
  | true => cases h

mutual
theorem e_ok : ∀ (ir : IE) {X : Cx} (hX : XC C fs k X) (e : Expr), chkE C X.env.scope X.fn ir e = true → EOk X (runE fs ir) e
  | .var i, X, hX, e, h => by
    cases e with
    | Name x p =>
      have h : (decide (C.N[i]? = some x) && vis X.env.scope x) = true := h
      simp only [Bool.and_eq_true, decide_eq_true_eq] at h
      obtain ⟨h1, h2, h3⟩ := vis_ok h.2
      exact .of ((pe_var (by rw [hX.N]; exact h.1) h1 h2 h3).weak fun _ _ _ => w_var) (fun _ => rfl) fun _ _ _ z => nomatch z
    | _ => cases h
  | .cst d, X, hX, e, h => by
    cases e with
    | Constant c j p =>
      have h : cstOk d c = true := h
      unfold cstOk at h
      split at h
      · exact .of (pe_non.weak fun _ _ _ => w_cst rfl) (fun _ => rfl) fun _ _ _ z => nomatch z
      · cases of_decide_eq_true h
        exact .of (pe_bl.weak fun _ _ _ => w_cst rfl) (fun _ => rfl) fun _ _ _ z => nomatch z
      · cases of_decide_eq_true h
        exact .of (pe_int.weak fun _ _ _ => w_cst rfl) (fun _ => rfl) fun _ _ _ z => nomatch z
      · cases of_decide_eq_true h
        exact .of (pe_str.weak fun _ _ _ => w_cst rfl) (fun _ => rfl) fun _ _ _ z => nomatch z
      · cases h
    | _ => cases h
  | .tup es, X, hX, e, h => by
    cases e with
    | Tuple xs j p =>
      have h : chkEs C X.env.scope X.fn es xs = true := h
      exact .of ((pe_tup (es_ok es hX xs h)).weak fun _ _ _ => w_lift tup_S) (fun _ => rfl) fun _ _ _ z => nomatch z
    | _ => cases h
  | .lst es, X, hX, e, h => by
    cases e with
    | List xs p =>
      have h : chkEs C X.env.scope X.fn es xs = true := h
      exact .of ((pe_lst (es_ok es hX xs h)).weak fun _ _ _ => w_lift lst_S) (fun _ => rfl) fun _ _ _ z => nomatch z
    | _ => cases h
  | .bin o a b, X, hX, e, h => by
    cases e with
    | BinOp x op y p =>
      have h : (decide (op = o.op) && chkE C X.env.scope X.fn a x && chkE C X.env.scope X.fn b y) = true := h
      simp only [Bool.and_eq_true, decide_eq_true_eq] at h
      obtain ⟨⟨rfl, h1⟩, h2⟩ := h
      obtain ⟨r, ho, hs⟩ := BO.ok (X := X) o
      exact .of (ev_bin ho hs (e_ok a hX x h1).pe (e_ok b hX y h2).pe) (fun _ => rfl) fun _ _ _ z => nomatch z
    | _ => cases h
  | .neg a, X, hX, e, h => by
    cases e with
    | UnaryOp op x p =>
      have h : (decide (op = .USub) && chkE C X.env.scope X.fn a x) = true := h
      simp only [Bool.and_eq_true, decide_eq_true_eq] at h
      obtain ⟨rfl, h1⟩ := h
      exact .of ((pe_un un_neg (e_ok a hX x h1).pe).weak fun _ _ _ => w_neg) (fun _ => rfl) fun _ _ _ z => nomatch z
    | _ => cases h
  | .nt a, X, hX, e, h => by
    cases e with
    | UnaryOp op x p =>
      have h : (decide (op = .Not) && chkE C X.env.scope X.fn a x && notIf x) = true := h
      simp only [Bool.and_eq_true, decide_eq_true_eq] at h
      obtain ⟨⟨rfl, h1⟩, h2⟩ := h
      have ih := e_ok a hX x h1
      exact ⟨(pe_not ih.pe).weak fun _ _ _ => w_nt, fun _ => (pt_not (ih.pt h2)).weak fun _ _ _ => w_ntT, fun _ _ _ z => nomatch z⟩
    | _ => cases h
  | .cmp o a b, X, hX, e, h => by
    cases e with
    | Compare x ops ys p =>
      cases ops with
      | nil => cases h
      | cons op ops =>
        cases ops with
        | cons _ _ => cases h
        | nil =>
          cases ys with
          | nil => cases h
          | cons y ys =>
            cases ys with
            | cons _ _ => cases h
            | nil =>
              have h : (decide (op = o.op) && chkE C X.env.scope X.fn a x && chkE C X.env.scope X.fn b y && !(behindInMarks op y)) = true := h
              simp only [Bool.and_eq_true, decide_eq_true_eq] at h
              obtain ⟨⟨⟨rfl, h1⟩, h2⟩, h3⟩ := h
              obtain ⟨r, ho, hs⟩ := CO.ok (X := X) hX.u o
              exact ⟨ev_cmp ho hs (e_ok a hX x h1).pe (e_ok b hX y h2).pe (not_t h3), fun _ => et_cmp ho hs (e_ok a hX x h1).pe (e_ok b hX y h2).pe (not_t h3), fun _ _ _ z => nomatch z⟩
    | _ => cases h
  | .ch2 o o' a b c, X, hX, e, h => by
    cases e with
    | Compare x ops ys p =>
      match ops, ys, h with
      | [op, op'], [y, z], h =>
        have h : (decide (op = o.op) && decide (op' = o'.op) && chkE C X.env.scope X.fn a x && chkE C X.env.scope X.fn b y && chkE C X.env.scope X.fn c z && !(lastMarks [op, op'] [y, z])) = true := h
        simp only [Bool.and_eq_true, decide_eq_true_eq] at h
        obtain ⟨⟨⟨⟨⟨rfl, rfl⟩, h1⟩, h2⟩, h3⟩, h4⟩ := h
        obtain ⟨r, ho, hs⟩ := CO.ok (X := X) hX.u o
        obtain ⟨r', ho', hs'⟩ := CO.ok (X := X) hX.u o'
        have i1 := (e_ok a hX x h1).pe
        have i2 := (e_ok b hX y h2).pe
        have i3 := (e_ok c hX z h3).pe
        exact ⟨(pe_chain ho ho' i1 i2 i3 (not_t h4)).weak fun _ _ _ => w_ch2 hs hs', fun _ => (pt_chain ho ho' i1 i2 i3 (not_t h4)).weak fun _ _ _ => w_test fun _ => w_ch2 hs hs', fun _ _ _ z => nomatch z⟩
    | _ => cases h
  | .an a b, X, hX, e, h => by
    cases e with
    | BoolOp op vs p =>
      match vs, h with
      | x :: y :: r, h =>
        have h : (decide (op = .And) && chkE C X.env.scope X.fn a x && notIf x && chkE C X.env.scope X.fn b (.BoolOp .And (y :: r) p)) = true := h
        simp only [Bool.and_eq_true, decide_eq_true_eq] at h
        obtain ⟨⟨⟨rfl, h1⟩, h2⟩, h3⟩ := h
        have i1 := e_ok a hX x h1
        have i2 := e_ok b hX _ h3
        have w : PW X (.BoolOp .And (x :: y :: r) p) (tTV X.K (fT (anR (runE fs a) (runE fs b)))) := (pw_and (i1.pt h2) (i2.pw _ _ _ rfl)).weak fun _ _ _ => w_anT
        exact ⟨(pe_and i1.pe i2.pe).weak fun _ _ _ => w_an, fun _ => w.pt, fun _ _ _ z => by cases z; exact w⟩
    | _ => cases h
  | .or a b, X, hX, e, h => by
    cases e with
    | BoolOp op vs p =>
      match vs, h with
      | x :: y :: r, h =>
        have h : (decide (op = .Or) && chkE C X.env.scope X.fn a x && notIf x && chkE C X.env.scope X.fn b (.BoolOp .Or (y :: r) p)) = true := h
        simp only [Bool.and_eq_true, decide_eq_true_eq] at h
        obtain ⟨⟨⟨rfl, h1⟩, h2⟩, h3⟩ := h
        have i1 := e_ok a hX x h1
        have i2 := e_ok b hX _ h3
        have w : PW X (.BoolOp .Or (x :: y :: r) p) (tTV X.K (fT (orR (runE fs a) (runE fs b)))) := (pw_or (i1.pt h2) (i2.pw _ _ _ rfl)).weak fun _ _ _ => w_orT
        exact ⟨(pe_or i1.pe i2.pe).weak fun _ _ _ => w_or, fun _ => w.pt, fun _ _ _ z => by cases z; exact w⟩
    | _ => cases h
  | .one a, X, hX, e, h => by
    cases e with
    | BoolOp op vs p =>
      match vs, h with
      | [x], h =>
        have h : (chkE C X.env.scope X.fn a x && notIf x) = true := h
        simp only [Bool.and_eq_true] at h
        have i1 := e_ok a hX x h.1
        have w : PW X (.BoolOp op [x] p) (tTV X.K (fT (runE fs a))) := by
          have i2 := i1.pt h.2
          cases op
          · exact pw_and1 i2
          · exact pw_or1 i2
        exact ⟨pe_one i1.pe, fun _ => w.pt, fun _ _ _ z => by cases z; exact w⟩
    | _ => cases h
  | .ite c a b, X, hX, e, h => by
    cases e with
    | IfExp t x y p =>
      have h : (chkE C X.env.scope X.fn c t && notIf t && chkE C X.env.scope X.fn a x && chkE C X.env.scope X.fn b y) = true := h
      simp only [Bool.and_eq_true] at h
      obtain ⟨⟨⟨h1, h2⟩, h3⟩, h4⟩ := h
      exact ⟨(pe_ifExp ((e_ok c hX t h1).pt h2) (e_ok a hX x h3).pe (e_ok b hX y h4).pe).weak fun _ _ _ => w_ite, (fun z => by cases z), (fun _ _ _ z => nomatch z)⟩
    | _ => cases h
  | .ix a b, X, hX, e, h => by
    cases e with
    | Subscript x y p =>
      have h : (chkE C X.env.scope X.fn a x && chkE C X.env.scope X.fn b y && notSl y) = true := h
      simp only [Bool.and_eq_true] at h
      obtain ⟨⟨h1, h2⟩, h3⟩ := h
      exact .of ((pe_ix ix_seq (e_ok a hX x h1).pe (e_ok b hX y h2).pe (plain_ix h3)).weak (tOp_of ix_S)) (fun _ => rfl) fun _ _ _ z => nomatch z
    | _ => cases h
  | .sl a lo hi, X, hX, e, h => by
    cases e with
    | Subscript x y p =>
      cases y with
      | Slice l u s p2 =>
        cases s with
        | some _ => cases h
        | none =>
          have h : (chkE C X.env.scope X.fn a x && chkO C X.env.scope X.fn lo l && chkO C X.env.scope X.fn hi u) = true := h
          simp only [Bool.and_eq_true] at h
          obtain ⟨⟨h1, h2⟩, h3⟩ := h
          exact .of ((pe_slice (sl_list.or sl_tupA) (e_ok a hX x h1).pe (o_ok lo hX l h2) (o_ok hi hX u h3)).weak fun _ _ _ => w_sl) (fun _ => rfl) fun _ _ _ z => nomatch z
      | _ => cases h
    | _ => cases h
  | .rv a, X, hX, e, h => by
    cases e with
    | Subscript x y p =>
      match y, h with
      | .Slice none none (some (.UnaryOp op (.Constant c _ _) _)) _, h =>
        have h : (decide (op = .USub) && decide (c = .int 1) && chkE C X.env.scope X.fn a x) = true := h
        simp only [Bool.and_eq_true, decide_eq_true_eq] at h
        obtain ⟨⟨rfl, rfl⟩, h1⟩ := h
        exact .of ((pe_revA (e_ok a hX x h1).pe).weak fun _ _ _ => w_rv) (fun _ => rfl) fun _ _ _ z => nomatch z
    | _ => cases h
  | .fn f es, X, hX, e, h => by
    cases e with
    | Call c ys ks p =>
      match c, ys, ks, h with
      | .Name x np, y :: ys, [], h =>
        have h : (decide (x = (f.name : Str)) && bfn C X.env.scope x && chkEs C X.env.scope X.fn es (y :: ys) && noSt (y :: ys)) = true := h
        simp only [Bool.and_eq_true, decide_eq_true_eq] at h
        obtain ⟨⟨⟨rfl, h2⟩, h3⟩, h4⟩ := h
        obtain ⟨g1, g2, g3, g4⟩ := bfn_ok hX h2
        obtain ⟨r, hr, hs⟩ := BF.ok hX.calm hX.gu hX.u f
        have hb := f.boot
        have h5 : star1 y = false ∧ noSt ys = true := by
          unfold noSt at h4 ⊢
          simp only [List.all_cons, Bool.and_eq_true, Bool.not_eq_true'] at h4
          exact h4
        have st := star_cons ys X.env h5.1
        have an : (backTo p (starEach ys X.env)).any (·.1) = false := back_any.trans (star_all h5.2)
        have ha := es_ok es hX (y :: ys) h3
        refine .of ?_ (fun _ => rfl) fun _ _ _ z => nomatch z
        unfold BF.callee at hr hb
        cases ht : f.isTy with
        | true =>
          rw [ht] at hr hb
          exact (pe_callTy hr g1 g4 hb ha g3 g2 st an).weak fun _ _ _ => w_lift hs
        | false =>
          rw [ht] at hr hb
          exact (pe_callB hr g1 g4 hb ha g3 g2 st an).weak fun _ _ _ => w_lift hs
    | _ => cases h
  | .isa T a, X, hX, e, h => by
    cases e with
    | Call c ys ks p =>
      match c, ys, ks, h with
      | .Name x np, [y, .Name t tp], [], h =>
        have h : (decide (x = ("isinstance" : Str)) && bfn C X.env.scope x && chkE C X.env.scope X.fn a y && !(star1 y) && decide (t = (T : Str)) && bfn C X.env.scope t && decide (T ∈ types)) = true := h
        simp only [Bool.and_eq_true, decide_eq_true_eq] at h
        obtain ⟨⟨⟨⟨⟨⟨rfl, h1⟩, h2⟩, h3⟩, rfl⟩, h4⟩, h5⟩ := h
        obtain ⟨g1, g2, g3, g4⟩ := bfn_ok hX h1
        obtain ⟨t1, t2, t3, t4⟩ := bfn_ok hX h4
        refine .of ((pe_callB call_isi g1 g4 boot_isinstance (pa_cons (e_ok a hX y h2).pe (pa_cons (pe_bltn (v := .ty T) t1 t4 (boot_ty T h5) rfl t3 t2) pa_nil) (star_cons _ _ (not_t h3))) g3 g2 (star_cons _ _ (not_t h3))).weak fun _ _ _ => w_isa) (fun _ => rfl) fun _ _ _ z => nomatch z
    | _ => cases h
  | .call i es, X, hX, e, h => by
    cases e with
    | Call c ys ks p =>
      match c, ks, h with
      | .Name x np, [], h =>
        have h : (decide (C.fns[i]? = some (x, ys.length)) && glb X.env.scope x && chkEs C X.env.scope X.fn es ys && noSt ys) = true := h
        simp only [Bool.and_eq_true, decide_eq_true_eq] at h
        obtain ⟨⟨⟨h1, h2⟩, h3⟩, h4⟩ := h
        obtain ⟨g1, g2, g3⟩ := glb_ok h2
        have c := hX.fns i x _ h1
        refine .of ?_ (fun _ => rfl) fun _ _ _ z => nomatch z
        cases ys with
        | nil =>
          cases es with
          | nil => exact pe_user0 c hX.rm hX.gu g1 g2
          | cons _ _ => cases h3
        | cons y ys =>
          have h5 : star1 y = false ∧ noSt ys = true := by
            unfold noSt at h4 ⊢
            simp only [List.all_cons, Bool.and_eq_true, Bool.not_eq_true'] at h4
            exact h4
          exact pe_user c hX.rm hX.gu g1 (es_ok es hX (y :: ys) h3) g2 (fun ρ q ds ρ' q' e => by rw [runEs_len h3 e]; rfl) (star_cons ys X.env h5.1) (back_any.trans (star_all h5.2))
    | _ => cases h
  | .comp own tg it c elt, X, hX, e, h => by
    cases e with
    | ListComp x gs scope p =>
      match gs, h with
      | [⟨t, i, ifs, a⟩], h =>
        have h : (decide (a = 0) && blkC C.N X.env.scope scope own && (slotsT tg).all (fun j => decide (j ∈ own.map (·.2))) && notSet i && chkI C X.env.scope X.fn it t i &&
          chkT C.N (relS scope X.env.scope) (fun z => scope.names.lookup z == some .cell) tg t && chkC C (relS scope X.env.scope) (fun z => scope.names.lookup z == some .cell) c ifs && chkE C (relS scope X.env.scope) (fun z => scope.names.lookup z == some .cell) elt x) = true := h
        simp only [Bool.and_eq_true, decide_eq_true_eq, List.all_eq_true] at h
        obtain ⟨⟨⟨⟨⟨⟨⟨rfl, h1⟩, h2⟩, h3⟩, h4⟩, h5⟩, h6⟩, h7⟩ := h
        have nd : X.N.Nodup := by rw [hX.N]; exact hX.nd
        refine .of ((pe_lc (own := own) (g := gEV X.K (slotsT tg) (asg tg)) (tt := tTV X.K (runC fs c)) (te := tEV X.K (runE fs elt)) hX.calm nd (i_ok it hX t i h4) (blkOk_by (by rw [hX.N]; exact h1)) (fun s H D cl fp => ?_) (fun s H D cl fp => ?_) (fun s H D cl fp => ?_) (fold_no h3)).weak (tLc_of h2)) (fun _ => rfl) fun _ _ _ z => nomatch z
        · exact pg_ok (X := X.blk s H scope (compEnvC scope cl D X.env) fp) hX.calm nd (slotsT tg) tg t (by rw [show (X.blk s H scope (compEnvC scope cl D X.env) fp).N = C.N from hX.N]; exact h5) fun _ h => h
        · exact c_ok c (hX.blk s H scope (compEnvC scope cl D X.env) fp) ifs h6
        · exact (e_ok elt (hX.blk s H scope (compEnvC scope cl D X.env) fp) x h7).pe
    | _ => cases h
  | .scp a, X, hX, e, h => by
    have i1 := e_ok a hX e h
    exact ⟨i1.pe.weak fun _ _ _ => w_scp, fun z => (i1.pt z).weak fun _ _ _ => w_scpT, fun op es p z => (i1.pw op es p z).weak fun _ _ _ => w_scpT⟩
  | .lrg t a b, X, hX, e, h => by
    match e, h with
    | .Call (.Name x np) [.Call (.Name r rp) [y] [] p2] [] p, h =>
      have h : (decide (x = ((if t then "tuple" else "list" : String) : Str)) && bfn C X.env.scope x && decide (r = ("range" : Str)) && bfn C X.env.scope r && chkO C X.env.scope X.fn a none && chkE C X.env.scope X.fn b y && !(star1 y)) = true := h
      simp only [Bool.and_eq_true, decide_eq_true_eq] at h
      obtain ⟨⟨⟨⟨⟨⟨ex, h1⟩, rfl⟩, h2⟩, h4⟩, h5⟩, h6⟩ := h
      obtain ⟨g1, g2, g3, g4⟩ := bfn_ok hX h1
      obtain ⟨r1, r2, r3, r4⟩ := bfn_ok hX h2
      refine .of ?_ (fun _ => rfl) fun _ _ _ z => nomatch z
      cases a with
      | some _ => cases h4
      | none =>
        have st := star_cons [] X.env (not_t h6)
        have rg := prg_1 (p := rp) (pos := p2) r1 r4 (e_ok b hX y h5).pe st
        cases t with
        | false =>
          subst ex
          exact (pe_listRg (p := np) (pos := p) hX.calm g1 g4 rg).weak fun _ _ _ => w_lrgL rg1_s
        | true =>
          subst ex
          exact (pe_tupRg (p := np) (pos := p) hX.calm g1 g4 rg).weak fun _ _ _ => w_lrgT rg1_s
    | .Call (.Name x np) [.Call (.Name r rp) [z, y] [] p2] [] p, h =>
      have h : (decide (x = ((if t then "tuple" else "list" : String) : Str)) && bfn C X.env.scope x && decide (r = ("range" : Str)) && bfn C X.env.scope r && chkO C X.env.scope X.fn a (some z) && chkE C X.env.scope X.fn b y && !(star1 y) && !(star1 z)) = true := h
      simp only [Bool.and_eq_true, decide_eq_true_eq] at h
      obtain ⟨⟨⟨⟨⟨⟨⟨ex, h1⟩, rfl⟩, h2⟩, h4⟩, h5⟩, h6⟩, h7⟩ := h
      obtain ⟨g1, g2, g3, g4⟩ := bfn_ok hX h1
      obtain ⟨r1, r2, r3, r4⟩ := bfn_ok hX h2
      refine .of ?_ (fun _ => rfl) fun _ _ _ z => nomatch z
      cases a with
      | none => cases h4
      | some w =>
        have h4 : chkE C X.env.scope X.fn w z = true := h4
        have st := star_cons [] X.env (not_t h6)
        have rg := prg_2 (p := rp) (pos := p2) r1 r4 (e_ok w hX z h4).pe (e_ok b hX y h5).pe (star_cons _ _ (not_t h7)) st (by rw [st]; rfl)
        cases t with
        | false =>
          subst ex
          exact (pe_listRg (p := np) (pos := p) hX.calm g1 g4 rg).weak fun _ _ _ => w_lrgL rg2_s
        | true =>
          subst ex
          exact (pe_tupRg (p := np) (pos := p) hX.calm g1 g4 rg).weak fun _ _ _ => w_lrgT rg2_s
  | .pop i, X, hX, e, h => by
    cases e with
    | Call c ys ks p =>
      match c, ys, ks, h with
      | .Attribute (.Name x np) n ap, [], [], h =>
        have h : (decide (C.N[i]? = some x) && vis X.env.scope x && decide (n = ("pop" : Str)) && (ap.endLine == p.line)) = true := h
        simp only [Bool.and_eq_true, decide_eq_true_eq] at h
        obtain ⟨⟨⟨h1, h2⟩, rfl⟩, h3⟩ := h
        obtain ⟨v1, v2, v3⟩ := vis_ok h2
        exact .of ((pe_bm0 PySem.F.plainAttrs_list PySem.F.slot_list_pop PySem.F.type_list_pop mt_pop (pe_var (by rw [hX.N]; exact h1) v1 v2 v3) rfl h3).weak fun _ _ _ => w_pop) (fun _ => rfl) fun _ _ _ z => nomatch z
    | _ => cases h
  | .popAt i a, X, hX, e, h => by
    cases e with
    | Call c ys ks p =>
      match c, ys, ks, h with
      | .Attribute (.Name x np) n ap, [y], [], h =>
        have h : (decide (C.N[i]? = some x) && vis X.env.scope x && decide (n = ("pop" : Str)) && (ap.endLine == p.line) && chkE C X.env.scope X.fn a y && !(star1 y)) = true := h
        simp only [Bool.and_eq_true, decide_eq_true_eq] at h
        obtain ⟨⟨⟨⟨⟨h1, h2⟩, rfl⟩, h3⟩, h4⟩, h5⟩ := h
        obtain ⟨v1, v2, v3⟩ := vis_ok h2
        have st := star_cons [] X.env (not_t h5)
        exact .of ((pe_bm PySem.F.plainAttrs_list PySem.F.slot_list_pop PySem.F.type_list_pop mt_popAt (pe_var (by rw [hX.N]; exact h1) v1 v2 v3) (pa_cons (e_ok a hX y h4).pe pa_nil st) rfl (by rw [st]; rfl) h3 st).weak fun _ _ _ => w_popAt) (fun _ => rfl) fun _ _ _ z => nomatch z
    | _ => cases h
theorem es_ok : ∀ (ir : IEs) {X : Cx} (hX : XC C fs k X) (es : List Expr), chkEs C X.env.scope X.fn ir es = true → PA X es (tAV X.K (runEs fs ir))
  | .nil, X, hX, es, h => by
    cases es with
    | nil => exact pa_nil.weak fun _ _ _ => w_nil
    | cons _ _ => cases h
  | .cons a r, X, hX, es, h => by
    cases es with
    | nil => cases h
    | cons x xs =>
      have h : (chkE C X.env.scope X.fn a x && !(star1 x) && chkEs C X.env.scope X.fn r xs) = true := h
      simp only [Bool.and_eq_true] at h
      obtain ⟨⟨h1, h2⟩, h3⟩ := h
      exact (pa_cons (e_ok a hX x h1).pe (es_ok r hX xs h3) (star_cons _ _ (not_t h2))).weak fun _ _ _ => w_cons
theorem o_ok : ∀ (ir : IO) {X : Cx} (hX : XC C fs k X) (o : Option Expr), chkO C X.env.scope X.fn ir o = true → PO X o (tOV X.K (runO fs ir))
  | .none, X, hX, o, h => by
    cases o with
    | none => exact ⟨fun pins s σ H Q I w => po_none.run pins s σ H Q I (w_noneO w)⟩
    | some _ => cases h
  | .some a, X, hX, o, h => by
    cases o with
    | none => cases h
    | some x => exact ⟨fun pins s σ H Q I w => (po_some (e_ok a hX x h).pe).run pins s σ H Q I (w_someO w)⟩
theorem c_ok : ∀ (ir : IO) {X : Cx} (hX : XC C fs k X) (es : List Expr), chkC C X.env.scope X.fn ir es = true → PTs X es (tTV X.K (runC fs ir))
  | .none, X, hX, es, h => by
    cases es with
    | cons _ _ => cases h
    | nil => exact ⟨fun pins s σ H Q I w => pts_nil.run pins s σ H Q I (by obtain ⟨U, Z, ρ, q, b, ρ', q', A, e, kk⟩ := w; cases e; exact kk Z H (.refl Z) A)⟩
  | .some a, X, hX, es, h => by
    match es, h with
    | [x], h =>
      have h : (chkE C X.env.scope X.fn a x && notIf x) = true := h
      simp only [Bool.and_eq_true] at h
      exact pts_one ((e_ok a hX x h.1).pt h.2)
theorem i_ok : ∀ (ir : II) {X : Cx} (hX : XC C fs k X) (t e : Expr), chkI C X.env.scope X.fn ir t e = true → PI X t e (iEV X.K (runI fs ir))
  | .seq a, X, hX, t, e, h => pi_seq (e_ok a hX e h).pe
  | .rg a b, X, hX, t, e, h => by
    match e, h with
    | .Call (.Name r rp) [y] [] p, h =>
      have h : (decide (r = ("range" : Str)) && bfn C X.env.scope r && chkO C X.env.scope X.fn a none && chkE C X.env.scope X.fn b y && !(star1 y)) = true := h
      simp only [Bool.and_eq_true, decide_eq_true_eq] at h
      obtain ⟨⟨⟨⟨rfl, h2⟩, h4⟩, h5⟩, h6⟩ := h
      obtain ⟨r1, r2, r3, r4⟩ := bfn_ok hX h2
      cases a with
      | some _ => cases h4
      | none => exact pi_rg1 r1 r4 (e_ok b hX y h5).pe (star_cons [] X.env (not_t h6))
    | .Call (.Name r rp) [z, y] [] p, h =>
      have h : (decide (r = ("range" : Str)) && bfn C X.env.scope r && chkO C X.env.scope X.fn a (some z) && chkE C X.env.scope X.fn b y && !(star1 y) && !(star1 z)) = true := h
      simp only [Bool.and_eq_true, decide_eq_true_eq] at h
      obtain ⟨⟨⟨⟨⟨rfl, h2⟩, h4⟩, h5⟩, h6⟩, h7⟩ := h
      obtain ⟨r1, r2, r3, r4⟩ := bfn_ok hX h2
      cases a with
      | none => cases h4
      | some w =>
        have h4 : chkE C X.env.scope X.fn w z = true := h4
        exact pi_rg2 r1 r4 (e_ok w hX z h4).pe (e_ok b hX y h5).pe (star_cons _ _ (not_t h7)) (star_cons [] X.env (not_t h6))
  | .rg3 a b c, X, hX, t, e, h => by
    cases e with
    | Call cl ys ks p =>
      match cl, ys, ks, h with
      | .Name r rp, [x, y, z], [], h =>
        have h : (decide (r = ("range" : Str)) && bfn C X.env.scope r && chkE C X.env.scope X.fn a x && chkE C X.env.scope X.fn b y && chkE C X.env.scope X.fn c z && !(star1 x) && !(star1 y) && !(star1 z)) = true := h
        simp only [Bool.and_eq_true, decide_eq_true_eq] at h
        obtain ⟨⟨⟨⟨⟨⟨⟨rfl, h2⟩, h3⟩, h4⟩, h5⟩, h6⟩, h7⟩, h8⟩ := h
        obtain ⟨r1, r2, r3, r4⟩ := bfn_ok hX h2
        exact pi_rg3 r1 r4 (e_ok a hX x h3).pe (e_ok b hX y h4).pe (e_ok c hX z h5).pe (star_cons _ _ (not_t h6)) (star_cons _ _ (not_t h7)) (star_cons [] X.env (not_t h8))
    | _ => cases h
  | .enum a, X, hX, t, e, h => by
    match t, e, h with
    | .Tuple el kk tp, .Call (.Name r rp) [y] [] p, h =>
      have h : (decide (r = ("enumerate" : Str)) && bfn C X.env.scope r && chkE C X.env.scope X.fn a y && !(star1 y)) = true := h
      simp only [Bool.and_eq_true, decide_eq_true_eq] at h
      obtain ⟨⟨⟨rfl, h2⟩, h3⟩, h4⟩ := h
      obtain ⟨r1, r2, r3, r4⟩ := bfn_ok hX h2
      exact pi_en r1 r4 (e_ok a hX y h3).pe (star_cons [] X.env (not_t h4))
  | .zip a b, X, hX, t, e, h => by
    match t, e, h with
    | .Tuple el kk tp, .Call (.Name r rp) [x, y] [] p, h =>
      have h : (decide (r = ("zip" : Str)) && bfn C X.env.scope r && chkE C X.env.scope X.fn a x && chkE C X.env.scope X.fn b y && !(star1 x) && !(star1 y)) = true := h
      simp only [Bool.and_eq_true, decide_eq_true_eq] at h
      obtain ⟨⟨⟨⟨⟨rfl, h2⟩, h3⟩, h4⟩, h5⟩, h6⟩ := h
      obtain ⟨r1, r2, r3, r4⟩ := bfn_ok hX h2
      exact pi_zp r1 r4 (e_ok a hX x h3).pe (e_ok b hX y h4).pe (star_cons _ _ (not_t h5)) (star_cons [] X.env (not_t h6))
end
end
end Sb

set_option Elab.async false
set_option autoImplicit false
set_option linter.all false
set_option maxRecDepth 100000
set_option maxHeartbeats 4000000
/-! SbN: statements as data; new lists of one's own. -/
namespace Sb
open PySem PySem.Spec PyProof.Rows L2

inductive IK
  | lst (es : IEs)
  | of (e : IE)
  | comp (own : List (Str × Nat)) (tg : IT) (it : II) (c : IO) (elt : IE)
  | rng (a : IO) (b : IE)
  | rep (es : IEs) (b : IE)
inductive IX
  | v (e : IE)
  | o (k : IK)
mutual
inductive IS
  | set (tg : IT) (e : IE)
  | own (i : Nat) (k : IK)
  | par (ts : List Nat) (xs : List IX)
  | lc (f : Bool) (i : Nat) (own : List (Str × Nat)) (tg : IT) (it : II) (c : IO) (elt : IE)
  | put (i : Nat) (a b : IE)
  | app (i : Nat) (e : IE)
  | ext (i : Nat) (e : IE)
  | exp (e : IE)
  | ret (e : IE)
  | retN
  | iff (c : IE) (a b : ISs)
  | for_ (tg : IT) (it : II) (body : ISs)
  | whl (n : Nat) (c : IE) (body : ISs)
inductive ISs
  | nil
  | cons (s : IS) (r : ISs)
end

/-! ### what they come to -/
def compA (own : List Nat) (it : RunA) (tg : PyData → Ev → Option Ev) (cond : RunT) (elt : Run) : RunA := fun ρ q => match it ρ q with
  | none => none
  | some (ds, ρ1, q1) => match compL (compB own tg cond elt) ds (wipeE ρ1 own) q1 with
    | none => none
    | some (ys, ρ2, q2) => some (ys, backE ρ1 ρ2 own, q2)
def lenA (g : RunA) : RunA := fun ρ q => match g ρ q with
  | none => none
  | some (ds, ρ1, q1) => if ds.length ≤ 1000000 then some (ds, ρ1, q1) else none
def repA (g : RunA) (f : Run) : RunA := fun ρ q => match g ρ q with
  | none => none
  | some (ds, ρ1, q1) => if ds.length ≤ 1000000 then (match f ρ1 q1 with
    | some (.int k, ρ2, q2) => if ds.length * k.toNat ≤ 1000000 ∧ k.natAbs ≤ 1000000 then some ((List.replicate k.toNat ds).flatten, ρ2, q2) else none
    | _ => none) else none
noncomputable def runK (fs : List Fn) : IK → RunA
  | .lst es => lenA (runEs fs es)
  | .of e => seqR (runE fs e)
  | .comp own tg it c elt => compA (own.map (·.2)) (runI fs it) (asg tg) (runC fs c) (runE fs elt)
  | .rng a b => rgR (runO fs a) (runE fs b)
  | .rep es b => repA (runEs fs es) (runE fs b)
abbrev RunX := Ev → Sx → Option (List SV × Ev × Sx)
noncomputable def runXs (fs : List Fn) : List IX → RunX
  | [] => fun ρ q => some ([], ρ, q)
  | .v e :: r => fun ρ q => match runE fs e ρ q with
    | none => none
    | some (d, ρ1, q1) => match runXs fs r ρ1 q1 with
      | none => none
      | some (vs, ρ2, q2) => some (.val d :: vs, ρ2, q2)
  | .o k :: r => fun ρ q => match runK fs k ρ q with
    | none => none
    | some (ds, ρ1, q1) => match runXs fs r ρ1 q1 with
      | none => none
      | some (vs, ρ2, q2) => some (.own (.list ds) :: vs, ρ2, q2)
def setsE : List Nat → List SV → Ev → Option Ev
  | [], [], ρ => some ρ
  | i :: is, v :: vs, ρ => setsE is vs (ρ.set i (some v))
  | _, _, _ => none
def setR (tg : PyData → Ev → Option Ev) (f : Run) : RunS := fun ρ q => match f ρ q with
  | none => none
  | some (d, ρ1, q1) => match tg d ρ1 with
    | none => none
    | some ρ2 => some (.nx ρ2 q1)
def ownR (i : Nat) (g : RunA) : RunS := fun ρ q => match g ρ q with
  | none => none
  | some (ds, ρ1, q1) => some (.nx (ρ1.set i (some (.own (.list ds)))) q1)
def parR (ts : List Nat) (g : RunX) : RunS := fun ρ q => match g ρ q with
  | none => none
  | some (vs, ρ1, q1) => match setsE ts vs ρ1 with
    | none => none
    | some ρ2 => some (.nx ρ2 q1)
def putR (i : Nat) (f g : Run) : RunS := fun ρ q => match g ρ q with
  | none => none
  | some (d, ρ1, q1) => match ρ1[i]? with
    | some (some (.own (.list _))) => (match f ρ1 q1 with
      | some (.int k, ρ2, q2) => (match ρ2[i]? with
        | some (some (.own (.list ds))) => (match ixN ds.length k with
          | none => none
          | some j => some (.nx (ρ2.set i (some (.own (.list (ds.set j d))))) q2))
        | _ => none)
      | _ => none)
    | _ => none
def appR (i : Nat) (f : Run) : RunS := fun ρ q => if isOwn ρ[i]? = true then (match f ρ q with
  | none => none
  | some (d, ρ1, q1) => match ρ1[i]? with
    | some (some (.own (.list ds))) => if ds.length < 1000000 then some (.nx (ρ1.set i (some (.own (.list (ds ++ [d]))))) q1) else none
    | _ => none) else none
def extR (i : Nat) (f : Run) : RunS := fun ρ q => if isOwn ρ[i]? = true then (match f ρ q with
  | some (.list es, ρ1, q1) => (match ρ1[i]? with
    | some (some (.own (.list ds))) => if ds.length + es.length ≤ 1000000 then some (.nx (ρ1.set i (some (.own (.list (ds ++ es))))) q1) else none
    | _ => none)
  | _ => none) else none
def expR (f : Run) : RunS := fun ρ q => match f ρ q with
  | none => none
  | some (_, ρ1, q1) => some (.nx ρ1 q1)
def retR (f : Run) : RunS := fun ρ q => match f ρ q with
  | none => none
  | some (d, _, q1) => some (.rt d q1)
def iffR (c : RunT) (a b : RunS) : RunS := fun ρ q => match c ρ q with
  | none => none
  | some (true, ρ1, q1) => a ρ1 q1
  | some (false, ρ1, q1) => b ρ1 q1
def seqS (a b : RunS) : RunS := fun ρ q => match a ρ q with
  | none => none
  | some (.rt d q1) => some (.rt d q1)
  | some (.nx ρ1 q1) => b ρ1 q1
def forL (tg : PyData → Ev → Option Ev) (body : RunS) : List PyData → Ev → Sx → Option Out
  | [], ρ, q => some (.nx ρ q)
  | d :: ds, ρ, q => match tg d ρ with
    | none => none
    | some ρ1 => match body ρ1 q with
      | none => none
      | some (.rt d q2) => some (.rt d q2)
      | some (.nx ρ2 q2) => forL tg body ds ρ2 q2
def forR (tg : PyData → Ev → Option Ev) (it : RunA) (body : RunS) : RunS := fun ρ q => match it ρ q with
  | none => none
  | some (ds, ρ1, q1) => forL tg body ds ρ1 q1
def whlL (c : RunT) (body : RunS) : Nat → Ev → Sx → Option Out
  | 0, _, _ => none
  | n + 1, ρ, q => match c ρ q with
    | none => none
    | some (false, ρ1, q1) => some (.nx ρ1 q1)
    | some (true, ρ1, q1) => match body ρ1 q1 with
      | none => none
      | some (.rt d q2) => some (.rt d q2)
      | some (.nx ρ2 q2) => whlL c body n ρ2 q2
def nilS : RunS := fun ρ q => some (.nx ρ q)
mutual
noncomputable def runS (fs : List Fn) : IS → RunS
  | .set tg e => setR (asg tg) (runE fs e)
  | .own i k => ownR i (runK fs k)
  | .par ts xs => parR ts (runXs fs xs)
  | .lc f i own tg it c elt => if f = true then ownR i (compA (own.map (·.2)) (runI fs it) (asg tg) (runC fs c) (runE fs elt)) else setR (asg (.nm i)) (compR (own.map (·.2)) (runI fs it) (asg tg) (runC fs c) (runE fs elt))
  | .put i a b => putR i (runE fs a) (runE fs b)
  | .app i e => appR i (runE fs e)
  | .ext i e => extR i (runE fs e)
  | .exp e => expR (runE fs e)
  | .ret e => retR (runE fs e)
  | .retN => retR (cstR .none)
  | .iff c a b => iffR (fT (runE fs c)) (runSs fs a) (runSs fs b)
  | .for_ tg it body => forR (asg tg) (runI fs it) (runSs fs body)
  | .whl n c body => fun ρ q => whlL (fT (runE fs c)) (runSs fs body) n ρ q
noncomputable def runSs (fs : List Fn) : ISs → RunS
  | .nil => nilS
  | .cons s r => seqS (runS fs s) (runSs fs r)
end

/-! ### new lists of one's own -/
def tFV (K : PySem.W.Frag) (g : RunA) : TE := fun σ H Q => ∃ (U : Hp) (Z : Fz) (ρ : Ev) (q : Sx) (ds : List PyData) (ρ' : Ev) (q' : Sx), Ab K U Z σ H ρ q ∧ g ρ q = some (ds, ρ', q') ∧
  ∀ Z' H' a xs, Z.Le Z' → Ab K U Z' σ H' ρ' q' → H' a = some (.lst xs) → RpA K Z' xs ds → Lone U Z' a → Apart σ ρ' a → Q (.ref a) H'
section
variable {K : PySem.W.Frag} {U : Hp} {Z : Fz} {σ : Sg} {H : Hp} {ρ : Ev} {q : Sx} {Q : VK}
/-- a new list laid -/
theorem Ab.newF (A : Ab K U Z σ H ρ q) {p : Addr} {xs : List V} {ds : List PyData} (hp : H p = none) (r : RpA K Z xs ds)
    (k : ∀ Z' H' a xs, Z.Le Z' → Ab K U Z' σ H' ρ q → H' a = some (.lst xs) → RpA K Z' xs ds → Lone U Z' a → Apart σ ρ a → Q (.ref a) H') : Q (.ref p) (upd H p (.lst xs)) :=
  k Z _ p xs (.refl Z) (A.upds (A.lone_new hp) (A.apart_new hp)) upd_same r (A.lone_new hp) (A.apart_new hp)
theorem lenA_some {g : RunA} {ds : List PyData} {ρ' : Ev} {q' : Sx} (e : lenA g ρ q = some (ds, ρ', q')) : g ρ q = some (ds, ρ', q') ∧ ds.length ≤ 1000000 := by
  unfold lenA at e
  split at e
  · cases e
  · split at e
    · cases e; exact ⟨by assumption, by assumption⟩
    · cases e
theorem wF_lst {g : RunA} (h : tFV K (lenA g) σ H Q) : tLst (tAV K g) σ H Q := by
  obtain ⟨U, Z, ρ, q, ds, ρ', q', A, e, k⟩ := h
  obtain ⟨e, hl⟩ := lenA_some e
  exact ⟨U, Z, ρ, q, ds, ρ', q', A, e, fun Z1 H1 vs l A1 r1 => ⟨by rw [r1.length]; exact lim_line hl, fun p hp => A1.newF hp r1 fun Z2 H2 a xs l2 => k Z2 H2 a xs (l.trans l2)⟩⟩
theorem wF_of {f : Run} (h : tFV K (seqR f) σ H Q) : tCB (fun xs H Q => ∃ p ys, xs = [.ref p] ∧ (SqL K H p ys ∨ SqT K H p ys) ∧ ∀ l, H l = none → Q (.ref l) (upd H l (.lst ys))) (tCons (tEV K f) tNil) σ H Q := by
  obtain ⟨U, Z, ρ, q, ds, ρ', q', A, e, k⟩ := h
  rcases seqR_some e with e1 | e1
  · refine ⟨U, Z, ρ, q, _, ρ', q', A, e1, fun Z1 H1 v l A1 r1 => ?_⟩
    obtain ⟨a, xs, rfl, h1, r2⟩ := r1.list_inv
    exact ⟨a, xs, rfl, .inl (SqL.of (A1.fro _ _ h1)), fun p hp => A1.newF hp r2 fun Z2 H2 a xs l2 => k Z2 H2 a xs (l.trans l2)⟩
  · refine ⟨U, Z, ρ, q, _, ρ', q', A, e1, fun Z1 H1 v l A1 r1 => ?_⟩
    obtain ⟨a, xs, rfl, h1, r2⟩ := r1.tuple_inv
    exact ⟨a, xs, rfl, .inr (SqT.of (A1.fro _ _ h1)), fun p hp => A1.newF hp r2 fun Z2 H2 a xs l2 => k Z2 H2 a xs (l.trans l2)⟩
theorem wF_rng {a : RunO} {f : Run} {te : Sg → Hp → (Int → Int → Hp → Prop) → Prop}
    (hs : ∀ {U : Hp} {Z : Fz} {ρ : Ev} {q : Sx} {ds : List PyData} {ρ' : Ev} {q' : Sx} {Q : Int → Int → Hp → Prop}, Ab K U Z σ H ρ q → rgR a f ρ q = some (ds, ρ', q') → (∀ Z' H' lo hi, Z.Le Z' → Ab K U Z' σ H' ρ' q' → RgOk lo hi → ds = rngD lo (hi - lo).toNat → Q lo hi H') → te σ H Q)
    (h : tFV K (rgR a f) σ H Q) : tLstRg te σ H Q := by
  obtain ⟨U, Z, ρ, q, ds, ρ', q', A, e, k⟩ := h
  refine hs A e fun Z' H' lo hi l A' ok ed => ⟨ok, fun p hp => A'.newF hp (ds := ds) (by rw [ed]; exact rg_rp lo hi) fun Z2 H2 a xs l2 => k Z2 H2 a xs (l.trans l2)⟩
theorem wF_rep {g : RunA} {f : Run} (h : tFV K (repA g f) σ H Q) : tOp (fun x y H Q => rI CMul (fun i j => .int (i * j)) x y H Q ∨ rRep x y H Q ∨ rRepTA K x y H Q) (tLst (tAV K g)) (tEV K f) σ H Q := by
  obtain ⟨U, Z, ρ, q, ds, ρ', q', A, e, k⟩ := h
  unfold repA at e
  split at e
  · cases e
  rename_i ds0 ρ1 q1 e1
  split at e
  · rename_i hl0
    split at e
    · rename_i kk ρ2 q2 e2
      split at e
      · rename_i hk
        cases e
        refine ⟨U, Z, ρ, q, ds0, ρ1, q1, A, e1, fun Z1 H1 vs l A1 r1 => ⟨by rw [r1.length]; exact lim_line hl0, fun p hp => A1.newL (Q := fun x H1 => tEV K f σ H1 fun y H2 => rI CMul (fun i j => .int (i * j)) x y H2 Q ∨ rRep x y H2 Q ∨ rRepTA K x y H2 Q) hp r1 fun Z2 H2 v l2 A2 r2 => ⟨U, Z2, ρ1, q1, _, _, _, A2, e2, fun Z3 H3 v3 l3 A3 r3 => ?_⟩⟩⟩
        obtain ⟨a, xs, rfl, h1, rx⟩ := (r2.mono l3).list_inv
        obtain rfl := r3.int_inv
        refine .inr (.inl ?_)
        exact ⟨a, kk, xs, rfl, rfl, A3.fro _ _ h1, by omega, by omega, by rw [rx.length]; exact lim_line hk.1, fun p hp => A3.newF hp (rx.rep _) fun Z4 H4 a xs l4 => k Z4 H4 a xs (l.trans (l2.trans (l3.trans l4)))⟩
      · cases e
    · cases e
  · cases e
/-- a comprehension's list -/
theorem wF_lc {own ss : List Nat} {it : RunA} {tg : PyData → Ev → Option Ev} {cond : RunT} {elt : Run} (hss : ∀ j ∈ ss, j ∈ own) (h : tFV K (compA own it tg cond elt) σ H Q) :
    tLc (iEV K it) (gEV K ss tg) (tTV K cond) (tEV K elt) own σ H Q := by
  obtain ⟨U, Z, ρ, q, ys, ρ', q', A, e, k⟩ := h
  unfold compA at e
  split at e
  · cases e
  rename_i ds ρ1 q1 e1
  split at e
  · cases e
  rename_i ys0 ρ2 q2 e2
  cases e
  refine ⟨U, Z, ρ, q, ds, ρ1, q1, A, e1, fun Z1 H1 J l1 A1 Y hsz D hD => ?_⟩
  have hU : U D = none := (A1.lone_new hD).u
  refine ⟨fun i m H => m = ds.length - i ∧ i ≤ ds.length ∧ ∃ (Z' : Fz) (ρi : Ev) (qi : Sx) (av : List V) (ad rest : List PyData), Z1.Le Z' ∧ Ab K (upd U D (.lst av)) Z' (L2.wipe σ own) H ρi qi ∧ RpA K Z' av ad ∧ av.length ≤ i ∧
    compL (compB own tg cond elt) (ds.drop i) ρi qi = some (rest, ρ2, q') ∧ ad ++ rest = ys, ⟨ds.length, by simp, Nat.zero_le _, Z1, wipeE ρ1 own, q1, [], [], ys, .refl _, ?_, .nil, Nat.zero_le _, e2, rfl⟩, ?_⟩
  · have A2 := (A1.wipe own)
    exact (A2.upds (A2.lone_new hD) (A2.apart_new hD)).guard upd_same (A2.lone_new hD) (A2.apart_new hD)
  · rintro i m H2 ⟨rfl, hi, Z', ρi, qi, av, ad, rest, l', A', ra, hal, ec, ey⟩
    obtain ⟨Y1, Y2⟩ := Y l' A'
    by_cases hlt : i < ds.length
    · have hd : ds[i]? = some ds[i] := List.getElem?_eq_getElem hlt
      obtain ⟨y, ρ3, q3, ys', b1, b2, b3⟩ := compL_drop hd ec
      obtain ⟨g1, g2⟩ := Y1 i _ hd
      refine .inr ⟨g1, fun H' => ∃ (Z'' : Fz) (av' : List V), Z'.Le Z'' ∧ Ab K (upd U D (.lst av')) Z'' (L2.wipe σ own) H' ρ3 q3 ∧ RpA K Z'' av' (ad ++ y.toList) ∧ av'.length ≤ i + 1, fun H' hN => ?_, fun x H' hy => ?_⟩
      · obtain ⟨Z'', av', l'', A'', ra', hal'⟩ := hN
        exact ⟨ds.length - (i + 1), by omega, rfl, hlt, Z'', ρ3, q3, av', ad ++ y.toList, ys', l'.trans l'', A'', ra', hal', b2, by rw [List.append_assoc, ← b3]; exact ey⟩
      · obtain ⟨Z3, l3, A3, r3⟩ := g2 x H' hy
        unfold compB at b1
        split at b1
        · cases b1
        rename_i ρ4 t1
        refine ⟨upd U D (.lst av), Z3, ρi, qi, ds[i], ρ4, A3, r3, t1, fun σ2 but A4 => ?_⟩
        have hw : L2.wipe σ2 own = L2.wipe σ own := by rw [but.wipe hss, wipe_wipe]
        refine ⟨hw, ?_⟩
        split at b1
        · cases b1
        rename_i b ρ5 q5 t2
        refine ⟨upd U D (.lst av), Z3, ρ4, qi, b, ρ5, q5, A4, t2, fun Z5 H5 l5 A5 => ?_⟩
        cases b with
        | false =>
          rw [if_neg (by simp)] at b1 ⊢
          cases b1
          refine ⟨Z5, av, l3.trans l5, ?_, ?_, by omega⟩
          · have w5 := A5.wipe own
            rw [hw] at w5
            exact w5
          · rw [show ad ++ (none : Option PyData).toList = ad from List.append_nil _]
            exact ra.mono (l3.trans l5)
        | true =>
          rw [if_pos rfl] at b1 ⊢
          split at b1
          · cases b1
          rename_i d6 ρ6 q6 t3
          cases b1
          refine ⟨upd U D (.lst av), Z5, ρ5, q5, d6, ρ6, _, A5, t3, fun Z6 H6 v l6 A6 r6 => ?_⟩
          refine ⟨av, A6.guarded.1, Nat.lt_of_le_of_lt hal (Nat.lt_of_lt_of_le hlt hsz), Z6, av ++ [v], l3.trans (l5.trans l6), ?_, (ra.mono (l3.trans (l5.trans l6))).append (.cons r6 .nil), ?_⟩
          · have w6 := (A6.wipe own).reguard (o' := .lst (av ++ [v])) hU
            rw [hw] at w6
            exact w6
          · rw [List.length_append]; simp only [List.length_singleton]; omega
    · have ei : i = ds.length := by omega
      subst ei
      refine .inl ⟨Y2, ?_⟩
      rw [List.drop_length, compL] at ec
      cases ec
      rw [List.append_nil] at ey
      subst ey
      obtain ⟨g1, g2, g3, g4⟩ := A'.guarded
      obtain ⟨A7, l7⟩ := A'.unguard hU
      refine k Z' _ D av (l1.trans l') (A1.back l' A7) g1 ra l7 fun j d hj z => ?_
      rcases backE_some hj with ⟨hn, hj⟩ | ⟨d', z', _⟩
      · exact g4 j d hj (by rw [wipe_get, if_neg hn]; exact z)
      · cases z'
end
end Sb

set_option Elab.async false
set_option autoImplicit false
set_option linter.all false
set_option maxRecDepth 100000
set_option maxHeartbeats 4000000
/-! SbO: several stores at once; loops. -/
namespace Sb
open PySem PySem.Spec PyProof.Rows L2

inductive SVA (K : PySem.W.Frag) (U : Hp) (Z : Fz) (σ : Sg) (ρ : Ev) (H : Hp) : List V → List SV → List Addr → Prop
  | nil : SVA K U Z σ ρ H [] [] []
  | val {v : V} {d : PyData} {vs : List V} {ws : List SV} {as : List Addr} : Rp K Z v d → SVA K U Z σ ρ H vs ws as → SVA K U Z σ ρ H (v :: vs) (.val d :: ws) as
  | own {a : Addr} {xs : List V} {ds : List PyData} {vs : List V} {ws : List SV} {as : List Addr} : H a = some (.lst xs) → RpA K Z xs ds → Lone U Z a → Apart σ ρ a → a ∉ as → SVA K U Z σ ρ H vs ws as →
      SVA K U Z σ ρ H (.ref a :: vs) (.own (.list ds) :: ws) (a :: as)
section
variable {K : PySem.W.Frag} {U : Hp} {Z : Fz} {σ : Sg} {H : Hp} {ρ : Ev} {q : Sx} {vs : List V} {ws : List SV} {as : List Addr}
theorem SVA.len (h : SVA K U Z σ ρ H vs ws as) : vs.length = ws.length := by
  induction h with
  | nil => rfl
  | val _ _ ih => simp [ih]
  | own _ _ _ _ _ _ ih => simp [ih]
theorem SVA.lone (h : SVA K U Z σ ρ H vs ws as) : ∀ a ∈ as, Lone U Z a ∧ H a ≠ none := by
  induction h with
  | nil => intro a h; cases h
  | val _ _ ih => exact ih
  | own h1 _ h3 _ _ _ ih =>
    intro b hb
    rcases List.mem_cons.mp hb with rfl | hb
    · exact ⟨h3, by rw [h1]; simp⟩
    · exact ih b hb
/-- told of another heap and other slots -/
theorem SVA.map {U' : Hp} {σ' : Sg} {ρ' : Ev} {H' : Hp} (h : SVA K U Z σ ρ H vs ws as) (hH : ∀ a ∈ as, H' a = H a) (hl : ∀ a ∈ as, Lone U Z a → Lone U' Z a) (ha : ∀ a ∈ as, Apart σ ρ a → Apart σ' ρ' a) : SVA K U' Z σ' ρ' H' vs ws as := by
  induction h with
  | nil => exact .nil
  | val r _ ih => exact .val r (ih hH hl ha)
  | own h1 h2 h3 h4 h5 _ ih =>
    refine .own ?_ h2 (hl _ List.mem_cons_self h3) (ha _ List.mem_cons_self h4) h5 (ih (fun b hb => hH b (List.mem_cons_of_mem _ hb)) (fun b hb => hl b (List.mem_cons_of_mem _ hb)) fun b hb => ha b (List.mem_cons_of_mem _ hb))
    rw [hH _ List.mem_cons_self]
    exact h1
def setsV : List Nat → List V → Sg → Sg
  | i :: is, v :: vs, σ => setsV is vs (σ.set i (some v))
  | _, _, σ => σ
theorem apart_set {i : Nat} {v : V} {d : PyData} {b : Addr} (h : Apart σ ρ b) : Apart (σ.set i (some v)) (ρ.set i (some (.val d))) b := fun j d' e z => by
  rcases get_set e with ⟨_, w, _⟩ | ⟨hne, e⟩
  · cases w
  · rw [List.getElem?_set_ne hne] at z
    exact h j d' e z
theorem apart_setO {i : Nat} {a b : Addr} {d : PyData} (h : Apart σ ρ b) (n : b ≠ a) : Apart (σ.set i (some (.ref a))) (ρ.set i (some (.own d))) b := fun j d' e z => by
  rcases get_set e with ⟨hj, _, _⟩ | ⟨hne, e⟩
  · subst hj
    rcases get_set z with ⟨_, w, _⟩ | ⟨w, _⟩
    · cases w; exact n rfl
    · exact w rfl
  · rw [List.getElem?_set_ne hne] at z
    exact h j d' e z
theorem SVA.sets (h : SVA K U Z σ ρ H vs ws as) : ∀ {ts : List Nat} {ρ' : Ev}, Ab K U Z σ H ρ q → setsE ts ws ρ = some ρ' → Ab K U Z (setsV ts vs σ) H ρ' q := by
  have go : ∀ {vs : List V} {ws : List SV} {as : List Addr} {σ : Sg} {ρ : Ev}, SVA K U Z σ ρ H vs ws as → ∀ {ts : List Nat} {ρ' : Ev}, Ab K U Z σ H ρ q → setsE ts ws ρ = some ρ' → Ab K U Z (setsV ts vs σ) H ρ' q := by
    intro vs
    induction vs with
    | nil =>
      intro ws as σ ρ h ts ρ' A e
      cases h
      cases ts with
      | nil => cases e; exact A
      | cons t ts => cases e
    | cons v vs ih =>
      intro ws as σ ρ h ts ρ' A e
      cases ts with
      | nil => cases h <;> cases e
      | cons t ts =>
        cases h with
        | val r h => exact ih (h.map (fun _ _ => rfl) (fun _ _ l => l) fun _ _ l => apart_set l) (A.setVal r) e
        | own h1 h2 h3 h4 h5 h =>
          refine ih (h.map (fun _ _ => rfl) (fun _ _ l => l) fun b hb l => apart_setO l fun z => h5 (by rw [← z]; exact hb)) (A.setOwn (show OwnAt K Z H _ (.list _) from ⟨_, h1, h2⟩) h3 h4) e
  exact fun {ts ρ'} A e => go h A e
def tXV (K : PySem.W.Frag) (f : RunX) : TA := fun σ H Qa => ∃ (U : Hp) (Z : Fz) (ρ : Ev) (q : Sx) (ws : List SV) (ρ' : Ev) (q' : Sx), Ab K U Z σ H ρ q ∧ f ρ q = some (ws, ρ', q') ∧
  ∀ Z' H' vs as, Z.Le Z' → Ab K U Z' σ H' ρ' q' → SVA K U Z' σ ρ' H' vs ws as → Qa vs H'
theorem wX_nil {Qa : List V → Hp → Prop} (h : tXV K (fun ρ q => some ([], ρ, q)) σ H Qa) : tNil σ H Qa := by
  obtain ⟨U, Z, ρ, q, ws, ρ', q', A, e, k⟩ := h
  cases e
  exact k Z H [] [] (.refl Z) A .nil
theorem SVA.mono {Z' : Fz} {H' : Hp} {ρ' : Ev} (h : SVA K U Z σ ρ H vs ws as) (l : Z.Le Z') (hH : ∀ a ∈ as, Lone U Z a → H' a = H a ∧ Lone U Z' a ∧ Apart σ ρ' a) : SVA K U Z' σ ρ' H' vs ws as := by
  induction h with
  | nil => exact .nil
  | val r _ ih => exact .val (r.mono l) (ih hH)
  | own h1 h2 h3 h4 h5 _ ih =>
    obtain ⟨a, b, c⟩ := hH _ List.mem_cons_self h3
    exact .own (by rw [a]; exact h1) (h2.mono l) b c h5 (ih fun b hb => hH b (List.mem_cons_of_mem _ hb))
theorem wX_val {f : Run} {g : RunX} {Qa : List V → Hp → Prop}
    (h : tXV K (fun ρ q => match f ρ q with
      | none => none
      | some (d, ρ1, q1) => match g ρ1 q1 with
        | none => none
        | some (vs, ρ2, q2) => some (.val d :: vs, ρ2, q2)) σ H Qa) : tCons (tEV K f) (tXV K g) σ H Qa := by
  obtain ⟨U, Z, ρ, q, ws, ρ', q', A, e, k⟩ := h
  dsimp only at e
  split at e
  · cases e
  rename_i d ρ1 q1 e1
  split at e
  · cases e
  rename_i vs ρ2 q2 e2
  cases e
  exact ⟨U, Z, ρ, q, d, ρ1, q1, A, e1, fun Z1 H1 v l A1 r1 => ⟨U, Z1, ρ1, q1, vs, _, _, A1, e2, fun Z2 H2 ws as l2 A2 S2 => k Z2 H2 _ _ (l.trans l2) A2 (.val (r1.mono l2) S2)⟩⟩
theorem wX_own {f : RunA} {g : RunX} {Qa : List V → Hp → Prop}
    (h : tXV K (fun ρ q => match f ρ q with
      | none => none
      | some (ds, ρ1, q1) => match g ρ1 q1 with
        | none => none
        | some (vs, ρ2, q2) => some (.own (.list ds) :: vs, ρ2, q2)) σ H Qa) : tCons (tFV K f) (tXV K g) σ H Qa := by
  obtain ⟨U, Z, ρ, q, ws, ρ', q', A, e, k⟩ := h
  dsimp only at e
  split at e
  · cases e
  rename_i d ρ1 q1 e1
  split at e
  · cases e
  rename_i vs ρ2 q2 e2
  cases e
  refine ⟨U, Z, ρ, q, d, ρ1, q1, A, e1, fun Z1 H1 a xs l A1 h1 r1 ln ap => ⟨upd U a (.lst xs), Z1, ρ1, q1, vs, _, _, A1.guard h1 ln ap, e2, fun Z2 H2 ws as l2 A2 S2 => ?_⟩⟩
  obtain ⟨g1, g2, g3, g4⟩ := A2.guarded
  obtain ⟨A3, l3⟩ := A2.unguard ln.u
  have ne : ∀ b ∈ as, b ≠ a := fun b hb z => by
    have u := (S2.lone b hb).1.u
    rw [z, upd_same] at u
    cases u
  refine k Z2 H2 _ _ (l.trans l2) A3 (.own g1 (r1.mono l2) l3 g4 (fun z => ne a z rfl) (S2.map (fun _ _ => rfl) (fun b hb l => ⟨l.f, ?_, l.s⟩) fun _ _ z => z))
  have u := l.u
  rw [upd_ne (ne b hb)] at u
  exact u
end

/-! ### loops -/
section
variable {K : PySem.W.Frag} {D : Ends} {σ : Sg} {H : Hp}
theorem forL_drop {tg : PyData → Ev → Option Ev} {body : RunS} {ds : List PyData} {i : Nat} {ρ : Ev} {q : Sx} {o : Out} {d : PyData} (hd : ds[i]? = some d) (h : forL tg body (ds.drop i) ρ q = some o) :
    ∃ ρ1, tg d ρ = some ρ1 ∧ ((∃ d2 q2, body ρ1 q = some (.rt d2 q2) ∧ o = .rt d2 q2) ∨ ∃ ρ2 q2, body ρ1 q = some (.nx ρ2 q2) ∧ forL tg body (ds.drop (i + 1)) ρ2 q2 = some o) := by
  obtain ⟨hi, e⟩ := List.getElem?_eq_some_iff.mp hd
  rw [List.drop_eq_getElem_cons hi, e, forL] at h
  split at h
  · cases h
  rename_i ρ1 e1
  refine ⟨ρ1, e1, ?_⟩
  split at h
  · cases h
  · cases h; exact .inl ⟨_, _, by assumption, rfl⟩
  · exact .inr ⟨_, _, by assumption, h⟩
theorem w_for {ss : List Nat} {it : RunA} {tg : PyData → Ev → Option Ev} {body : RunS} (h : sSt K (forR tg it body) D σ H) : tFor (iEV K it) (gEV K ss tg) (sSt K body) D σ H := by
  obtain ⟨U, Z, ρ, q, o, A, e, k⟩ := h
  unfold forR at e
  split at e
  · cases e
  rename_i ds ρ1 q1 e1
  refine ⟨U, Z, ρ, q, ds, ρ1, q1, A, e1, fun Z1 H1 J l1 A1 Y hsz => ?_⟩
  refine ⟨fun i m σ H => m = ds.length - i ∧ i ≤ ds.length ∧ ∃ (Z' : Fz) (ρi : Ev) (qi : Sx), Z1.Le Z' ∧ Ab K U Z' σ H ρi qi ∧ forL tg body (ds.drop i) ρi qi = some o, ⟨ds.length, by simp, Nat.zero_le _, Z1, ρ1, q1, .refl _, A1, e⟩, ?_⟩
  rintro i m σ2 H2 ⟨rfl, hi, Z', ρi, qi, l', A', ec⟩
  obtain ⟨Y1, Y2⟩ := Y l' A'
  by_cases hlt : i < ds.length
  · have hd : ds[i]? = some ds[i] := List.getElem?_eq_getElem hlt
    obtain ⟨ρ4, t1, t2⟩ := forL_drop hd ec
    obtain ⟨g1, g2⟩ := Y1 i _ hd
    refine .inr ⟨g1, fun σ' H' => ∃ (Z'' : Fz) (ρi : Ev) (qi : Sx), Z1.Le Z'' ∧ Ab K U Z'' σ' H' ρi qi ∧ forL tg body (ds.drop (i + 1)) ρi qi = some o, fun σ' H' hN => ⟨ds.length - (i + 1), by omega, rfl, hlt, hN⟩, fun x H' hy => ?_⟩
    obtain ⟨Z3, l3, A3, r3⟩ := g2 x H' hy
    refine ⟨U, Z3, ρi, qi, ds[i], ρ4, A3, r3, t1, fun σ4 _ A4 => ?_⟩
    rcases t2 with ⟨d2, q2, t2, rfl⟩ | ⟨ρ2, q2, t2, t3⟩
    · exact ⟨U, Z3, ρ4, qi, _, A4, t2, fun Z5 H5 v l5 A5 r5 => k Z5 H5 v (l1.trans (l'.trans (l3.trans l5))) A5 r5⟩
    · exact ⟨U, Z3, ρ4, qi, _, A4, t2, fun Z5 σ5 H5 l5 A5 => ⟨Z5, ρ2, q2, l'.trans (l3.trans l5), A5, t3⟩⟩
  · have ei : i = ds.length := by omega
    subst ei
    refine .inl ⟨Y2, ?_⟩
    rw [List.drop_length, forL] at ec
    cases ec
    exact k Z' σ2 H2 (l1.trans l') A'
theorem w_whl {n : Nat} {c : RunT} {body : RunS} (h : sSt K (fun ρ q => whlL c body n ρ q) D σ H) : tWhile (tTV K c) (sSt K body) D σ H := by
  obtain ⟨U, Z, ρ, q, o, A, e, k⟩ := h
  refine ⟨fun m σ H => ∃ (Z' : Fz) (ρi : Ev) (qi : Sx), Z.Le Z' ∧ Ab K U Z' σ H ρi qi ∧ whlL c body m ρi qi = some o, ⟨n, Z, ρ, q, .refl Z, A, e⟩, ?_⟩
  rintro m σ2 H2 ⟨Z', ρi, qi, l', A', ec⟩
  cases m with
  | zero => cases ec
  | succ m =>
    rw [whlL] at ec
    split at ec
    · cases ec
    · rename_i ρ1 q1 e1
      cases ec
      exact ⟨U, Z', ρi, qi, false, _, _, A', e1, fun Z1 H1 l1 A1 => iteF (k Z1 σ2 H1 (l'.trans l1) A1)⟩
    · rename_i ρ1 q1 e1
      refine ⟨U, Z', ρi, qi, true, _, _, A', e1, fun Z1 H1 l1 A1 => iteT ?_⟩
      refine ⟨fun σ' H' => ∃ (Z'' : Fz) (ρi : Ev) (qi : Sx), Z.Le Z'' ∧ Ab K U Z'' σ' H' ρi qi ∧ whlL c body m ρi qi = some o, fun σ' H' hN => ⟨m, Nat.lt_succ_self _, hN⟩, ?_⟩
      split at ec
      · cases ec
      · rename_i d2 q2 e2
        cases ec
        exact ⟨U, Z1, ρ1, q1, _, A1, e2, fun Z5 H5 v l5 A5 r5 => k Z5 H5 v (l'.trans (l1.trans l5)) A5 r5⟩
      · rename_i ρ2 q2 e2
        exact ⟨U, Z1, ρ1, q1, _, A1, e2, fun Z5 σ5 H5 l5 A5 => ⟨Z5, ρ2, q2, l'.trans (l1.trans l5), A5, ec⟩⟩
theorem w_seq {a b : RunS} (h : sSt K (seqS a b) D σ H) : tSeq (sSt K a) (sSt K b) D σ H := by
  obtain ⟨U, Z, ρ, q, o, A, e, k⟩ := h
  unfold seqS at e
  split at e
  · cases e
  · rename_i d q1 e1
    cases e
    exact ⟨U, Z, ρ, q, _, A, e1, k⟩
  · rename_i ρ1 q1 e1
    refine ⟨U, Z, ρ, q, _, A, e1, fun Z1 σ1 H1 l1 A1 => ⟨U, Z1, ρ1, q1, o, A1, e, ?_⟩⟩
    cases o with
    | nx ρ2 q2 => exact fun Z2 σ2 H2 l2 A2 => k Z2 σ2 H2 (l1.trans l2) A2
    | rt d q2 => exact fun Z2 H2 v l2 A2 r2 => k Z2 H2 v (l1.trans l2) A2 r2
theorem w_iff {c : RunT} {a b : RunS} (h : sSt K (iffR c a b) D σ H) : tIfS (tTV K c) (sSt K a) (sSt K b) D σ H := by
  obtain ⟨U, Z, ρ, q, o, A, e, k⟩ := h
  unfold iffR at e
  split at e
  · cases e
  · rename_i ρ1 q1 e1
    refine ⟨U, Z, ρ, q, true, ρ1, q1, A, e1, fun Z1 H1 l1 A1 => iteT ⟨U, Z1, ρ1, q1, o, A1, e, ?_⟩⟩
    cases o with
    | nx ρ2 q2 => exact fun Z2 σ2 H2 l2 A2 => k Z2 σ2 H2 (l1.trans l2) A2
    | rt d q2 => exact fun Z2 H2 v l2 A2 r2 => k Z2 H2 v (l1.trans l2) A2 r2
  · rename_i ρ1 q1 e1
    refine ⟨U, Z, ρ, q, false, ρ1, q1, A, e1, fun Z1 H1 l1 A1 => iteF ⟨U, Z1, ρ1, q1, o, A1, e, ?_⟩⟩
    cases o with
    | nx ρ2 q2 => exact fun Z2 σ2 H2 l2 A2 => k Z2 σ2 H2 (l1.trans l2) A2
    | rt d q2 => exact fun Z2 H2 v l2 A2 r2 => k Z2 H2 v (l1.trans l2) A2 r2
end
end Sb

set_option Elab.async false
set_option autoImplicit false
set_option linter.all false
set_option maxRecDepth 100000
set_option maxHeartbeats 4000000
/-! SbP: the check of statements, and what it gives. -/
namespace Sb
open PySem PySem.Spec PyProof.Rows L2

/-! ### what an assignment's form does -/
/-- no comprehension whose store is exchanged -/
def swF (sc : Scope) (t v : Expr) : Bool := match v with
  | .ListComp _ _ s p => (match t with
    | .Name x px => !(decide (sc.names.lookup x = some .local)) || !(px.line == p.line) || (s.names.any fun (n, k) => n == x && (k == .local || k == .cell))
    | _ => true)
  | .SetComp .. => false
  | .DictComp .. => false
  | _ => true
theorem swF_ok {t v : Expr} {l : Nat} {env : Env} (h : swF env.scope t v = true) : swapsWith v (some t) l env = pure false := by
  cases v with
  | ListComp e g s p =>
    cases t with
    | Name x px =>
      have h : (!(decide (env.scope.names.lookup x = some .local)) || !(px.line == p.line) || (s.names.any fun (n, k) => n == x && (k == .local || k == .cell))) = true := h
      have key : (env.blockKind == .function && env.kindOf x == some .local && px.line == p.line && !(s.names.any fun (n, k) => n == x && (k == .local || k == .cell))) = false := by
        have hk : (env.kindOf x == some NameKind.local) = decide (env.scope.names.lookup x = some .local) := by
          show (List.lookup x env.scope.names == some NameKind.local) = _
          by_cases c : List.lookup x env.scope.names = some NameKind.local
          · rw [c]; simp
          · simp [c]
        rw [hk]
        simp only [Bool.or_eq_true, Bool.not_eq_true'] at h
        rcases h with (h | h) | h
        · rw [h]; simp
        · rw [h]; simp
        · rw [h]; simp
      unfold swapsWith
      simp only [Expr.pos, key]
    | _ => rfl
  | SetComp e g s p => cases h
  | DictComp a b g s p => cases h
  | _ => rfl
/-- several targets, one by one -/
def swN (sc : Scope) (ts vs : List Expr) : Bool :=
  !(ts.length == 2 || ts.length == 3) || vs.length != ts.length || (vs.any fun | .Starred .. => true | _ => false) ||
    (let names := ts.filterMap fun
      | .Name id pos => if sc.names.lookup id == some .local && pos.line == (ts.head?.map (·.pos.line)).getD 0 then some id else none
      | _ => none
    names.length != ts.length || names.eraseDups.length != names.length || vs.all (foldedForSure 8))
theorem swN_ok {ts vs : List Expr} {k k2 : Nat} {p p2 : Pos} {env : Env} (h : swN env.scope ts vs = true) : swappedStores [.Tuple ts k p] (.Tuple vs k2 p2) env = pure none := by
  unfold swN at h
  unfold swappedStores
  simp only []
  split
  · rfl
  · rename_i c1
    split
    · rfl
    · rename_i c2
      simp only [Bool.or_eq_true] at h
      split
      · rfl
      · rename_i c3
        split
        · rfl
        · rename_i c4
          exfalso
          rcases h with ((h | h) | h) | (h | h) | h
          · exact c1 (by rw [h]; rfl)
          · exact c1 (by rw [h, Bool.or_true]; rfl)
          · exact c2 h
          · exact c3 ((Bool.or_eq_true _ _).mpr (.inl h))
          · exact c3 ((Bool.or_eq_true _ _).mpr (.inr h))
          · exact c4 h
/-- two names, stored from the right -/
def swY2 (sc : Scope) (x y : Str) (px py : Pos) (vs : List Expr) : Bool :=
  decide (sc.names.lookup x = some .local) && decide (sc.names.lookup y = some .local) && (py.line == px.line) && decide (x ≠ y) && (match vs with
    | [a, b] => !(star1 a) && !(star1 b) && !(foldedForSure 8 a && foldedForSure 8 b) && !(constantsAlone 8 a && constantsAlone 8 b)
    | _ => false)
theorem star_any1 {vs : List Expr} (h : noSt vs = true) : (vs.any fun | .Starred .. => true | _ => false) = false := by
  induction vs with
  | nil => rfl
  | cons v vs ih =>
    unfold noSt at h
    simp only [List.all_cons, Bool.and_eq_true, Bool.not_eq_true'] at h
    rw [List.any_cons, ih h.2]
    cases v <;> first | rfl | (cases h.1)
theorem swY2_ok {x y : Str} {px py p p2 : Pos} {a b : Expr} {k k2 : Nat} {env : Env} (hf : env.scope.kind = .function) (h : swY2 env.scope x y px py [a, b] = true) :
    swappedStores [.Tuple [.Name x px, .Name y py] k p] (.Tuple [a, b] k2 p2) env = pure (some [x, y]) := by
  unfold swY2 at h
  simp only [Bool.and_eq_true, decide_eq_true_eq, Bool.not_eq_true'] at h
  obtain ⟨⟨⟨⟨h1, h2⟩, h3⟩, h4⟩, ⟨⟨h5, h6⟩, h7⟩, h8⟩ := h
  have bk : env.blockKind = .function := by unfold Env.blockKind; rw [hf]; rfl
  have kx : env.kindOf x = some .local := h1
  have ky : env.kindOf y = some .local := h2
  have st := star_any1 (vs := [a, b]) (by unfold noSt; simp [h5, h6])
  have hne : (x == y) = false := by simpa using h4
  have hne' : (y == x) = false := by simpa using Ne.symm h4
  have hn : (List.filterMap (fun t : Expr => match t with | .Name id pos => if env.kindOf id == some .local && pos.line == px.line then some id else none | _ => none) [.Name x px, .Name y py]) = [x, y] := by
    have e3 : py.line = px.line := by simpa using h3
    simp [List.filterMap_cons, kx, ky, e3]
  unfold swappedStores
  simp only []
  split
  · rename_i c
    simp [bk] at c
  split
  · rename_i c
    exact absurd (st.symm.trans c) (by decide)
  split
  · rename_i c
    have c2 : (([x, y] : List Str).length != 2 || ([x, y] : List Str).eraseDups.length != ([x, y] : List Str).length) = true := by rw [← hn]; exact c
    simp [List.eraseDups, List.eraseDupsBy, List.eraseDupsBy.loop, hne, hne'] at c2
  split
  · rename_i c
    have c2 : (foldedForSure 8 a && (foldedForSure 8 b && true)) = true := c
    rw [Bool.and_true, h7] at c2
    cases c2
  split
  · rename_i c
    have c2 : (constantsAlone 8 a && (constantsAlone 8 b && true)) = true := c
    rw [Bool.and_true, h8] at c2
    cases c2
  exact congrArg (fun l => (pure (some l) : Sem (Option (List Str)))) hn
def swY3 (sc : Scope) (x y z : Str) (px py pz : Pos) (vs : List Expr) : Bool :=
  decide (sc.names.lookup x = some .local) && decide (sc.names.lookup y = some .local) && decide (sc.names.lookup z = some .local) && (py.line == px.line) && (pz.line == px.line) && decide (x ≠ y) && decide (x ≠ z) && decide (y ≠ z) && (match vs with
    | [a, b, c] => !(star1 a) && !(star1 b) && !(star1 c) && !(foldedForSure 8 a && foldedForSure 8 b && foldedForSure 8 c) && !(constantsAlone 8 a && constantsAlone 8 b && constantsAlone 8 c)
    | _ => false)
theorem swY3_ok {x y z : Str} {px py pz p p2 : Pos} {a b c : Expr} {k k2 : Nat} {env : Env} (hf : env.scope.kind = .function) (h : swY3 env.scope x y z px py pz [a, b, c] = true) :
    swappedStores [.Tuple [.Name x px, .Name y py, .Name z pz] k p] (.Tuple [a, b, c] k2 p2) env = pure (some [x, y, z]) := by
  unfold swY3 at h
  simp only [Bool.and_eq_true, decide_eq_true_eq, Bool.not_eq_true'] at h
  obtain ⟨⟨⟨⟨⟨⟨⟨⟨h1, h2⟩, h2'⟩, h3⟩, h3'⟩, h4⟩, h4'⟩, h4''⟩, ⟨⟨⟨h5, h6⟩, h6'⟩, h7⟩, h8⟩ := h
  have bk : env.blockKind = .function := by unfold Env.blockKind; rw [hf]; rfl
  have kx : env.kindOf x = some .local := h1
  have ky : env.kindOf y = some .local := h2
  have kz : env.kindOf z = some .local := h2'
  have st := star_any1 (vs := [a, b, c]) (by unfold noSt; simp [h5, h6, h6'])
  have n1 : (x == y) = false := by simpa using h4
  have n1' : (y == x) = false := by simpa using Ne.symm h4
  have n2 : (x == z) = false := by simpa using h4'
  have n2' : (z == x) = false := by simpa using Ne.symm h4'
  have n3 : (y == z) = false := by simpa using h4''
  have n3' : (z == y) = false := by simpa using Ne.symm h4''
  have hn : (List.filterMap (fun t : Expr => match t with | .Name id pos => if env.kindOf id == some .local && pos.line == px.line then some id else none | _ => none) [.Name x px, .Name y py, .Name z pz]) = [x, y, z] := by
    have e3 : py.line = px.line := by simpa using h3
    have e4 : pz.line = px.line := by simpa using h3'
    simp [List.filterMap_cons, kx, ky, kz, e3, e4]
  unfold swappedStores
  simp only []
  split
  · rename_i c
    simp [bk] at c
  split
  · rename_i c
    exact absurd (st.symm.trans c) (by decide)
  split
  · rename_i c
    have c2 : (([x, y, z] : List Str).length != 3 || ([x, y, z] : List Str).eraseDups.length != ([x, y, z] : List Str).length) = true := by rw [← hn]; exact c
    simp [List.eraseDups, List.eraseDupsBy, List.eraseDupsBy.loop, n1, n1', n2, n2', n3, n3'] at c2
  split
  · rename_i hh
    have c2 : (foldedForSure 8 a && (foldedForSure 8 b && (foldedForSure 8 c && true))) = true := hh
    rw [Bool.and_true, ← Bool.and_assoc, h7] at c2
    cases c2
  split
  · rename_i hh
    have c2 : (constantsAlone 8 a && (constantsAlone 8 b && (constantsAlone 8 c && true))) = true := hh
    rw [Bool.and_true, ← Bool.and_assoc, h8] at c2
    cases c2
  exact congrArg (fun l => (pure (some l) : Sem (Option (List Str)))) hn
def swV (sc : Scope) (t v : Expr) : Bool := match t, v with
  | .Tuple ts _ _, .Tuple vs _ _ => swN sc ts vs
  | .List _ _, .Tuple _ _ _ => false
  | _, _ => true
theorem swV_ok {t v : Expr} {env : Env} (h : swV env.scope t v = true) : swappedStores [t] v env = pure none := by
  cases t with
  | Tuple ts k p =>
    cases v with
    | Tuple vs k2 p2 => exact swN_ok h
    | _ => rfl
  | List ts p =>
    cases v with
    | Tuple vs k2 p2 => cases h
    | _ => rfl
  | _ => rfl

/-! ### the check -/
def chkK (C : CC) (sc : Scope) (fn : Str → Bool) : IK → Expr → Bool
  | .lst es, e => match e with
    | .List xs _ => chkEs C sc fn es xs
    | _ => false
  | .of a, e => match e with
    | .Call (.Name x _) [y] [] _ => decide (x = ("list" : Str)) && bfn C sc x && chkE C sc fn a y && !(star1 y)
    | _ => false
  | .comp own tg it c elt, e => chkE C sc fn (.comp own tg it c elt) e
  | .rng a b, e => chkE C sc fn (.lrg false a b) e
  | .rep es b, e => match e with
    | .BinOp (.List xs _) op y _ => decide (op = .Mult) && chkEs C sc fn es xs && chkE C sc fn b y
    | _ => false
def chkXs (C : CC) (sc : Scope) (fn : Str → Bool) : List IX → List Expr → Bool
  | [], es => match es with
    | [] => true
    | _ => false
  | x :: r, es => match es with
    | [] => false
    | e :: es => (match x with
      | .v a => chkE C sc fn a e
      | .o k => chkK C sc fn k e) && !(star1 e) && chkXs C sc fn r es
def chkNs (C : CC) (sc : Scope) (fn : Str → Bool) : List Nat → List Expr → Bool
  | [], es => match es with
    | [] => true
    | _ => false
  | i :: r, es => match es with
    | .Name x _ :: es => okNm C.N sc fn x i && chkNs C sc fn r es
    | _ => false
def ownName (C : CC) (sc : Scope) (i : Nat) (n : String) : Expr → Bool
  | .Attribute (.Name x _) m _ => decide (C.N[i]? = some x) && vis sc x && decide (m = (n : Str))
  | _ => false
def swP (sc : Scope) (tgs vs : List Expr) : Bool := match tgs with
  | [.Name x px, .Name y py] => swY2 sc x y px py vs || swN sc tgs vs
  | [.Name x px, .Name y py, .Name z pz] => swY3 sc x y z px py pz vs || swN sc tgs vs
  | _ => swN sc tgs vs
def isCall : Expr → Bool
  | .Call .. => true
  | _ => false
mutual
def chkS (C : CC) (sc : Scope) (fn : Str → Bool) : IS → Stmt → Bool
  | .set tg a, s => match s with
    | .Assign [t] e _ => chkE C sc fn a e && chkT C.N sc fn tg t && swF sc t e && swV sc t e
    | _ => false
  | .own i k, s => match s with
    | .Assign [.Name x p] e _ => chkK C sc fn k e && okNm C.N sc fn x i && swF sc (.Name x p) e
    | _ => false
  | .par ts xs, s => match s with
    | .Assign [.Tuple tgs _ _] (.Tuple vs _ _) _ => chkNs C sc fn ts tgs && chkXs C sc fn xs vs && decide (ts.Nodup) && decide (ts.length ≤ 1000) && swP sc tgs vs
    | _ => false
  | .lc f i own tg it c elt, s => match s with
    | .Assign [.Name x p] (.ListComp v g sp q) _ => chkE C sc fn (.comp own tg it c elt) (.ListComp v g sp q) && decide (C.N[i]? = some x) && decide (sc.names.lookup x = some .local) && (p.line == q.line) && !(sp.names.any fun (n, k) => n == x && (k == .local || k == .cell))
    | _ => false
  | .put i a b, s => match s with
    | .Assign [.Subscript (.Name x _) j _] e _ => decide (C.N[i]? = some x) && vis sc x && chkE C sc fn a j && chkE C sc fn b e && notSl j
    | _ => false
  | .app i a, s => match s with
    | .Expr (.Call (.Attribute (.Name x np) m ap) [y] [] cp) _ => ownName C sc i "append" (.Attribute (.Name x np) m ap) && (ap.endLine == cp.line) && chkE C sc fn a y && !(star1 y)
    | _ => false
  | .ext i a, s => match s with
    | .Expr (.Call (.Attribute (.Name x np) m ap) [y] [] cp) _ => ownName C sc i "extend" (.Attribute (.Name x np) m ap) && (ap.endLine == cp.line) && chkE C sc fn a y && !(star1 y)
    | _ => false
  | .exp a, s => match s with
    | .Expr e _ => chkE C sc fn a e && isCall e
    | _ => false
  | .ret a, s => match s with
    | .Return (some e) _ => chkE C sc fn a e
    | _ => false
  | .retN, s => match s with
    | .Return none _ => true
    | _ => false
  | .iff c a b, s => match s with
    | .If e x y _ => chkE C sc fn c e && notIf e && chkSs C sc fn a x && chkSs C sc fn b y
    | _ => false
  | .for_ tg it body, s => match s with
    | .For t e x [] _ => chkT C.N sc fn tg t && chkI C sc fn it t e && notSet e && chkSs C sc fn body x
    | _ => false
  | .whl _ c body, s => match s with
    | .While e x [] _ => chkE C sc fn c e && notIf e && chkSs C sc fn body x
    | _ => false
def chkSs (C : CC) (sc : Scope) (fn : Str → Bool) : ISs → List Stmt → Bool
  | .nil, ss => match ss with
    | [] => true
    | _ => false
  | .cons a r, ss => match ss with
    | [] => false
    | s :: ss => chkS C sc fn a s && chkSs C sc fn r ss
end
end Sb

set_option Elab.async false
set_option autoImplicit false
set_option linter.all false
set_option maxRecDepth 100000
set_option maxHeartbeats 4000000
/-! SbQ: what the check of statements gives. -/
namespace Sb
open PySem PySem.Spec PyProof.Rows L2
section
variable {C : CC} {fs : List Fn} {k : Nat}
/-- what stands of a comprehension -/
theorem comp_parts {own : List (Str × Nat)} {tg : IT} {it : II} {c : IO} {elt : IE} {X : Cx} (hX : XC C fs k X) {e : Expr} (h : chkE C X.env.scope X.fn (.comp own tg it c elt) e = true) :
    ∃ x t i ifs scope p, e = .ListComp x [⟨t, i, ifs, 0⟩] scope p ∧ PI X t i (iEV X.K (runI fs it)) ∧ BlkOk X.N X.env.scope scope own ∧ (∀ j ∈ slotsT tg, j ∈ own.map (·.2)) ∧
      (∀ (s : Shared) (H : Hp) (D : Addr) (cl : List (Str × Addr)) (fp : List Addr), PG (X.blk s H scope (compEnvC scope cl D X.env) fp) t (gEV X.K (slotsT tg) (asg tg))) ∧
      (∀ (s : Shared) (H : Hp) (D : Addr) (cl : List (Str × Addr)) (fp : List Addr), PTs (X.blk s H scope (compEnvC scope cl D X.env) fp) ifs (tTV X.K (runC fs c))) ∧
      (∀ (s : Shared) (H : Hp) (D : Addr) (cl : List (Str × Addr)) (fp : List Addr), PE (X.blk s H scope (compEnvC scope cl D X.env) fp) x (tEV X.K (runE fs elt))) ∧ ∀ z, foldedSetIterable i X.env z = pure z := by
  cases e with
  | ListComp x gs scope p =>
    match gs, h with
    | [⟨t, i, ifs, a⟩], h =>
      have h : (decide (a = 0) && blkC C.N X.env.scope scope own && (slotsT tg).all (fun j => decide (j ∈ own.map (·.2))) && notSet i && chkI C X.env.scope X.fn it t i &&
        chkT C.N (relS scope X.env.scope) (fun z => scope.names.lookup z == some .cell) tg t && chkC C (relS scope X.env.scope) (fun z => scope.names.lookup z == some .cell) c ifs && chkE C (relS scope X.env.scope) (fun z => scope.names.lookup z == some .cell) elt x) = true := h
      simp only [Bool.and_eq_true, decide_eq_true_eq, List.all_eq_true] at h
      obtain ⟨⟨⟨⟨⟨⟨⟨rfl, h1⟩, h2⟩, h3⟩, h4⟩, h5⟩, h6⟩, h7⟩ := h
      have nd : X.N.Nodup := by rw [hX.N]; exact hX.nd
      refine ⟨x, t, i, ifs, scope, p, rfl, i_ok it hX t i h4, blkOk_by (by rw [hX.N]; exact h1), h2, fun s H D cl fp => ?_, fun s H D cl fp => ?_, fun s H D cl fp => ?_, fold_no h3⟩
      · exact pg_ok (X := X.blk s H scope (compEnvC scope cl D X.env) fp) hX.calm nd (slotsT tg) tg t (by rw [show (X.blk s H scope (compEnvC scope cl D X.env) fp).N = C.N from hX.N]; exact h5) fun _ h => h
      · exact c_ok c (hX.blk s H scope (compEnvC scope cl D X.env) fp) ifs h6
      · exact (e_ok elt (hX.blk s H scope (compEnvC scope cl D X.env) fp) x h7).pe
  | _ => cases h
theorem k_ok (ir : IK) {X : Cx} (hX : XC C fs k X) (e : Expr) (h : chkK C X.env.scope X.fn ir e = true) : PE X e (tFV X.K (runK fs ir)) := by
  cases ir with
  | lst es =>
    cases e with
    | List xs p => exact (pe_lst (es_ok es hX xs h)).weak fun _ _ _ => wF_lst
    | _ => cases h
  | of a =>
    cases e with
    | Call c ys ks p =>
      match c, ys, ks, h with
      | .Name x np, [y], [], h =>
        have h : (decide (x = ("list" : Str)) && bfn C X.env.scope x && chkE C X.env.scope X.fn a y && !(star1 y)) = true := h
        simp only [Bool.and_eq_true, decide_eq_true_eq] at h
        obtain ⟨⟨⟨rfl, h1⟩, h2⟩, h3⟩ := h
        obtain ⟨g1, g2, g3, g4⟩ := bfn_ok hX h1
        have st := star_cons [] X.env (not_t h3)
        exact (pe_callTy call_list_of g1 g4 boot_list (pa_cons (e_ok a hX y h2).pe pa_nil st) g3 g2 st rfl).weak fun _ _ _ => wF_of
    | _ => cases h
  | comp own tg it c elt =>
    obtain ⟨x, t, i, ifs, scope, p, rfl, h1, h2, h3, h4, h5, h6, h7⟩ := comp_parts hX h
    have nd : X.N.Nodup := by rw [hX.N]; exact hX.nd
    exact (pe_lc (own := own) hX.calm nd h1 h2 h4 h5 h6 h7).weak fun _ _ _ => wF_lc h3
  | rng a b =>
    match e, h with
    | .Call (.Name x np) [.Call (.Name r rp) [y] [] p2] [] p, h =>
      have h : (decide (x = ("list" : Str)) && bfn C X.env.scope x && decide (r = ("range" : Str)) && bfn C X.env.scope r && chkO C X.env.scope X.fn a none && chkE C X.env.scope X.fn b y && !(star1 y)) = true := h
      simp only [Bool.and_eq_true, decide_eq_true_eq] at h
      obtain ⟨⟨⟨⟨⟨⟨rfl, h1⟩, rfl⟩, h2⟩, h4⟩, h5⟩, h6⟩ := h
      obtain ⟨g1, g2, g3, g4⟩ := bfn_ok hX h1
      obtain ⟨r1, r2, r3, r4⟩ := bfn_ok hX h2
      cases a with
      | some _ => cases h4
      | none =>
        have st := star_cons [] X.env (not_t h6)
        exact (pe_listRg (p := np) (pos := p) hX.calm g1 g4 (prg_1 (p := rp) (pos := p2) r1 r4 (e_ok b hX y h5).pe st)).weak fun _ _ _ => wF_rng rg1_s
    | .Call (.Name x np) [.Call (.Name r rp) [z, y] [] p2] [] p, h =>
      have h : (decide (x = ("list" : Str)) && bfn C X.env.scope x && decide (r = ("range" : Str)) && bfn C X.env.scope r && chkO C X.env.scope X.fn a (some z) && chkE C X.env.scope X.fn b y && !(star1 y) && !(star1 z)) = true := h
      simp only [Bool.and_eq_true, decide_eq_true_eq] at h
      obtain ⟨⟨⟨⟨⟨⟨⟨rfl, h1⟩, rfl⟩, h2⟩, h4⟩, h5⟩, h6⟩, h7⟩ := h
      obtain ⟨g1, g2, g3, g4⟩ := bfn_ok hX h1
      obtain ⟨r1, r2, r3, r4⟩ := bfn_ok hX h2
      cases a with
      | none => cases h4
      | some w =>
        have h4 : chkE C X.env.scope X.fn w z = true := h4
        have st := star_cons [] X.env (not_t h6)
        exact (pe_listRg (p := np) (pos := p) hX.calm g1 g4 (prg_2 (p := rp) (pos := p2) r1 r4 (e_ok w hX z h4).pe (e_ok b hX y h5).pe (star_cons _ _ (not_t h7)) st (by rw [st]; rfl))).weak fun _ _ _ => wF_rng rg2_s
  | rep es b =>
    match e, h with
    | .BinOp (.List xs lp) op y p, h =>
      have h : (decide (op = .Mult) && chkEs C X.env.scope X.fn es xs && chkE C X.env.scope X.fn b y) = true := h
      simp only [Bool.and_eq_true, decide_eq_true_eq] at h
      obtain ⟨⟨rfl, h1⟩, h2⟩ := h
      exact (pe_op (op_mul.or (op_rep.or op_repTA)) (pe_lst (es_ok es hX xs h1)) (e_ok b hX y h2).pe).weak fun _ _ _ => wF_rep
theorem xs_ok : ∀ (ir : List IX) {X : Cx} (hX : XC C fs k X) (es : List Expr), chkXs C X.env.scope X.fn ir es = true → PA X es (tXV X.K (runXs fs ir))
  | [], X, hX, es, h => by
    cases es with
    | nil => exact pa_nil.weak fun _ _ _ => wX_nil
    | cons _ _ => cases h
  | .v a :: r, X, hX, es, h => by
    cases es with
    | nil => cases h
    | cons e es =>
      have h : (chkE C X.env.scope X.fn a e && !(star1 e) && chkXs C X.env.scope X.fn r es) = true := h
      simp only [Bool.and_eq_true] at h
      exact (pa_cons (e_ok a hX e h.1.1).pe (xs_ok r hX es h.2) (star_cons _ _ (not_t h.1.2))).weak fun _ _ _ w => wX_val w
  | .o a :: r, X, hX, es, h => by
    cases es with
    | nil => cases h
    | cons e es =>
      have h : (chkK C X.env.scope X.fn a e && !(star1 e) && chkXs C X.env.scope X.fn r es) = true := h
      simp only [Bool.and_eq_true] at h
      exact (pa_cons (k_ok a hX e h.1.1) (xs_ok r hX es h.2) (star_cons _ _ (not_t h.1.2))).weak fun _ _ _ w => wX_own w
theorem okNm_ok {X : Cx} {x : Str} {i : Nat} (hX : XC C fs k X) (h : okNm C.N X.env.scope X.fn x i = true) : X.N[i]? = some x ∧ Loc X.env.scope x ∧ (X.fn x = true ∨ X.env.scope.names.lookup x = some .local) := by
  unfold okNm at h
  simp only [Bool.and_eq_true, decide_eq_true_eq] at h
  refine ⟨by rw [hX.N]; exact h.1, ?_⟩
  have h2 := h.2
  split at h2
  · exact ⟨.inl ‹_›, .inr ‹_›⟩
  · exact ⟨.inr ‹_›, .inl h2⟩
  · cases h2
def gSets (ts : List Nat) : TGs := fun vs σ H Q => vs.length = ts.length ∧ Q (setsV ts vs σ) H
theorem ns_ok : ∀ (ts : List Nat) {X : Cx} (hX : XC C fs k X) (es : List Expr), chkNs C X.env.scope X.fn ts es = true → PGs X es (gSets ts) ∧ (assignEach es X.env).findIdx? (·.1) = none ∧ (assignEach es X.env).length = ts.length
  | [], X, hX, es, h => by
    cases es with
    | cons _ _ => cases h
    | nil =>
      refine ⟨pgs_nil.weak fun vs σ H Q w => ?_, rfl, rfl⟩
      cases vs with
      | nil => exact ⟨rfl, w.2⟩
      | cons _ _ => cases w.1
  | i :: r, X, hX, es, h => by
    match es, h with
    | .Name x p :: es, h =>
      have h : (okNm C.N X.env.scope X.fn x i && chkNs C X.env.scope X.fn r es) = true := h
      simp only [Bool.and_eq_true] at h
      obtain ⟨a, b, c⟩ := okNm_ok hX h.1
      obtain ⟨ih, j1, j2⟩ := ns_ok r hX es h.2
      have nd : X.N.Nodup := by rw [hX.N]; exact hX.nd
      have key : assignEach (.Name x p :: es) X.env = (false, assign (.Name x p) X.env) :: assignEach es X.env := rfl
      refine ⟨(pgs_cons (pg_name nd a b c) ih).weak fun vs σ H Q w => ?_, by rw [key, List.findIdx?_cons, j1]; rfl, by rw [key, List.length_cons, List.length_cons, j2]⟩
      cases vs with
      | nil => cases w.1
      | cons v vs => exact ⟨v, vs, rfl, by simpa using w.1, w.2⟩
theorem setsE_len : ∀ {ts : List Nat} {ws : List SV} {ρ ρ' : Ev}, setsE ts ws ρ = some ρ' → ts.length = ws.length
  | [], [], _, _, _ => rfl
  | [], _ :: _, _, _, h => by cases h
  | _ :: _, [], _, _, h => by cases h
  | _ :: ts, _ :: ws, _, _, h => by rw [List.length_cons, List.length_cons, setsE_len (ts := ts) (ws := ws) h]
section
variable {K : PySem.W.Frag} {D : Ends} {σ : Sg} {H : Hp}
theorem parR_some {ts : List Nat} {g : RunX} {ρ : Ev} {q : Sx} {o : Out} (e : parR ts g ρ q = some o) : ∃ vs ρ1 q1 ρ2, g ρ q = some (vs, ρ1, q1) ∧ setsE ts vs ρ1 = some ρ2 ∧ o = .nx ρ2 q1 := by
  unfold parR at e
  split at e
  · cases e
  split at e
  · cases e
  cases e
  exact ⟨_, _, _, _, by assumption, by assumption, rfl⟩
theorem w_par {ts : List Nat} {g : RunX} (h : sSt K (parR ts g) D σ H) : tXV K g σ H fun vs H1 => vs.length = ts.length ∧ D.nx (setsV ts vs σ) H1 := by
  obtain ⟨U, Z, ρ, q, o, A, e, kk⟩ := h
  obtain ⟨ws, ρ1, q1, ρ2, e1, e2, rfl⟩ := parR_some e
  exact ⟨U, Z, ρ, q, ws, ρ1, q1, A, e1, fun Z1 H1 vs as l1 A1 S => ⟨by rw [S.len, setsE_len e2], kk Z1 _ H1 l1 (S.sets A1 e2)⟩⟩
theorem w_parT {ts : List Nat} {g : RunX} (hl : ts.length ≤ 1000) (h : sSt K (parR ts g) D σ H) : tAsg (tTup (tXV K g)) (gTup K ts.length (gSets ts)) D σ H := by
  obtain ⟨U, Z, ρ, q, o, A, e, kk⟩ := h
  obtain ⟨ws, ρ1, q1, ρ2, e1, e2, rfl⟩ := parR_some e
  refine ⟨U, Z, ρ, q, ws, ρ1, q1, A, e1, fun Z1 H1 vs as l1 A1 S => ?_⟩
  have hlen : vs.length = ts.length := by rw [S.len, setsE_len e2]
  refine ⟨by rw [hlen]; exact lim_line (by omega), fun p hp => ⟨p, vs, rfl, SqT.of upd_same, hlen, hlen, ?_⟩⟩
  have A2 := A1.upds (o := .tup vs) (A1.lone_new hp) (A1.apart_new hp)
  refine kk Z1 _ _ l1 ((S.map (fun a ha => ?_) (fun _ _ l => l) fun _ _ l => l).sets A2 e2)
  exact upd_ne fun z => (S.lone a ha).2 (by rw [z]; exact hp)
end
end
end Sb

set_option Elab.async false
set_option autoImplicit false
set_option linter.all false
set_option maxRecDepth 100000
set_option maxHeartbeats 4000000
/-! SbR: statements, defs. -/
namespace Sb
open PySem PySem.Spec PyProof.Rows L2
section
variable {K : PySem.W.Frag} {D : Ends} {σ : Sg} {H : Hp}
theorem w_set {tg : PyData → Ev → Option Ev} {f : Run} {ss : List Nat} (h : sSt K (setR tg f) D σ H) : tAsg (tEV K f) (gEV K ss tg) D σ H := by
  obtain ⟨U, Z, ρ, q, o, A, e, k⟩ := h
  unfold setR at e
  split at e
  · cases e
  rename_i d ρ1 q1 e1
  split at e
  · cases e
  rename_i ρ2 e2
  cases e
  exact ⟨U, Z, ρ, q, d, ρ1, _, A, e1, fun Z1 H1 v l1 A1 r1 => ⟨U, Z1, ρ1, _, d, ρ2, A1, r1, e2, fun σ' _ A2 => k Z1 σ' H1 l1 A2⟩⟩
theorem w_setN {i : Nat} {f : Run} (h : sSt K (setR (asg (.nm i)) f) D σ H) : tAsg (tEV K f) (gName i) D σ H := by
  obtain ⟨U, Z, ρ, q, o, A, e, k⟩ := h
  unfold setR at e
  split at e
  · cases e
  rename_i d ρ1 q1 e1
  rw [asg] at e
  cases e
  exact ⟨U, Z, ρ, q, d, ρ1, _, A, e1, fun Z1 H1 v l1 A1 r1 => k Z1 _ H1 l1 (A1.setVal r1)⟩
theorem w_own {i : Nat} {g : RunA} (h : sSt K (ownR i g) D σ H) : tAsg (tFV K g) (gName i) D σ H := by
  obtain ⟨U, Z, ρ, q, o, A, e, k⟩ := h
  unfold ownR at e
  split at e
  · cases e
  rename_i ds ρ1 q1 e1
  cases e
  exact ⟨U, Z, ρ, q, ds, ρ1, _, A, e1, fun Z1 H1 a xs l1 A1 h1 r1 ln ap => k Z1 _ H1 l1 (A1.setOwn (show OwnAt K Z1 H1 a (.list ds) from ⟨xs, h1, r1⟩) ln ap)⟩
theorem isOwn_some {x : Option (Option SV)} (h : isOwn x = true) : ∃ ds, x = some (some (.own (.list ds))) := by
  unfold isOwn at h
  split at h
  · exact ⟨_, rfl⟩
  · cases h
theorem w_put {i : Nat} {f g : Run} (h : sSt K (putR i f g) D σ H) : tAsg (tEV K g) (gSub (tVar i) (tEV K f) rSetL) D σ H := by
  obtain ⟨U, Z, ρ, q, o, A, e, k⟩ := h
  unfold putR at e
  split at e
  · cases e
  rename_i d ρ1 q1 e1
  split at e
  · rename_i ds0 e2
    split at e
    · rename_i kk ρ2 q2 e3
      split at e
      · rename_i ds e4
        split at e
        · cases e
        rename_i j e5
        cases e
        refine ⟨U, Z, ρ, q, d, ρ1, q1, A, e1, fun Z1 H1 v l1 A1 r1 => ?_⟩
        obtain ⟨a, xs0, hv, _, _, _⟩ := A1.own e2
        refine ⟨_, hv, U, Z1, ρ1, q1, _, ρ2, _, A1, e3, fun Z2 H2 w l2 A2 r2 => ?_⟩
        obtain ⟨a', xs, hv', hx, rx, ln⟩ := A2.own e4
        rw [hv] at hv'
        cases hv'
        exact ⟨a, xs, kk, j, rfl, r2.int_inv, hx, by rw [rx.length]; exact e5, k Z2 _ _ (l1.trans l2) (A2.put e4 hv ln (show OwnAt K Z2 _ a (.list (ds.set j d)) from ⟨_, upd_same, rx.set (r1.mono l2) j⟩))⟩
      · cases e
    · cases e
  · cases e
theorem w_app {i : Nat} {f : Run} (h : sSt K (appR i f) D σ H) : tDrop (tBM K "list" rAppend (tVar i) (tCons (tEV K f) tNil)) D σ H := by
  obtain ⟨U, Z, ρ, q, o, A, e, k⟩ := h
  unfold appR at e
  split at e
  · rename_i e0
    obtain ⟨ds0, e0⟩ := isOwn_some e0
    split at e
    · cases e
    rename_i d ρ1 q1 e1
    split at e
    · rename_i ds e2
      split at e
      · rename_i hl
        cases e
        obtain ⟨a, xs0, hv, hx0, _, _⟩ := A.own e0
        refine ⟨_, hv, .inl ⟨rfl, xs0, SqL.of hx0⟩, U, Z, ρ, q, _, ρ1, _, A, e1, fun Z1 H1 v l1 A1 r1 => ?_⟩
        obtain ⟨a', xs, hv', hx, rx, ln⟩ := A1.own e2
        rw [hv] at hv'
        cases hv'
        refine ⟨a, xs, v, rfl, rfl, hx, ?_, k Z1 _ _ l1 (A1.put e2 hv ln (show OwnAt K Z1 _ a (.list (ds ++ [d])) from ⟨_, upd_same, rx.append (.cons r1 .nil)⟩))⟩
        rw [rx.length]
        have := lim_line (Nat.succ_le_of_lt hl)
        omega
      · cases e
    · cases e
  · cases e
theorem w_ext {i : Nat} {f : Run} (h : sSt K (extR i f) D σ H) : tDrop (tBM K "list" rExtend (tVar i) (tCons (tEV K f) tNil)) D σ H := by
  obtain ⟨U, Z, ρ, q, o, A, e, k⟩ := h
  unfold extR at e
  split at e
  · rename_i e0
    obtain ⟨ds0, e0⟩ := isOwn_some e0
    split at e
    · rename_i es ρ1 q1 e1
      split at e
      · rename_i ds e2
        split at e
        · rename_i hl
          cases e
          obtain ⟨a, xs0, hv, hx0, _, _⟩ := A.own e0
          refine ⟨_, hv, .inl ⟨rfl, xs0, SqL.of hx0⟩, U, Z, ρ, q, _, ρ1, _, A, e1, fun Z1 H1 v l1 A1 r1 => ?_⟩
          obtain ⟨a', xs, hv', hx, rx, ln⟩ := A1.own e2
          rw [hv] at hv'
          cases hv'
          obtain ⟨b, ys, rfl, hy, ry⟩ := r1.list_inv
          refine ⟨a, b, xs, ys, rfl, rfl, hx, A1.fro _ _ hy, ?_, k Z1 _ _ l1 (A1.put e2 hv ln (show OwnAt K Z1 _ a (.list (ds ++ es)) from ⟨_, upd_same, rx.append ry⟩))⟩
          rw [rx.length, ry.length]
          exact lim_line hl
        · cases e
      · cases e
    · cases e
  · cases e
theorem w_exp {f : Run} (h : sSt K (expR f) D σ H) : tDrop (tEV K f) D σ H := by
  obtain ⟨U, Z, ρ, q, o, A, e, k⟩ := h
  unfold expR at e
  split at e
  · cases e
  rename_i d ρ1 q1 e1
  cases e
  exact ⟨U, Z, ρ, q, d, _, _, A, e1, fun Z1 H1 v l1 A1 _ => k Z1 _ H1 l1 A1⟩
theorem w_ret {f : Run} (h : sSt K (retR f) D σ H) : tRet (tEV K f) D σ H := by
  obtain ⟨U, Z, ρ, q, o, A, e, k⟩ := h
  unfold retR at e
  split at e
  · cases e
  rename_i d ρ1 q1 e1
  cases e
  exact ⟨U, Z, ρ, q, _, _, _, A, e1, fun Z1 H1 v l1 A1 r1 => k Z1 H1 v l1 A1.toAbH r1⟩
theorem w_retN (h : sSt K (retR (cstR .none)) D σ H) : tRetN D σ H := by
  obtain ⟨U, Z, ρ, q, o, A, e, k⟩ := h
  cases e
  exact k Z H _ (.refl Z) A.toAbH .non
theorem w_nilS (h : sSt K nilS D σ H) : tNext D σ H := by
  obtain ⟨U, Z, ρ, q, o, A, e, k⟩ := h
  cases e
  exact k Z σ H (.refl Z) A
end
end Sb

set_option Elab.async false
set_option autoImplicit false
set_option linter.all false
set_option maxRecDepth 100000
set_option maxHeartbeats 4000000
/-! SbS: what the check of statements gives. -/
namespace Sb
open PySem PySem.Spec PyProof.Rows L2
section
variable {C : CC} {fs : List Fn} {k : Nat} {X : Cx} {st : Stmt}
theorem assign_sub {o j : Expr} {p : Pos} {env : Env} (h : notSl j = true) (v : Value) : assign (.Subscript o j p) env v = (do
    let ov ← holding [v] (eval o env)
    let iv ← holding [v, ov] (eval j env)
    standAt p
    holding [v, ov, iv] (setItem ov iv v)
    release [v, ov, iv] []) := by
  cases j <;> first | rfl | cases h
theorem sw_sub {e o j : Expr} {p : Pos} {l : Nat} {env : Env} : swapsWith e (some (.Subscript o j p)) l env = pure false := by
  cases e <;> rfl
theorem st_set {tg : IT} {a : IE} (hX : XC C fs k X) (h : chkS C X.env.scope X.fn (.set tg a) st = true) : PS X st (sSt X.K (runS fs (.set tg a))) := by
  cases st with
  | Assign ts e p =>
    cases ts with
    | nil => cases h
    | cons t ts =>
      cases ts with
      | cons _ _ => cases h
      | nil =>
        have h : (chkE C X.env.scope X.fn a e && chkT C.N X.env.scope X.fn tg t && swF X.env.scope t e && swV X.env.scope t e) = true := h
        simp only [Bool.and_eq_true] at h
        obtain ⟨⟨⟨h1, h2⟩, h3⟩, h4⟩ := h
        have nd : X.N.Nodup := by rw [hX.N]; exact hX.nd
        have hg := pg_ok hX.calm nd (slotsT tg) tg t (by rw [hX.N]; exact h2) fun _ z => z
        have nost : (assignEach [t] X.env).map (·.2) = [assign t X.env] := by
          cases t <;> first | rfl | (cases tg <;> cases h2)
        exact (ps_asg (e_ok a hX e h1).pe hg (swF_ok h3) (swV_ok h4) nost).weak fun _ _ _ => w_set
  | _ => cases h
theorem st_own {i : Nat} {kk : IK} (hX : XC C fs k X) (h : chkS C X.env.scope X.fn (.own i kk) st = true) : PS X st (sSt X.K (runS fs (.own i kk))) := by
  cases st with
  | Assign ts e p2 =>
    cases ts with
    | nil => cases h
    | cons t ts =>
      cases t with
      | Name x p =>
        cases ts with
        | cons _ _ => cases h
        | nil =>
          have h : (chkK C X.env.scope X.fn kk e && okNm C.N X.env.scope X.fn x i && swF X.env.scope (.Name x p) e) = true := h
          simp only [Bool.and_eq_true] at h
          obtain ⟨⟨h1, h2⟩, h3⟩ := h
          obtain ⟨a, b, c⟩ := okNm_ok hX h2
          have nd : X.N.Nodup := by rw [hX.N]; exact hX.nd
          exact (ps_set nd a b (k_ok kk hX e h1) (swF_ok h3) c).weak fun _ _ _ => w_own
      | _ => cases ts <;> cases h
  | _ => cases h
theorem st_lc {f : Bool} {i : Nat} {own : List (Str × Nat)} {tg : IT} {it : II} {c : IO} {elt : IE} (hX : XC C fs k X) (hsc : X.env.scope.kind = .function) (h : chkS C X.env.scope X.fn (.lc f i own tg it c elt) st = true) : PS X st (sSt X.K (runS fs (.lc f i own tg it c elt))) := by
  cases st with
  | Assign ts e p2 =>
    cases ts with
    | nil => cases h
    | cons t ts =>
      cases t with
      | Name x p =>
        cases ts with
        | cons _ _ => cases h
        | nil =>
          cases e with
          | ListComp v g sp q =>
            have h : (chkE C X.env.scope X.fn (.comp own tg it c elt) (.ListComp v g sp q) && decide (C.N[i]? = some x) && decide (X.env.scope.names.lookup x = some .local) && (p.line == q.line) && !(sp.names.any fun (n, k) => n == x && (k == .local || k == .cell))) = true := h
            rw [Bool.and_eq_true, Bool.and_eq_true, Bool.and_eq_true, Bool.and_eq_true] at h
            obtain ⟨⟨⟨⟨h1, h2⟩, h3⟩, h4⟩, h5⟩ := h
            have h3 := of_decide_eq_true h3
            obtain ⟨x', t, i', ifs, scope, p', e, c1, c2, c3, c4, c5, c6, c7⟩ := comp_parts hX h1
            cases e
            have nd : X.N.Nodup := by rw [hX.N]; exact hX.nd
            have ps := ps_setLc (own := own) (py := p) (spos := p2) (pos := q) hX.calm nd (show X.N[i]? = some x by rw [hX.N]; exact of_decide_eq_true h2) h3 (sw_true hsc h3 h4 (not_t h5)) c1 c2 c4 c5 c6 c7
            cases f with
            | true => exact ps.weak fun D σ H w => wF_lc c3 (w_own w)
            | false => exact ps.weak fun D σ H w => tLc_of c3 _ _ _ (w_setN w)
          | _ => cases h
      | _ => cases ts <;> cases h
  | _ => cases h
theorem st_put {i : Nat} {a b : IE} (hX : XC C fs k X) (h : chkS C X.env.scope X.fn (.put i a b) st = true) : PS X st (sSt X.K (runS fs (.put i a b))) := by
  cases st with
  | Assign ts e p2 =>
    cases ts with
    | nil => cases h
    | cons t ts =>
      cases t with
      | Subscript o j p =>
        cases o with
        | Name x xp =>
          cases ts with
          | cons _ _ => cases h
          | nil =>
            have h : (decide (C.N[i]? = some x) && vis X.env.scope x && chkE C X.env.scope X.fn a j && chkE C X.env.scope X.fn b e && notSl j) = true := h
            simp only [Bool.and_eq_true, decide_eq_true_eq] at h
            obtain ⟨⟨⟨⟨h1, h2⟩, h3⟩, h4⟩, h5⟩ := h
            obtain ⟨v1, v2, v3⟩ := vis_ok h2
            exact (ps_asg (e_ok b hX e h4).pe (pg_sub (pe_var (by rw [hX.N]; exact h1) v1 v2 v3) (e_ok a hX j h3).pe set_list (assign_sub h5)) (sw_sub (e := e) (o := .Name x xp) (j := j) (p := p) (l := p2.line) (env := X.env)) (swV_ok (t := .Subscript (.Name x xp) j p) rfl) rfl).weak fun _ _ _ => w_put
        | _ => cases ts <;> cases h
      | _ => cases ts <;> cases h
  | _ => cases h
theorem own_nm {i : Nat} {n : String} {x m : Str} {np ap : Pos} {sc : Scope} (h : ownName C sc i n (.Attribute (.Name x np) m ap) = true) : C.N[i]? = some x ∧ vis sc x = true ∧ m = (n : Str) := by
  have h : (decide (C.N[i]? = some x) && vis sc x && decide (m = (n : Str))) = true := h
  simp only [Bool.and_eq_true, decide_eq_true_eq] at h
  exact ⟨h.1.1, h.1.2, h.2⟩
theorem st_app {i : Nat} {a : IE} (hX : XC C fs k X) (h : chkS C X.env.scope X.fn (.app i a) st = true) : PS X st (sSt X.K (runS fs (.app i a))) := by
  cases st with
  | Expr e p =>
    cases e with
    | Call c ys ks cp =>
      cases c with
      | Attribute o m ap =>
        cases o with
        | Name x np =>
          cases ys with
          | nil => cases h
          | cons y ys =>
            cases ys with
            | cons _ _ => cases h
            | nil =>
              cases ks with
              | cons _ _ => cases h
              | nil =>
                have h : (ownName C X.env.scope i "append" (.Attribute (.Name x np) m ap) && (ap.endLine == cp.line) && chkE C X.env.scope X.fn a y && !(star1 y)) = true := h
                rw [Bool.and_eq_true, Bool.and_eq_true, Bool.and_eq_true] at h
                obtain ⟨⟨⟨h0, h3⟩, h4⟩, h5⟩ := h
                obtain ⟨h1, h2, rfl⟩ := own_nm h0
                obtain ⟨v1, v2, v3⟩ := vis_ok h2
                have st := star_cons [] X.env (not_t h5)
                exact (ps_expr (pe_bm PySem.F.plainAttrs_list PySem.F.slot_list_append PySem.F.type_list_append mt_append (pe_var (by rw [hX.N]; exact h1) v1 v2 v3) (pa_cons (e_ok a hX y h4).pe pa_nil st) rfl (by rw [st]; rfl) h3 st) rfl).weak fun _ _ _ => w_app
        | _ => cases h
      | _ => cases h
    | _ => cases h
  | _ => cases h
theorem st_ext {i : Nat} {a : IE} (hX : XC C fs k X) (h : chkS C X.env.scope X.fn (.ext i a) st = true) : PS X st (sSt X.K (runS fs (.ext i a))) := by
  cases st with
  | Expr e p =>
    cases e with
    | Call c ys ks cp =>
      cases c with
      | Attribute o m ap =>
        cases o with
        | Name x np =>
          cases ys with
          | nil => cases h
          | cons y ys =>
            cases ys with
            | cons _ _ => cases h
            | nil =>
              cases ks with
              | cons _ _ => cases h
              | nil =>
                have h : (ownName C X.env.scope i "extend" (.Attribute (.Name x np) m ap) && (ap.endLine == cp.line) && chkE C X.env.scope X.fn a y && !(star1 y)) = true := h
                rw [Bool.and_eq_true, Bool.and_eq_true, Bool.and_eq_true] at h
                obtain ⟨⟨⟨h0, h3⟩, h4⟩, h5⟩ := h
                obtain ⟨h1, h2, rfl⟩ := own_nm h0
                obtain ⟨v1, v2, v3⟩ := vis_ok h2
                have st := star_cons [] X.env (not_t h5)
                exact (ps_expr (pe_bm PySem.F.plainAttrs_list PySem.F.slot_list_extend PySem.F.type_list_extend mt_extend (pe_var (by rw [hX.N]; exact h1) v1 v2 v3) (pa_cons (e_ok a hX y h4).pe pa_nil st) rfl (by rw [st]; rfl) h3 st) rfl).weak fun _ _ _ => w_ext
        | _ => cases h
      | _ => cases h
    | _ => cases h
  | _ => cases h
theorem st_exp {a : IE} (hX : XC C fs k X) (h : chkS C X.env.scope X.fn (.exp a) st = true) : PS X st (sSt X.K (runS fs (.exp a))) := by
  cases st with
  | Expr e p =>
    have h : (chkE C X.env.scope X.fn a e && isCall e) = true := h
    rw [Bool.and_eq_true] at h
    have h1 := e_ok a hX e h.1
    have h2 := h.2
    cases e with
    | Call c ys ks cp => exact (ps_expr h1.pe rfl).weak fun _ _ _ => w_exp
    | _ => cases h2
  | _ => cases h
theorem st_ret {a : IE} (hX : XC C fs k X) (h : chkS C X.env.scope X.fn (.ret a) st = true) : PS X st (sSt X.K (runS fs (.ret a))) := by
  cases st with
  | Return e p =>
    cases e with
    | none => cases h
    | some e => exact (ps_ret (e_ok a hX e h).pe).weak fun _ _ _ => w_ret
  | _ => cases h
theorem st_retN (hX : XC C fs k X) (h : chkS C X.env.scope X.fn .retN st = true) : PS X st (sSt X.K (runS fs .retN)) := by
  cases st with
  | Return e p =>
    cases e with
    | none => exact ps_retN.weak fun _ _ _ => w_retN
    | some e => cases h
  | _ => cases h
/-- two, three stores at once -/
theorem par2 {ts : List Nat} {xs : List IX} {x y : Str} {px py p1 p2 p3 : Pos} {j1 j2 : Nat} {a b : Expr} (hX : XC C fs k X) (hsc : X.env.scope.kind = .function) (h1 : chkNs C X.env.scope X.fn ts [.Name x px, .Name y py] = true) (h2 : chkXs C X.env.scope X.fn xs [a, b] = true) (h3 : ts.Nodup)
    (h4 : swY2 X.env.scope x y px py [a, b] = true) : PS X (.Assign [.Tuple [.Name x px, .Name y py] j1 p1] (.Tuple [a, b] j2 p2) p3) (sSt X.K (parR ts (runXs fs xs))) := by
  have nd : X.N.Nodup := by rw [hX.N]; exact hX.nd
  cases ts with
  | nil => cases h1
  | cons i ts =>
    cases ts with
    | nil => rw [chkNs, Bool.and_eq_true] at h1; cases h1.2
    | cons j ts =>
      cases ts with
      | cons _ _ => rw [chkNs, chkNs, Bool.and_eq_true, Bool.and_eq_true] at h1; cases h1.2.2
      | nil =>
        rw [chkNs, chkNs, Bool.and_eq_true, Bool.and_eq_true] at h1
        have hs := swY2_ok (p := p1) (p2 := p2) (k := j1) (k2 := j2) hsc h4
        unfold swY2 at h4
        rw [Bool.and_eq_true, Bool.and_eq_true, Bool.and_eq_true, Bool.and_eq_true] at h4
        obtain ⟨⟨⟨⟨l1, l2⟩, _⟩, _⟩, _⟩ := h4
        obtain ⟨n1, _, _⟩ := okNm_ok hX h1.1
        obtain ⟨n2, _, _⟩ := okNm_ok hX h1.2.1
        have hij : i ≠ j := fun z => (List.nodup_cons.mp h3).1 (by rw [z]; exact List.mem_cons_self)
        refine (ps_par hX.calm nd n1 n2 hij (of_decide_eq_true l1) (of_decide_eq_true l2) (xs_ok xs hX _ h2) hs).weak fun D σ H w => ?_
        obtain ⟨U, Z, ρ, q, ws, ρ', q', A, e, kk⟩ := w_par w
        refine ⟨U, Z, ρ, q, ws, ρ', q', A, e, fun Z1 H1 vs as l A1 S => ?_⟩
        obtain ⟨hl, w⟩ := kk Z1 H1 vs as l A1 S
        match vs, hl, w with
        | [v, u], _, w => exact ⟨v, u, rfl, w⟩
theorem par3 {ts : List Nat} {xs : List IX} {x y z : Str} {px py pz p1 p2 p3 : Pos} {j1 j2 : Nat} {a b c : Expr} (hX : XC C fs k X) (hsc : X.env.scope.kind = .function) (h1 : chkNs C X.env.scope X.fn ts [.Name x px, .Name y py, .Name z pz] = true) (h2 : chkXs C X.env.scope X.fn xs [a, b, c] = true) (h3 : ts.Nodup)
    (h4 : swY3 X.env.scope x y z px py pz [a, b, c] = true) : PS X (.Assign [.Tuple [.Name x px, .Name y py, .Name z pz] j1 p1] (.Tuple [a, b, c] j2 p2) p3) (sSt X.K (parR ts (runXs fs xs))) := by
  have nd : X.N.Nodup := by rw [hX.N]; exact hX.nd
  cases ts with
  | nil => cases h1
  | cons i ts =>
    cases ts with
    | nil => rw [chkNs, Bool.and_eq_true] at h1; cases h1.2
    | cons j ts =>
      cases ts with
      | nil => rw [chkNs, chkNs, Bool.and_eq_true, Bool.and_eq_true] at h1; cases h1.2.2
      | cons m ts =>
        cases ts with
        | cons _ _ => rw [chkNs, chkNs, chkNs, Bool.and_eq_true, Bool.and_eq_true, Bool.and_eq_true] at h1; cases h1.2.2.2
        | nil =>
          rw [chkNs, chkNs, chkNs, Bool.and_eq_true, Bool.and_eq_true, Bool.and_eq_true] at h1
          have hs := swY3_ok (p := p1) (p2 := p2) (k := j1) (k2 := j2) hsc h4
          unfold swY3 at h4
          iterate 8 rw [Bool.and_eq_true] at h4
          obtain ⟨⟨⟨⟨⟨⟨⟨⟨l1, l2⟩, l3⟩, _⟩, _⟩, _⟩, _⟩, _⟩, _⟩ := h4
          obtain ⟨n1, _, _⟩ := okNm_ok hX h1.1
          obtain ⟨n2, _, _⟩ := okNm_ok hX h1.2.1
          obtain ⟨n3, _, _⟩ := okNm_ok hX h1.2.2.1
          have d1 := List.nodup_cons.mp h3
          have d2 := List.nodup_cons.mp d1.2
          have hij : i ≠ j := fun z => d1.1 (by rw [z]; exact List.mem_cons_self)
          have him : i ≠ m := fun z => d1.1 (by rw [z]; exact List.mem_cons_of_mem _ List.mem_cons_self)
          have hjm : j ≠ m := fun z => d2.1 (by rw [z]; exact List.mem_cons_self)
          refine (ps_par3 hX.calm nd n1 n2 n3 hij him hjm (of_decide_eq_true l1) (of_decide_eq_true l2) (of_decide_eq_true l3) (xs_ok xs hX _ h2) hs).weak fun D σ H w => ?_
          obtain ⟨U, Z, ρ, q, ws, ρ', q', A, e, kk⟩ := w_par w
          refine ⟨U, Z, ρ, q, ws, ρ', q', A, e, fun Z1 H1 vs as l A1 S => ?_⟩
          obtain ⟨hl, w⟩ := kk Z1 H1 vs as l A1 S
          match vs, hl, w with
          | [v, u, w0], _, w => exact ⟨v, u, w0, rfl, w⟩
theorem parN {ts : List Nat} {xs : List IX} {tgs vs : List Expr} {p1 p2 p3 : Pos} {j1 j2 : Nat} (hX : XC C fs k X) (h1 : chkNs C X.env.scope X.fn ts tgs = true) (h2 : chkXs C X.env.scope X.fn xs vs = true) (hl : ts.length ≤ 1000)
    (h4 : swN X.env.scope tgs vs = true) : PS X (.Assign [.Tuple tgs j1 p1] (.Tuple vs j2 p2) p3) (sSt X.K (parR ts (runXs fs xs))) := by
  obtain ⟨g1, g2, g3⟩ := ns_ok ts hX tgs h1
  exact (ps_asg (pe_tup (xs_ok xs hX vs h2)) (pg_tup hX.calm g1 g3 g2) rfl (swN_ok h4) rfl).weak fun _ _ _ => w_parT hl
theorem st_par {ts : List Nat} {xs : List IX} (hX : XC C fs k X) (hsc : X.env.scope.kind = .function) (h : chkS C X.env.scope X.fn (.par ts xs) st = true) : PS X st (sSt X.K (runS fs (.par ts xs))) := by
  cases st with
  | Assign tl e p3 =>
    cases tl with
    | nil => cases h
    | cons t tl =>
      cases t with
      | Tuple tgs j1 p1 =>
        cases tl with
        | cons _ _ => cases h
        | nil =>
          cases e with
          | Tuple vs j2 p2 =>
            have h : (chkNs C X.env.scope X.fn ts tgs && chkXs C X.env.scope X.fn xs vs && decide (ts.Nodup) && decide (ts.length ≤ 1000) && swP X.env.scope tgs vs) = true := h
            iterate 4 rw [Bool.and_eq_true] at h
            obtain ⟨⟨⟨⟨h1, h2⟩, h3⟩, h4⟩, h5⟩ := h
            have h3 := of_decide_eq_true h3
            have h4 := of_decide_eq_true h4
            unfold swP at h5
            split at h5
            · rcases (Bool.or_eq_true _ _).mp h5 with h5 | h5
              · unfold swY2 at h5
                split at h5
                · exact par2 hX hsc h1 h2 h3 h5
                · rw [Bool.and_false] at h5; cases h5
              · exact parN hX h1 h2 h4 h5
            · rcases (Bool.or_eq_true _ _).mp h5 with h5 | h5
              · unfold swY3 at h5
                split at h5
                · exact par3 hX hsc h1 h2 h3 h5
                · rw [Bool.and_false] at h5; cases h5
              · exact parN hX h1 h2 h4 h5
            · exact parN hX h1 h2 h4 h5
          | _ => cases h
      | _ => cases tl <;> cases h
  | _ => cases h
end
section
variable {C : CC} {fs : List Fn} {k : Nat} {X : Cx}
mutual
theorem s_ok : ∀ (ir : IS) (hX : XC C fs k X) (hxe : PassesOwn (model X.prog X.w) X.A X.env X.xe) (hsc : X.env.scope.kind = .function) (st : Stmt), chkS C X.env.scope X.fn ir st = true → PS X st (sSt X.K (runS fs ir))
  | .set _ _, hX, _, _, _, h => st_set hX h
  | .own _ _, hX, _, _, _, h => st_own hX h
  | .par _ _, hX, _, hsc, _, h => st_par hX hsc h
  | .lc _ _ _ _ _ _ _, hX, _, hsc, _, h => st_lc hX hsc h
  | .put _ _ _, hX, _, _, _, h => st_put hX h
  | .app _ _, hX, _, _, _, h => st_app hX h
  | .ext _ _, hX, _, _, _, h => st_ext hX h
  | .exp _, hX, _, _, _, h => st_exp hX h
  | .ret _, hX, _, _, _, h => st_ret hX h
  | .retN, hX, _, _, _, h => st_retN hX h
  | .iff c a b, hX, hxe, hsc, st, h => by
    cases st with
    | If e x y p =>
      have h : (chkE C X.env.scope X.fn c e && notIf e && chkSs C X.env.scope X.fn a x && chkSs C X.env.scope X.fn b y) = true := h
      iterate 3 rw [Bool.and_eq_true] at h
      obtain ⟨⟨⟨h1, h2⟩, h3⟩, h4⟩ := h
      exact (ps_if ((e_ok c hX e h1).pt h2) (ss_ok a hX hxe hsc x h3) (ss_ok b hX hxe hsc y h4)).weak fun _ _ _ => w_iff
    | _ => cases h
  | .for_ tg it body, hX, hxe, hsc, st, h => by
    cases st with
    | For t e x o p =>
      cases o with
      | cons _ _ => cases h
      | nil =>
        have h : (chkT C.N X.env.scope X.fn tg t && chkI C X.env.scope X.fn it t e && notSet e && chkSs C X.env.scope X.fn body x) = true := h
        iterate 3 rw [Bool.and_eq_true] at h
        obtain ⟨⟨⟨h1, h2⟩, h3⟩, h4⟩ := h
        have nd : X.N.Nodup := by rw [hX.N]; exact hX.nd
        have hg := pg_ok hX.calm nd (slotsT tg) tg t (by rw [hX.N]; exact h1) fun _ z => z
        exact (ps_for hxe hX.calm (i_ok it hX t e h2) hg (ss_ok body hX hxe hsc x h4) (fold_no h3)).weak fun _ _ _ => w_for
    | _ => cases h
  | .whl n c body, hX, hxe, hsc, st, h => by
    cases st with
    | While e x o p =>
      cases o with
      | cons _ _ => cases h
      | nil =>
        have h : (chkE C X.env.scope X.fn c e && notIf e && chkSs C X.env.scope X.fn body x) = true := h
        iterate 2 rw [Bool.and_eq_true] at h
        obtain ⟨⟨h1, h2⟩, h3⟩ := h
        exact (ps_while hxe ((e_ok c hX e h1).pt h2) (ss_ok body hX hxe hsc x h3)).weak fun _ _ _ => w_whl
    | _ => cases h
theorem ss_ok : ∀ (ir : ISs) (hX : XC C fs k X) (hxe : PassesOwn (model X.prog X.w) X.A X.env X.xe) (hsc : X.env.scope.kind = .function) (ss : List Stmt), chkSs C X.env.scope X.fn ir ss = true → PSs X ss (sSt X.K (runSs fs ir))
  | .nil, hX, hxe, hsc, ss, h => by
    cases ss with
    | nil => exact pss_nil.weak fun _ _ _ => w_nilS
    | cons _ _ => cases h
  | .cons a r, hX, hxe, hsc, ss, h => by
    cases ss with
    | nil => cases h
    | cons s ss =>
      have h : (chkS C X.env.scope X.fn a s && chkSs C X.env.scope X.fn r ss) = true := h
      rw [Bool.and_eq_true] at h
      exact (pss_cons (s_ok a hX hxe hsc s h.1) (ss_ok r hX hxe hsc ss h.2)).weak fun _ _ _ => w_seq
end
end
end Sb

set_option Elab.async false
set_option autoImplicit false
set_option linter.all false
set_option maxRecDepth 100000
set_option maxHeartbeats 4000000
/-! SbT: a def by its check; the table of defs. -/
namespace Sb
open PySem PySem.Spec PyProof.Rows L2

def fsC (N ps : List Str) (sc : Scope) : Bool := decide (sc.kind = .function) && !sc.isCoroutine && !sc.isGenerator && decide (N.Nodup) && decide (N.take ps.length = ps) &&
  (ps.all fun x => decide (sc.names.lookup x = some .local) || decide (sc.names.lookup x = some .cell)) && sc.names.all fun y => !(decide (y.2 = .free))
theorem fsC_ok {N ps : List Str} {sc : Scope} (h : fsC N ps sc = true) : FnScope N ps sc := by
  unfold fsC at h
  simp only [Bool.and_eq_true, decide_eq_true_eq, Bool.not_eq_true', List.all_eq_true, Bool.or_eq_true, decide_eq_false_iff_not] at h
  obtain ⟨⟨⟨⟨⟨⟨h1, h2⟩, h3⟩, h4⟩, h5⟩, h6⟩, h7⟩ := h
  exact ⟨h1, h2, h3, h4, h5, h6, h7⟩
structure Tab (P : Program) (w : World) (K : PySem.W.Frag) (mg : Str → Option Value) (base : Heap) (k : Nat) (fns : List (Str × Nat)) (fs : List Fn) : Prop where
  len : fns.length = fs.length
  ok : ∀ (i : Nat) (x : Str) (n : Nat), fns[i]? = some (x, n) → CallOk P w K mg base k x n (fs.getD i fun _ _ => none)
section
variable {P : Program} {w : World} {K : PySem.W.Frag} {mg : Str → Option Value} {base : Heap} {k : Nat} {fns : List (Str × Nat)} {fs : List Fn}
theorem CallOk.up {j : Nat} {x : Str} {n : Nat} {F : Fn} (c : CallOk P w K mg base j x n F) (h : j ≤ k) : CallOk P w K mg base k x n F := by
  obtain ⟨f, fd, ps, a, r⟩ := c.ex
  exact ⟨f, fd, ps, a.up h, r⟩
theorem Tab.nil : Tab P w K mg base k [] [] := ⟨rfl, fun i x n h => by simp at h⟩
theorem Tab.snoc (T : Tab P w K mg base k fns fs) {x : Str} {n : Nat} {F : Fn} (c : CallOk P w K mg base (k + 1) x n F) : Tab P w K mg base (k + 1) (fns ++ [(x, n)]) (fs ++ [F]) := by
  refine ⟨by simp [T.len], fun i y m h => ?_⟩
  by_cases hi : i < fns.length
  · rw [List.getElem?_append_left hi] at h
    have q := (T.ok i y m h).up (Nat.le_succ k)
    rw [List.getD_eq_getElem?_getD, List.getElem?_append_left (by rw [← T.len]; exact hi), ← List.getD_eq_getElem?_getD]
    exact q
  · rw [List.getElem?_append_right (by omega)] at h
    have e : i - fns.length = 0 := by
      cases z : i - fns.length with
      | zero => rfl
      | succ j => rw [z] at h; simp at h
    rw [e] at h
    simp at h
    obtain ⟨rfl, rfl⟩ := h
    rw [List.getD_eq_getElem?_getD, List.getElem?_append_right (by rw [← T.len]; omega), ← T.len, e]
    exact c
def chkD (C : CC) (ps : List Str) (irs : ISs) (st : Stmt) : Bool := fsC C.N ps (defScope st) && chkSs C (defScope st) (fun _ => true) irs (defBody st)
theorem def_ok {C : CC} {x qual : Str} {st : Stmt} {f : Addr} {fd : FuncData} {ps : List Str} {irs : ISs} (G : L2.Fun K x qual st f fd) (T : Tab P w K mg base k C.fns fs) (hbn : ∀ x ∈ C.bn, mg x = none) (h : chkD C ps irs st = true) :
    FnG P w K mg base (k + 1) f fd ps (fnR C.N.length (runSs fs irs)) := by
  unfold chkD at h
  rw [Bool.and_eq_true] at h
  have S := fsC_ok h.1
  refine fnG_of G S fun cdv A outer s H room hg => ?_
  exact ss_ok irs (C := C) (fs := fs) (k := k) (X := (cxOf CX0 P w K mg base C.N qual (defScope st) f cdv A outer s H E0).nox) ⟨rfl, rfl, S.nd, hg, room, hbn, T.ok⟩ PassesOwn.never S.kind (defBody st) h.2
theorem def_call {C : CC} {x qual : Str} {st : Stmt} {f : Addr} {fd : FuncData} {ps : List Str} {irs : ISs} (G : L2.Fun K x qual st f fd) (T : Tab P w K mg base k C.fns fs) (hbn : ∀ x ∈ C.bn, mg x = none) (h : chkD C ps irs st = true)
    (hm : mg x = some (.ref f)) (hb : Binds K fd ps []) : CallOk P w K mg base (k + 1) x ps.length (fnR C.N.length (runSs fs irs)) := ⟨f, fd, ps, def_ok G T hbn h, hm, G.kp, hb, rfl⟩
/-- .. from the hand layer's own promise -/
theorem of_fnOk {f : Addr} {fd : FuncData} {ps : List Str} {sp : Sp} {F : Fn} (G : FnOk P w K mg base CX0 k f fd ps sp)
    (h : ∀ (vs : List V) (H : Hp) (U : Hp) (Z : Fz) (q : Sx) (ds : List PyData) (d : PyData) (q' : Sx), AbH K U Z H q → RpA K Z vs ds → F ds q = some (d, q') → sp vs H (fun v H' => ∃ Z', Z.Le Z' ∧ AbH K U Z' H' q' ∧ Rp K Z' v d) E0) :
    FnG P w K mg base k f fd ps F :=
  ⟨fun A outer s H args us vs U Z q ds d q' room hg e0 hb rv hl A0 ra e => G.run A outer s H args us vs _ _ room e0 hb rv (h vs H U Z q ds d q' A0 ra e)⟩
end
end Sb

set_option Elab.async false
set_option autoImplicit false
set_option linter.all false
set_option maxRecDepth 100000
set_option maxHeartbeats 4000000
/-! SbU: the drawn source, read. -/
namespace Sb
open PySem PySem.Spec PyProof.Rows L2

/-- from the top of the cells -/
def refillR : Int → List Int → Int × List Int
  | l, [] => (l, [])
  | l, c :: cs => if l < 2 then refillR c cs else (l, c :: cs)
def refill (q : Sx) : Sx := { q with left := (refillR q.left q.cells.reverse).1, cells := (refillR q.left q.cells.reverse).2.reverse }
/-- a number below most, and the source behind it -/
def pickM (most : Int) (q : Sx) : Int × Sx :=
  if most < 2 then (0, q)
  else if 1 < (refill q).left then ((refill q).left % most, { refill q with left := (refill q).left / most })
  else ((((((q.mixed + (q.turn + 1) * 104729) % 998244353) * ((q.mixed + (q.turn + 1) * 104729) % 998244353) + (q.turn + 1) * 17) % 2147483647) / 16) % most, { refill q with turn := q.turn + 1 })
def isSrc : PyData → Bool
  | .dict [(.none, .none)] => true
  | _ => false
def pickF : Fn := fun ds q => match ds with
  | [d, .int most] => if isSrc d = true ∧ most < 1000000000 ∧ 0 ≤ q.turn then some (.int (pickM most q).1, (pickM most q).2) else none
  | _ => none
theorem isSrc_eq {d : PyData} (h : isSrc d = true) : d = srcD := by
  unfold isSrc at h
  split at h
  · rfl
  · cases h
theorem Rp.src_inv {K : PySem.W.Frag} {Z : Fz} {v : V} (r : Rp K Z v srcD) : ∃ a c, v = .ref a ∧ Z.sa = some (a, c) := by
  generalize hd : srcD = d at r
  cases r with
  | src h => exact ⟨_, _, rfl, h⟩
  | scr h => unfold srcD scrD at hd; simp at hd
  | _ => simp [srcD] at hd
section
variable {c : Addr} {q : Sx}
theorem src_cells : valV (srcKvs c q) (Sum.inr "cells") = some (.ref c) := rfl
theorem src_left : valV (srcKvs c q) (Sum.inr "left") = some (.int q.left) := rfl
theorem src_mixed : valV (srcKvs c q) (Sum.inr "mixed") = some (.int q.mixed) := rfl
theorem src_turn : valV (srcKvs c q) (Sum.inr "turn") = some (.int q.turn) := rfl
theorem put_left {l : Int} : putK (srcKvs c q) (Sum.inr "left") (.int l) = srcKvs c { q with left := l } := rfl
theorem put_turn {l : Int} : putK (srcKvs c q) (Sum.inr "turn") (.int l) = srcKvs c { q with turn := l } := rfl
theorem put_mixed {l : Int} : putK (srcKvs c q) (Sum.inr "mixed") (.int l) = srcKvs c { q with mixed := l } := rfl
end
/-- where the source stands -/
structure SrcAt (H : Hp) (a c : Addr) (q : Sx) : Prop where
  d : H a = some (.dK (srcKvs c q))
  l : H c = some (.lst (q.cells.map V.int))
theorem SrcAt.ne {H : Hp} {a c : Addr} {q : Sx} (h : SrcAt H a c q) : a ≠ c := fun e => by
  have := h.d
  rw [e, h.l] at this
  cases this
theorem SrcAt.dput {H : Hp} {a c : Addr} {q q' : Sx} (h : SrcAt H a c q) (e : q'.cells = q.cells) : SrcAt (upd H a (.dK (srcKvs c q'))) a c q' := ⟨upd_same, by rw [upd_ne h.ne.symm, e]; exact h.l⟩
theorem SrcAt.lput {H : Hp} {a c : Addr} {q : Sx} (h : SrcAt H a c q) {cs : List Int} : SrcAt (upd H c (.lst (cs.map V.int))) a c { q with cells := cs } := ⟨by rw [upd_ne h.ne]; exact h.d, upd_same⟩
section
variable {H : Hp} {a c : Addr} {q : Sx} {l : Int}
theorem SrcAt.gCells (h : SrcAt H a c q) : DGet H a (.str "cells") (some (.ref c)) := DGet.k (k := Sum.inr "cells") h.d
theorem SrcAt.gLeft (h : SrcAt H a c q) : DGet H a (.str "left") (some (.int q.left)) := DGet.k (k := Sum.inr "left") h.d
theorem SrcAt.gMixed (h : SrcAt H a c q) : DGet H a (.str "mixed") (some (.int q.mixed)) := DGet.k (k := Sum.inr "mixed") h.d
theorem SrcAt.gTurn (h : SrcAt H a c q) : DGet H a (.str "turn") (some (.int q.turn)) := DGet.k (k := Sum.inr "turn") h.d
theorem SrcAt.pLeft (h : SrcAt H a c q) : DPut H a (.str "left") (.int l) (upd H a (.dK (srcKvs c { q with left := l }))) := DPut.k (k := Sum.inr "left") h.d (by show 4 < sizeLine; decide)
theorem SrcAt.pTurn (h : SrcAt H a c q) : DPut H a (.str "turn") (.int l) (upd H a (.dK (srcKvs c { q with turn := l }))) := DPut.k (k := Sum.inr "turn") h.d (by show 4 < sizeLine; decide)
theorem SrcAt.pMixed (h : SrcAt H a c q) : DPut H a (.str "mixed") (.int l) (upd H a (.dK (srcKvs c { q with mixed := l }))) := DPut.k (k := Sum.inr "mixed") h.d (by show 4 < sizeLine; decide)
end
/-- all else stays -/
def Else (a c : Addr) (H H' : Hp) : Prop := ∀ b, b ≠ a → b ≠ c → H' b = H b
theorem Else.refl {a c : Addr} {H : Hp} : Else a c H H := fun _ _ _ => rfl
theorem Else.a {a c : Addr} {H H' : Hp} {o : HO} (h : Else a c H H') : Else a c H (upd H' a o) := fun b h1 h2 => by rw [upd_ne h1]; exact h b h1 h2
theorem Else.c {a c : Addr} {H H' : Hp} {o : HO} (h : Else a c H H') : Else a c H (upd H' c o) := fun b h1 h2 => by rw [upd_ne h2]; exact h b h1 h2
def spPick : Sp := fun vs H Q _ => ∃ (a c : Addr) (q : Sx) (most : Int), vs = [.ref a, .int most] ∧ SrcAt H a c q ∧ most < 1000000000 ∧
  ∀ H', Else a c H H' → SrcAt H' a c (pickM most q).2 → Q (.int (pickM most q).1) H'
theorem pick_fn {K : PySem.W.Frag} (vs : List V) (H : Hp) (U : Hp) (Z : Fz) (q : Sx) (ds : List PyData) (d : PyData) (q' : Sx) (A : AbH K U Z H q) (ra : RpA K Z vs ds) (e : pickF ds q = some (d, q')) :
    spPick vs H (fun v H' => ∃ Z', Z.Le Z' ∧ AbH K U Z' H' q' ∧ Rp K Z' v d) E0 := by
  unfold pickF at e
  split at e
  · rename_i d0 most
    split at e
    · rename_i hc
      obtain ⟨h1, h2, h3⟩ := hc
      cases e
      have hd := isSrc_eq h1
      subst hd
      obtain ⟨v, u, rfl, rv, ru⟩ := ra.two
      obtain ⟨a, c, rfl, hs⟩ := rv.src_inv
      obtain rfl := ru.int_inv
      obtain ⟨s1, s2, s3, s4, s5, s6⟩ := A.src a c hs
      refine ⟨a, c, q, most, rfl, ⟨s1, s2⟩, h2, fun H' el sa => ⟨Z, .refl Z, ⟨fun b o e => ?_, fun b o e => ?_, fun x y e => ?_, fun ht => ?_⟩, .int _⟩⟩
      · rw [el b (fun z => by rw [z, s3] at e; cases e) (fun z => by rw [z, s4] at e; cases e)]
        exact A.fro b o e
      · obtain ⟨u1, u2⟩ := A.unt b o e
        exact ⟨by rw [el b (fun z => by rw [z, s5] at e; cases e) (fun z => by rw [z, s6] at e; cases e)]; exact u1, u2⟩
      · rw [hs] at e
        cases e
        exact ⟨sa.d, sa.l, s3, s4, s5, s6⟩
      · exfalso
        unfold pickM refill at ht
        split at ht
        · exact absurd ht (by show ¬ q.turn < 0; omega)
        · split at ht
          · exact absurd ht (by show ¬ q.turn < 0; omega)
          · exact absurd ht (by show ¬ q.turn + 1 < 0; omega)
    · cases e
  · cases e

/-! ### the source opened -/
def stir (ns : List Int) (m : Int) : Int := ns.foldl (fun m x => (m * 69069 + x * 31 + 5) % 2147483629) m
def absI (i : Int) : Int := if i < 0 then -i else i
def openM (ns : List Int) : Sx := ⟨(ns.map absI).reverse, 1, stir ns 11, 0⟩
noncomputable def openF : Fn := fun ds q => open Classical in if h : ∃ ns : List Int, ds = [scrD ns] ∧ ns.length ≤ 1000 ∧ q.turn < 0 then some (srcD, openM h.choose) else none
theorem scrD_inj {a b : List Int} (h : scrD a = scrD b) : a = b := by
  unfold scrD at h
  replace h := (List.cons.inj (PyData.dict.inj h)).2
  induction a generalizing b with
  | nil => cases b with
    | nil => rfl
    | cons y b => cases h
  | cons x a ih => cases b with
    | nil => cases h
    | cons y b =>
      rw [List.map_cons, List.map_cons] at h
      obtain ⟨h1, h2⟩ := List.cons.inj h
      have h3 : x = y := by injection h1 with h1 _; injection h1
      rw [h3, ih h2]
theorem openF_eq {ns : List Int} {q : Sx} (h1 : ns.length ≤ 1000) (h2 : q.turn < 0) : openF [scrD ns] q = some (srcD, openM ns) := by
  have h : ∃ ns' : List Int, [scrD ns] = [scrD ns'] ∧ ns'.length ≤ 1000 ∧ q.turn < 0 := ⟨ns, rfl, h1, h2⟩
  unfold openF
  rw [dif_pos h]
  have e := scrD_inj (List.cons.inj h.choose_spec.1).1
  rw [← e]
theorem openF_some {ds : List PyData} {q : Sx} {d : PyData} {q' : Sx} (h : openF ds q = some (d, q')) : ∃ ns : List Int, ds = [scrD ns] ∧ ns.length ≤ 1000 ∧ q.turn < 0 ∧ d = srcD ∧ q' = openM ns := by
  unfold openF at h
  split at h
  · rename_i c
    cases h
    exact ⟨_, c.choose_spec.1, c.choose_spec.2.1, c.choose_spec.2.2, rfl, rfl⟩
  · cases h
theorem Rp.scr_inv {K : PySem.W.Frag} {Z : Fz} {v : V} {ns : List Int} (r : Rp K Z v (scrD ns)) : ∃ a, v = .ref a ∧ SqL K Z.F a (ns.map V.int) := by
  generalize hd : scrD ns = d at r
  cases r with
  | src h => unfold srcD scrD at hd; simp at hd
  | scr h => exact ⟨_, rfl, by rw [scrD_inj hd]; exact h⟩
  | _ => simp [scrD] at hd
def spOpen (K : PySem.W.Frag) : Sp := fun vs H Q _ => ∃ (s : Addr) (ns : List Int), vs = [.ref s] ∧ SqL K H s (ns.map V.int) ∧ ns.length ≤ 1000 ∧
  ∀ H' a c, (∀ b o, H b = some o → H' b = some o) → H a = none → H c = none → SrcAt H' a c (openM ns) → Q (.ref a) H'
theorem open_fn {K : PySem.W.Frag} (vs : List V) (H : Hp) (U : Hp) (Z : Fz) (q : Sx) (ds : List PyData) (d : PyData) (q' : Sx) (A : AbH K U Z H q) (ra : RpA K Z vs ds) (e : openF ds q = some (d, q')) :
    spOpen K vs H (fun v H' => ∃ Z', Z.Le Z' ∧ AbH K U Z' H' q' ∧ Rp K Z' v d) E0 := by
  obtain ⟨ns, rfl, hl, ht, rfl, rfl⟩ := openF_some e
  obtain ⟨v, rfl, rv⟩ := ra.one
  obtain ⟨s, rfl, hs⟩ := rv.scr_inv
  have no := A.nos ht
  refine ⟨s, ns, rfl, ?_, hl, fun H' a c keep na nc sa => ⟨⟨Z.F, some (a, c)⟩, ⟨fun _ _ e => e, fun p e => by rw [no] at e; cases e⟩, ⟨fun b o e => keep b o (A.fro b o e), fun b o e => ?_, fun x y e => ?_, fun z => ?_⟩, .src rfl⟩⟩
  · rcases hs with (h | ⟨o, h⟩) | h
    · exact .inl (.inl (A.fro _ _ h))
    · exact .inl (.inr ⟨o, A.fro _ _ h⟩)
    · exact .inr h
  · obtain ⟨h1, h2⟩ := A.unt b o e
    exact ⟨keep b o h1, h2⟩
  · cases e
    have f : ∀ {b : Addr}, H b = none → Z.F b = none := fun {b} n => by
      cases e : Z.F b with
      | none => rfl
      | some o => rw [A.fro b o e] at n; cases n
    have u : ∀ {b : Addr}, H b = none → U b = none := fun {b} n => by
      cases e : U b with
      | none => rfl
      | some o => rw [(A.unt b o e).1] at n; cases n
    exact ⟨sa.d, sa.l, f na, f nc, u na, u nc⟩
  · exact absurd z (by show ¬ (0 : Int) < 0; omega)
end Sb

set_option Elab.async false
set_option autoImplicit false
set_option linter.all false
set_option maxRecDepth 100000
set_option maxHeartbeats 4000000
/-! SbV: all defs of a text, to the law's end. -/
namespace Sb
open PySem PySem.Spec PyProof.Rows L2
structure DefAt (K : PySem.W.Frag) (mg : Str → Option Value) (x : Str) (st : Stmt) (ps : List Str) : Prop where
  ex : ∃ (f : Addr) (fd : FuncData), L2.Fun K x x st f fd ∧ mg x = some (.ref f) ∧ ∀ us : List Value, us.length = ps.length → bindArgs fd ⟨us, []⟩ = pure (ps.zip us)
theorem defAt {K : PySem.W.Frag} {mg : Str → Option Value} {h : Heap} {x : Str} {st : Stmt} {ps : List Str} {f : Addr} {od an : Option Addr} {sl : Array (Option Value)} {oc kV dc pm cd ct : Value} (KX : K.In h) (G : h.Ns mainGlobals mg)
    (b : ∀ (kV dc pm : Value) (an : Option Addr) (cd ct : Value) (us : List Value), us.length = ps.length → bindArgs (PySem.W.fnOf x x (defArgs st) (defBody st) (defScope st) .none kV dc pm an cd ct) ⟨us, []⟩ = pure (ps.zip us))
    (a1 : PySem.W.nsIn K mainGlobals x = some (some (.ref f))) (l1 : K.lookup f = some ⟨oc, od, .func (PySem.W.fnOf x x (defArgs st) (defBody st) (defScope st) .none kV dc pm an cd ct), sl⟩) (c1 : PySem.W.codeIn K cd x = true) (k1 : PySem.W.keepIn K (.ref f) = true) : DefAt K mg x st ps :=
  ⟨f, _, fun_mk l1 c1 k1, PySem.W.mg_of KX G a1, fun us hl => b kV dc pm an cd ct us hl⟩
section
variable {P : Program} {w : World} {K : PySem.W.Frag} {mg : Str → Option Value} {base : Heap} {k : Nat} {fns : List (Str × Nat)} {fs : List Fn}
theorem Tab.def_ {N : List Str} {bn : List Str} {x : Str} {st : Stmt} {ps : List Str} {irs : ISs} (T : Tab P w K mg base k fns fs) (d : DefAt K mg x st ps) (hbn : ∀ x ∈ bn, mg x = none) (h : chkD ⟨N, fns, bn⟩ ps irs st = true) :
    Tab P w K mg base (k + 1) (fns ++ [(x, ps.length)]) (fs ++ [fnR N.length (runSs fs irs)]) := by
  obtain ⟨f, fd, G, hm, hb⟩ := d.ex
  exact T.snoc (def_call (C := ⟨N, fns, bn⟩) G T hbn h hm (Binds.all hb))
theorem Tab.raw {x : Str} {st : Stmt} {ps : List Str} {sp : Sp} {F : Fn} (T : Tab P w K mg base k fns fs) (d : DefAt K mg x st ps) (h : ∀ (f : Addr) (fd : FuncData), L2.Fun K x x st f fd → FnOk P w K mg base CX0 (k + 1) f fd ps sp)
    (hs : ∀ (vs : List V) (H : Hp) (U : Hp) (Z : Fz) (q : Sx) (ds : List PyData) (d : PyData) (q' : Sx), AbH K U Z H q → RpA K Z vs ds → F ds q = some (d, q') → sp vs H (fun v H' => ∃ Z', Z.Le Z' ∧ AbH K U Z' H' q' ∧ Rp K Z' v d) E0) :
    Tab P w K mg base (k + 1) (fns ++ [(x, ps.length)]) (fs ++ [F]) := by
  obtain ⟨f, fd, G, hm, hb⟩ := d.ex
  exact T.snoc ⟨f, fd, ps, of_fnOk (h f fd G) hs, hm, G.kp, Binds.all hb, rfl⟩
/-- the law's def: what the end wants -/
theorem law_end {N : List Str} {bn : List Str} {st : Stmt} {irs : ISs} {fa : Addr} (hT : ∀ base : Heap, K.In base → base.Ns mainGlobals mg → Tab P w K mg base k fns fs) (d : DefAt K mg "law" st ["script"]) (hbn : ∀ x ∈ bn, mg x = none) (h : chkD ⟨N, fns, bn⟩ ["script"] irs st = true) (hfa : mg "law" = some (.ref fa)) :
    ∃ fd : FuncData, (∀ (s : Shared) (u : Value), BindsTo s fd ⟨[u], []⟩ [("script", u)]) ∧ ∀ base : Heap, K.In base → base.Ns mainGlobals mg → FnG P w K mg base (k + 1) fa fd ["script"] (fnR N.length (runSs fs irs)) := by
  obtain ⟨f, fd, G, hm, hb⟩ := d.ex
  rw [hm] at hfa
  cases hfa
  exact ⟨fd, fun s u => .of_eq (hb [u] rfl), fun base h1 h2 => def_ok (C := ⟨N, fns, bn⟩) G (hT base h1 h2) hbn h⟩
end
end Sb

set_option Elab.async false
set_option autoImplicit false
set_option linter.all false
set_option maxRecDepth 100000
set_option maxHeartbeats 4000000
/-! SbW: how a text is walked, as data. -/
namespace Sb
open PySem PySem.Spec PyProof.Rows L2

abbrev os (own : List (Str × Nat)) : List Nat := own.map (·.2)
section
variable {fs : List Fn} {ρ ρ1 ρ2 ρ3 ρ' : Ev} {q q1 q2 q3 q' : Sx} {d x y z : PyData} {a b c e : IE} {o : Out}
/-! ### expressions -/
theorem e_var {i : Nat} (h : ρ[i]? = some (some (.val d))) : runE fs (.var i) ρ q = some (d, ρ, q) := by
  show varR i ρ q = _
  unfold varR
  rw [h]
theorem e_own {i : Nat} {ds : List PyData} (h : ρ[i]? = some (some (.own (.list ds)))) : runE fs (.var i) ρ q = some (.list ds, ρ.set i (some (.val (.list ds))), q) := by
  show varR i ρ q = _
  unfold varR
  rw [h]
theorem e_cst : runE fs (.cst d) ρ q = some (d, ρ, q) := rfl
theorem f1_mk {s : PyData → Option PyData} {f : Run} (h1 : f ρ q = some (x, ρ1, q1)) (h2 : s x = some d) : f1 s f ρ q = some (d, ρ1, q1) := by
  unfold f1; simp only [h1, h2]
theorem f2_mk {s : PyData → PyData → Option PyData} {f g : Run} (h1 : f ρ q = some (x, ρ1, q1)) (h2 : g ρ1 q1 = some (y, ρ2, q2)) (h3 : s x y = some d) : f2 s f g ρ q = some (d, ρ2, q2) := by
  unfold f2; simp only [h1, h2, h3]
theorem e_bin {p : BO} (h1 : runE fs a ρ q = some (x, ρ1, q1)) (h2 : runE fs b ρ1 q1 = some (y, ρ2, q2)) (h3 : p.sem x y = some d) : runE fs (.bin p a b) ρ q = some (d, ρ2, q2) := f2_mk h1 h2 h3
theorem e_cmp {p : CO} (h1 : runE fs a ρ q = some (x, ρ1, q1)) (h2 : runE fs b ρ1 q1 = some (y, ρ2, q2)) (h3 : p.sem x y = some d) : runE fs (.cmp p a b) ρ q = some (d, ρ2, q2) := f2_mk h1 h2 h3
theorem e_ix (h1 : runE fs a ρ q = some (x, ρ1, q1)) (h2 : runE fs b ρ1 q1 = some (y, ρ2, q2)) (h3 : ixS x y = some d) : runE fs (.ix a b) ρ q = some (d, ρ2, q2) := f2_mk h1 h2 h3
theorem e_neg (h1 : runE fs a ρ q = some (x, ρ1, q1)) (h2 : negS x = some d) : runE fs (.neg a) ρ q = some (d, ρ1, q1) := f1_mk h1 h2
theorem e_nt {t : Bool} (h1 : runE fs a ρ q = some (.bool t, ρ1, q1)) : runE fs (.nt a) ρ q = some (.bool (!t), ρ1, q1) := f1_mk h1 rfl
theorem e_rv (h1 : runE fs a ρ q = some (x, ρ1, q1)) (h2 : revS x = some d) : runE fs (.rv a) ρ q = some (d, ρ1, q1) := f1_mk h1 h2
theorem e_isa {T : String} (h1 : runE fs a ρ q = some (x, ρ1, q1)) (h2 : isaS T x = some d) : runE fs (.isa T a) ρ q = some (d, ρ1, q1) := f1_mk h1 h2
theorem e_one (h1 : runE fs a ρ q = some (x, ρ1, q1)) : runE fs (.one a) ρ q = some (x, ρ1, q1) := h1
theorem e_an {t : Bool} (h1 : runE fs a ρ q = some (.bool t, ρ1, q1)) (h2 : t = true → runE fs b ρ1 q1 = some (d, ρ2, q2)) (h3 : t = false → (d, ρ2, q2) = (.bool false, ρ1, q1)) : runE fs (.an a b) ρ q = some (d, ρ2, q2) := by
  show anR (runE fs a) (runE fs b) ρ q = _
  unfold anR
  cases t with
  | true => simp only [h1]; exact h2 rfl
  | false => simp only [h1]; rw [h3 rfl]
theorem e_or {t : Bool} (h1 : runE fs a ρ q = some (.bool t, ρ1, q1)) (h2 : t = false → runE fs b ρ1 q1 = some (d, ρ2, q2)) (h3 : t = true → (d, ρ2, q2) = (.bool true, ρ1, q1)) : runE fs (.or a b) ρ q = some (d, ρ2, q2) := by
  show orR (runE fs a) (runE fs b) ρ q = _
  unfold orR
  cases t with
  | true => simp only [h1]; rw [h3 rfl]
  | false => simp only [h1]; exact h2 rfl
/-- both are told, and nothing moves -/
theorem e_an' {t u : Bool} (h1 : runE fs a ρ q = some (.bool t, ρ, q)) (h2 : t = true → runE fs b ρ q = some (.bool u, ρ, q)) : runE fs (.an a b) ρ q = some (.bool (t && u), ρ, q) :=
  e_an h1 (fun z => by rw [h2 z, z]; rfl) fun z => by rw [z]; rfl
theorem e_or' {t u : Bool} (h1 : runE fs a ρ q = some (.bool t, ρ, q)) (h2 : t = false → runE fs b ρ q = some (.bool u, ρ, q)) : runE fs (.or a b) ρ q = some (.bool (t || u), ρ, q) :=
  e_or h1 (fun z => by rw [h2 z, z]; rfl) fun z => by rw [z]; rfl
theorem e_ite {t : Bool} (h1 : runE fs c ρ q = some (.bool t, ρ1, q1)) (h2 : t = true → runE fs a ρ1 q1 = some (d, ρ2, q2)) (h3 : t = false → runE fs b ρ1 q1 = some (d, ρ2, q2)) : runE fs (.ite c a b) ρ q = some (d, ρ2, q2) := by
  show iteR (fT (runE fs c)) (runE fs a) (runE fs b) ρ q = _
  unfold iteR fT
  simp only [h1]
  cases t with
  | true => exact h2 rfl
  | false => exact h3 rfl
theorem e_ite' {t : Bool} (h1 : runE fs c ρ q = some (.bool t, ρ, q)) (h2 : t = true → runE fs a ρ q = some (x, ρ, q)) (h3 : t = false → runE fs b ρ q = some (y, ρ, q)) : runE fs (.ite c a b) ρ q = some (if t = true then x else y, ρ, q) :=
  e_ite h1 (fun z => by rw [h2 z, z]; rfl) fun z => by rw [h3 z, z]; rfl
theorem e_iteP {t : Bool} (h1 : runE fs c ρ q = some (.bool t, ρ, q)) (h2 : t = true → runE fs a ρ q = some (d, ρ, q)) (h3 : t = false → runE fs b ρ q = some (d, ρ, q)) : runE fs (.ite c a b) ρ q = some (d, ρ, q) := e_ite h1 h2 h3
theorem l_nil : runEs fs .nil ρ q = some ([], ρ, q) := rfl
theorem l_cons {r : IEs} {xs : List PyData} (h1 : runE fs a ρ q = some (x, ρ1, q1)) (h2 : runEs fs r ρ1 q1 = some (xs, ρ2, q2)) : runEs fs (.cons a r) ρ q = some (x :: xs, ρ2, q2) := by
  show consR (runE fs a) (runEs fs r) ρ q = _
  unfold consR
  simp only [h1, h2]
theorem lift_mk {s : List PyData → Option PyData} {f : RunA} {xs : List PyData} (h1 : f ρ q = some (xs, ρ1, q1)) (h2 : s xs = some d) : liftA s f ρ q = some (d, ρ1, q1) := by
  unfold liftA; simp only [h1, h2]
theorem e_tup {es : IEs} {xs : List PyData} (h1 : runEs fs es ρ q = some (xs, ρ1, q1)) (h2 : xs.length ≤ 1000000) : runE fs (.tup es) ρ q = some (.tuple xs, ρ1, q1) := lift_mk h1 (by unfold tupD; rw [if_pos h2])
theorem e_lst {es : IEs} {xs : List PyData} (h1 : runEs fs es ρ q = some (xs, ρ1, q1)) (h2 : xs.length ≤ 1000000) : runE fs (.lst es) ρ q = some (.list xs, ρ1, q1) := lift_mk h1 (by unfold lstD; rw [if_pos h2])
theorem e_fn {f : BF} {es : IEs} {xs : List PyData} (h1 : runEs fs es ρ q = some (xs, ρ1, q1)) (h2 : f.sem xs = some d) : runE fs (.fn f es) ρ q = some (d, ρ1, q1) := lift_mk h1 h2
theorem e_call {i : Nat} {es : IEs} {xs : List PyData} (h1 : runEs fs es ρ q = some (xs, ρ1, q1)) (h2 : fs.getD i (fun _ _ => none) xs q1 = some (d, q2)) : runE fs (.call i es) ρ q = some (d, ρ1, q2) := by
  show callR (fs.getD i fun _ _ => none) (runEs fs es) ρ q = _
  unfold callR
  simp only [h1, h2]
theorem e_scp (h1 : runE fs a (frzE ρ) q = some (d, ρ1, q1)) (h2 : lfr d = true) : runE fs (.scp a) ρ q = some (d, ρ, q1) := by
  show scpR (runE fs a) ρ q = _
  unfold scpR
  simp only [h1]
  rw [if_pos h2]
theorem o_none : runO fs .none ρ q = some (none, ρ, q) := rfl
theorem o_some {i : Int} (h1 : runE fs a ρ q = some (.int i, ρ1, q1)) : runO fs (.some a) ρ q = some (some i, ρ1, q1) := by
  show someO (runE fs a) ρ q = _
  unfold someO
  simp only [h1]
theorem e_sl {lo hi : IO} {l u : Option Int} (h1 : runE fs a ρ q = some (x, ρ1, q1)) (h2 : runO fs lo ρ1 q1 = some (l, ρ2, q2)) (h3 : runO fs hi ρ2 q2 = some (u, ρ3, q3)) (h4 : slS x l u = some d) : runE fs (.sl a lo hi) ρ q = some (d, ρ3, q3) := by
  show slR (runE fs a) (runO fs lo) (runO fs hi) ρ q = _
  unfold slR
  simp only [h1, h2, h3, h4]
/-! walks -/
theorem i_lst {ds : List PyData} (h1 : runE fs a ρ q = some (.list ds, ρ1, q1)) : runI fs (.seq a) ρ q = some (ds, ρ1, q1) := by
  show seqR (runE fs a) ρ q = _
  unfold seqR
  simp only [h1]
theorem i_tup {ds : List PyData} (h1 : runE fs a ρ q = some (.tuple ds, ρ1, q1)) : runI fs (.seq a) ρ q = some (ds, ρ1, q1) := by
  show seqR (runE fs a) ρ q = _
  unfold seqR
  simp only [h1]
theorem i_enumT {ds : List PyData} (h1 : runE fs a ρ q = some (.tuple ds, ρ1, q1)) : runI fs (.enum a) ρ q = some (enumD ds, ρ1, q1) := by
  show enumR (runE fs a) ρ q = _
  unfold enumR seqR
  simp only [h1]
theorem i_enumL {ds : List PyData} (h1 : runE fs a ρ q = some (.list ds, ρ1, q1)) : runI fs (.enum a) ρ q = some (enumD ds, ρ1, q1) := by
  show enumR (runE fs a) ρ q = _
  unfold enumR seqR
  simp only [h1]
/-- range(n) -/
theorem i_rg {n : Nat} (h1 : runE fs b ρ q = some (.int (n : Int), ρ1, q1)) (h2 : n ≤ 1000000) : runI fs (.rg .none b) ρ q = some ((List.range n).map (fun (k : Nat) => .int (k : Int)), ρ1, q1) := by
  show rgR noneO (runE fs b) ρ q = _
  unfold rgR noneO
  simp only [h1]
  unfold rngS
  rw [if_pos (by show _ ∧ _; simp only [Option.getD_none]; omega)]
  simp only [Option.getD_none, Int.sub_zero, Int.toNat_natCast, rngD, Int.zero_add]
theorem i_rg2 {lo hi : Int} (h1 : runE fs a ρ q = some (.int lo, ρ1, q1)) (h2 : runE fs b ρ1 q1 = some (.int hi, ρ2, q2)) (h3 : -1000000 ≤ lo ∧ hi ≤ 1000000 ∧ lo ≤ 1000000 ∧ -1000000 ≤ hi ∧ hi - lo ≤ 1000000) :
    runI fs (.rg (.some a) b) ρ q = some (rngD lo (hi - lo).toNat, ρ2, q2) := by
  show rgR (someO (runE fs a)) (runE fs b) ρ q = _
  unfold rgR someO
  simp only [h1, h2]
  unfold rngS
  rw [if_pos (by show _ ∧ _; simp only [Option.getD_some]; omega)]
  simp only [Option.getD_some]
theorem e_lrg {t : Bool} {n : Nat} (h1 : runE fs b ρ q = some (.int (n : Int), ρ1, q1)) (h2 : n ≤ 1000000) : runE fs (.lrg t .none b) ρ q = some (if t = true then .tuple ((List.range n).map (fun (k : Nat) => .int (k : Int))) else .list ((List.range n).map (fun (k : Nat) => .int (k : Int))), ρ1, q1) := by
  have h := i_rg (fs := fs) h1 h2
  show lrgR t (rgR (runO fs .none) (runE fs b)) ρ q = _
  unfold lrgR
  simp only [show rgR (runO fs .none) (runE fs b) ρ q = _ from h]

/-! ### comprehensions -/
/-- one item, nothing moves -/
theorem compL_map {α : Type} {body : PyData → Ev → Sx → Option (Option PyData × Ev × Sx)} {en : α → PyData} {g : α → Option PyData} : ∀ {xs : List α}, (∀ x ∈ xs, body (en x) ρ q = some (g x, ρ, q)) →
    compL body (xs.map en) ρ q = some (xs.filterMap g, ρ, q)
  | [], _ => rfl
  | x :: xs, h => by
    rw [List.map_cons, compL, h x List.mem_cons_self]
    simp only []
    rw [compL_map fun y hy => h y (List.mem_cons_of_mem _ hy)]
    simp only []
    rw [List.filterMap_cons]
    cases g x <;> rfl
theorem e_comp {α : Type} {own : List (Str × Nat)} {tg : IT} {it : II} {cn : IO} {en : α → PyData} {g : α → Option PyData} {xs : List α} (h1 : runI fs it ρ q = some (xs.map en, ρ1, q1))
    (h2 : ∀ x ∈ xs, compB (os own) (asg tg) (runC fs cn) (runE fs e) (en x) (wipeE ρ1 (os own)) q1 = some (g x, wipeE ρ1 (os own), q1)) :
    runE fs (.comp own tg it cn e) ρ q = some (.list (xs.filterMap g), backE ρ1 (wipeE ρ1 (os own)) (os own), q1) := by
  show compR (os own) (runI fs it) (asg tg) (runC fs cn) (runE fs e) ρ q = _
  unfold compR
  simp only [h1]
  rw [compL_map h2]
theorem filterMap_some {α β : Type} {g : α → β} : ∀ {xs : List α}, xs.filterMap (fun x => some (g x)) = xs.map g
  | [] => rfl
  | x :: xs => by rw [List.filterMap_cons, List.map_cons, filterMap_some]
theorem filterMap_if {α β : Type} {g : α → β} {p : α → Bool} : ∀ {xs : List α}, xs.filterMap (fun x => if p x = true then some (g x) else none) = (xs.filter p).map g
  | [] => rfl
  | x :: xs => by
    rw [List.filterMap_cons, List.filter_cons, filterMap_if]
    cases p x <;> rfl
/-- [e for x in xs] -/
theorem e_mapG {α : Type} {own : List (Str × Nat)} {tg : IT} {it : II} {en g : α → PyData} {xs : List α} (h1 : runI fs it ρ q = some (xs.map en, ρ1, q1))
    (h2 : ∀ x ∈ xs, ∃ ρ2 ρ3, asg tg (en x) (wipeE ρ1 (os own)) = some ρ2 ∧ runE fs e ρ2 q1 = some (g x, ρ3, q1) ∧ wipeE ρ3 (os own) = wipeE ρ1 (os own)) (h3 : backE ρ1 (wipeE ρ1 (os own)) (os own) = ρ2) :
    runE fs (.comp own tg it .none e) ρ q = some (.list (xs.map g), ρ2, q1) := by
  rw [← filterMap_some, ← h3]
  refine e_comp h1 fun x hx => ?_
  obtain ⟨r2, r3, k1, k2, k3⟩ := h2 x hx
  unfold compB
  simp only [k1]
  show (match runE fs e r2 q1 with | none => none | some (d, ρ3, q3) => some (some d, wipeE ρ3 (os own), q3)) = _
  simp only [k2, k3]
/-- [e for x in xs if c] -/
theorem e_filterG {α : Type} {own : List (Str × Nat)} {tg : IT} {it : II} {en g : α → PyData} {p : α → Bool} {xs : List α} (h1 : runI fs it ρ q = some (xs.map en, ρ1, q1))
    (h2 : ∀ x ∈ xs, ∃ ρ2 ρ3, asg tg (en x) (wipeE ρ1 (os own)) = some ρ2 ∧ runE fs c ρ2 q1 = some (.bool (p x), ρ2, q1) ∧ wipeE ρ2 (os own) = wipeE ρ1 (os own) ∧ (p x = true → runE fs e ρ2 q1 = some (g x, ρ3, q1) ∧ wipeE ρ3 (os own) = wipeE ρ1 (os own)))
    (h3 : backE ρ1 (wipeE ρ1 (os own)) (os own) = ρ2) :
    runE fs (.comp own tg it (.some c) e) ρ q = some (.list ((xs.filter p).map g), ρ2, q1) := by
  rw [← filterMap_if, ← h3]
  refine e_comp h1 fun x hx => ?_
  obtain ⟨r2, r3, k1, k2, k3, k4⟩ := h2 x hx
  unfold compB
  simp only [k1]
  show (match fT (runE fs c) r2 q1 with | none => none | some (b, ρ2, q2) => if b = true then (match runE fs e ρ2 q2 with | none => none | some (d, ρ3, q3) => some (some d, wipeE ρ3 (os own), q3)) else some (none, wipeE ρ2 (os own), q2)) = _
  unfold fT
  simp only [k2]
  cases hp : p x with
  | true =>
    obtain ⟨k5, k6⟩ := k4 hp
    simp [k5, k6]
  | false => simp [k3]
theorem e_map {α : Type} {own : List (Str × Nat)} {tg : IT} {it : II} {en g : α → PyData} {xs : List α} (h1 : runI fs it ρ q = some (xs.map en, ρ1, q1))
    (h2 : ∀ x ∈ xs, ∃ ρ2, asg tg (en x) (wipeE ρ1 (os own)) = some ρ2 ∧ wipeE ρ2 (os own) = wipeE ρ1 (os own) ∧ runE fs e ρ2 q1 = some (g x, ρ2, q1)) (h3 : backE ρ1 (wipeE ρ1 (os own)) (os own) = ρ2) :
    runE fs (.comp own tg it .none e) ρ q = some (.list (xs.map g), ρ2, q1) :=
  e_mapG h1 (fun x hx => let ⟨r, k1, k2, k3⟩ := h2 x hx; ⟨r, r, k1, k3, k2⟩) h3
theorem e_filter {α : Type} {own : List (Str × Nat)} {tg : IT} {it : II} {en g : α → PyData} {p : α → Bool} {xs : List α} (h1 : runI fs it ρ q = some (xs.map en, ρ1, q1))
    (h2 : ∀ x ∈ xs, ∃ ρ2, asg tg (en x) (wipeE ρ1 (os own)) = some ρ2 ∧ wipeE ρ2 (os own) = wipeE ρ1 (os own) ∧ runE fs c ρ2 q1 = some (.bool (p x), ρ2, q1) ∧ (p x = true → runE fs e ρ2 q1 = some (g x, ρ2, q1)))
    (h3 : backE ρ1 (wipeE ρ1 (os own)) (os own) = ρ2) : runE fs (.comp own tg it (.some c) e) ρ q = some (.list ((xs.filter p).map g), ρ2, q1) :=
  e_filterG h1 (fun x hx => let ⟨r, k1, k2, k3, k4⟩ := h2 x hx; ⟨r, r, k1, k3, k2, fun z => ⟨k4 z, k2⟩⟩) h3
/-- the source moves -/
theorem compL_src {body : PyData → Ev → Sx → Option (Option PyData × Ev × Sx)} {I : Sx → Prop} {P : PyData → Prop} : ∀ {ds : List PyData} {q : Sx}, I q → (∀ d ∈ ds, ∀ q, I q → ∃ y q', body d ρ q = some (some y, ρ, q') ∧ I q' ∧ P y) →
    ∃ ys q', compL body ds ρ q = some (ys, ρ, q') ∧ I q' ∧ ys.length = ds.length ∧ ∀ y ∈ ys, P y
  | [], q, hI, _ => ⟨[], q, rfl, hI, rfl, fun _ h => by cases h⟩
  | d :: ds, q, hI, h => by
    obtain ⟨y, q1, e1, i1, p1⟩ := h d List.mem_cons_self q hI
    obtain ⟨ys, q2, e2, i2, l2, p2⟩ := compL_src (ds := ds) i1 fun d hd => h d (List.mem_cons_of_mem _ hd)
    refine ⟨y :: ys, q2, ?_, i2, by rw [List.length_cons, List.length_cons, l2], fun z hz => ?_⟩
    · rw [compL, e1]
      simp only []
      rw [e2]
      rfl
    · rcases List.mem_cons.mp hz with rfl | hz
      · exact p1
      · exact p2 z hz
theorem e_draw {own : List (Str × Nat)} {tg : IT} {it : II} {ds : List PyData} {I : Sx → Prop} {P : PyData → Prop} (h1 : runI fs it ρ q = some (ds, ρ1, q1)) (hI : I q1)
    (h2 : ∀ d ∈ ds, ∀ q, I q → ∃ ρ2 ρ3 y q', asg tg d (wipeE ρ1 (os own)) = some ρ2 ∧ runE fs e ρ2 q = some (y, ρ3, q') ∧ wipeE ρ3 (os own) = wipeE ρ1 (os own) ∧ I q' ∧ P y) (h3 : backE ρ1 (wipeE ρ1 (os own)) (os own) = ρ2) :
    ∃ ys q', runE fs (.comp own tg it .none e) ρ q = some (.list ys, ρ2, q') ∧ I q' ∧ ys.length = ds.length ∧ ∀ y ∈ ys, P y := by
  obtain ⟨ys, q', e1, i1, l1, p1⟩ := compL_src (ρ := wipeE ρ1 (os own)) (body := compB (os own) (asg tg) (runC fs .none) (runE fs e)) (P := P) hI fun d hd q hq => by
    obtain ⟨r2, r3, y, q', k1, k2, k3, k4, k5⟩ := h2 d hd q hq
    refine ⟨y, q', ?_, k4, k5⟩
    unfold compB
    simp only [k1]
    show (match runE fs e r2 q with | none => none | some (d, ρ3, q3) => some (some d, wipeE ρ3 (os own), q3)) = _
    simp only [k2, k3]
  refine ⟨ys, q', ?_, i1, l1, p1⟩
  show compR (os own) (runI fs it) (asg tg) (runC fs .none) (runE fs e) ρ q = _
  unfold compR
  simp only [h1]
  rw [e1, ← h3]

/-! ### statements -/
theorem fn_rt {n : Nat} {irs : ISs} {ds : List PyData} (h : runSs fs irs (startE n ds) q = some (.rt d q')) : fnR n (runSs fs irs) ds q = some (d, q') := by
  unfold fnR; rw [h]
theorem s_nx {s : IS} {r : ISs} (h1 : runS fs s ρ q = some (.nx ρ1 q1)) (h2 : runSs fs r ρ1 q1 = some o) : runSs fs (.cons s r) ρ q = some o := by
  show seqS (runS fs s) (runSs fs r) ρ q = _
  unfold seqS; simp only [h1]; exact h2
theorem s_rt {s : IS} {r : ISs} (h1 : runS fs s ρ q = some (.rt d q1)) : runSs fs (.cons s r) ρ q = some (.rt d q1) := by
  show seqS (runS fs s) (runSs fs r) ρ q = _
  unfold seqS; simp only [h1]
theorem s_nil : runSs fs .nil ρ q = some (.nx ρ q) := rfl
theorem s_set {tg : IT} (h1 : runE fs a ρ q = some (d, ρ1, q1)) (h2 : asg tg d ρ1 = some ρ2) : runS fs (.set tg a) ρ q = some (.nx ρ2 q1) := by
  show setR (asg tg) (runE fs a) ρ q = _
  unfold setR; simp only [h1, h2]
theorem s_own {i : Nat} {k : IK} {ds : List PyData} (h1 : runK fs k ρ q = some (ds, ρ1, q1)) : runS fs (.own i k) ρ q = some (.nx (ρ1.set i (some (.own (.list ds)))) q1) := by
  show ownR i (runK fs k) ρ q = _
  unfold ownR; simp only [h1]
theorem s_par {ts : List Nat} {xs : List IX} {ws : List SV} (h1 : runXs fs xs ρ q = some (ws, ρ1, q1)) (h2 : setsE ts ws ρ1 = some ρ2) : runS fs (.par ts xs) ρ q = some (.nx ρ2 q1) := by
  show parR ts (runXs fs xs) ρ q = _
  unfold parR; simp only [h1, h2]
theorem x_nil : runXs fs [] ρ q = some ([], ρ, q) := by unfold runXs; rfl
theorem x_v {r : List IX} {ws : List SV} (h1 : runE fs a ρ q = some (d, ρ1, q1)) (h2 : runXs fs r ρ1 q1 = some (ws, ρ2, q2)) : runXs fs (.v a :: r) ρ q = some (.val d :: ws, ρ2, q2) := by
  rw [runXs]; simp only [h1, h2]
theorem x_o {k : IK} {r : List IX} {ds : List PyData} {ws : List SV} (h1 : runK fs k ρ q = some (ds, ρ1, q1)) (h2 : runXs fs r ρ1 q1 = some (ws, ρ2, q2)) : runXs fs (.o k :: r) ρ q = some (.own (.list ds) :: ws, ρ2, q2) := by
  rw [runXs]; simp only [h1, h2]
theorem s_lc {i : Nat} {own : List (Str × Nat)} {tg : IT} {it : II} {cn : IO} (h1 : runE fs (.comp own tg it cn e) ρ q = some (d, ρ1, q1)) : runS fs (.lc false i own tg it cn e) ρ q = some (.nx (ρ1.set i (some (.val d))) q1) := by
  show (if false = true then ownR i (compA (os own) (runI fs it) (asg tg) (runC fs cn) (runE fs e)) else setR (asg (.nm i)) (compR (os own) (runI fs it) (asg tg) (runC fs cn) (runE fs e))) ρ q = _
  rw [if_neg Bool.false_ne_true]
  unfold setR
  simp only [show compR (os own) (runI fs it) (asg tg) (runC fs cn) (runE fs e) ρ q = _ from h1]
  rfl
theorem s_app {i : Nat} {ds : List PyData} (h0 : isOwn ρ[i]? = true) (h1 : runE fs a ρ q = some (d, ρ1, q1)) (h2 : ρ1[i]? = some (some (.own (.list ds)))) (h3 : ds.length < 1000000) : runS fs (.app i a) ρ q = some (.nx (ρ1.set i (some (.own (.list (ds ++ [d]))))) q1) := by
  show appR i (runE fs a) ρ q = _
  unfold appR
  rw [if_pos h0]
  simp only [h1, h2]
  rw [if_pos h3]
theorem s_exp (h1 : runE fs a ρ q = some (d, ρ1, q1)) : runS fs (.exp a) ρ q = some (.nx ρ1 q1) := by
  show expR (runE fs a) ρ q = _
  unfold expR; simp only [h1]
theorem s_ret (h1 : runE fs a ρ q = some (d, ρ1, q1)) : runS fs (.ret a) ρ q = some (.rt d q1) := by
  show retR (runE fs a) ρ q = _
  unfold retR; simp only [h1]
theorem s_iff {t : Bool} {x y : ISs} (h1 : runE fs c ρ q = some (.bool t, ρ1, q1)) (h2 : t = true → runSs fs x ρ1 q1 = some o) (h3 : t = false → runSs fs y ρ1 q1 = some o) : runS fs (.iff c x y) ρ q = some o := by
  show iffR (fT (runE fs c)) (runSs fs x) (runSs fs y) ρ q = _
  unfold iffR fT
  simp only [h1]
  cases t with
  | true => exact h2 rfl
  | false => exact h3 rfl
theorem forL_inv {tg : PyData → Ev → Option Ev} {body : RunS} (I : Nat → Ev → Sx → Prop) : ∀ {ds : List PyData} {n : Nat} {ρ : Ev} {q : Sx}, I n ρ q → (∀ i d ρ q, ds[i]? = some d → I (n + i) ρ q → ∃ ρ1 ρ2 q2, tg d ρ = some ρ1 ∧ body ρ1 q = some (.nx ρ2 q2) ∧ I (n + i + 1) ρ2 q2) →
    ∃ ρ' q', forL tg body ds ρ q = some (.nx ρ' q') ∧ I (n + ds.length) ρ' q'
  | [], n, ρ, q, h, _ => ⟨ρ, q, rfl, h⟩
  | d :: ds, n, ρ, q, h, st => by
    obtain ⟨ρ1, ρ2, q2, e1, e2, h2⟩ := st 0 d ρ q rfl h
    obtain ⟨ρ', q', e3, h3⟩ := forL_inv I (ds := ds) (n := n + 1) h2 fun i d ρ q hd hi => by
      have := st (i + 1) d ρ q hd (by rw [show n + (i + 1) = n + 1 + i by omega]; exact hi)
      rw [show n + (i + 1) + 1 = n + 1 + i + 1 by omega] at this
      exact this
    refine ⟨ρ', q', ?_, by rw [List.length_cons, show n + (ds.length + 1) = n + 1 + ds.length by omega]; exact h3⟩
    rw [forL]
    simp only [e1, e2]
    exact e3
/-- for: by what holds ahead of each turn -/
theorem s_for {tg : IT} {it : II} {body : ISs} {ds : List PyData} (I : Nat → Ev → Sx → Prop) (h1 : runI fs it ρ q = some (ds, ρ1, q1)) (h0 : I 0 ρ1 q1)
    (st : ∀ i d ρ q, ds[i]? = some d → I i ρ q → ∃ ρ1 ρ2 q2, asg tg d ρ = some ρ1 ∧ runSs fs body ρ1 q = some (.nx ρ2 q2) ∧ I (i + 1) ρ2 q2) :
    ∃ ρ' q', runS fs (.for_ tg it body) ρ q = some (.nx ρ' q') ∧ I ds.length ρ' q' := by
  obtain ⟨ρ', q', e, h⟩ := forL_inv (tg := asg tg) (body := runSs fs body) I (n := 0) h0 fun i d ρ q hd hi => by
    rw [Nat.zero_add] at hi ⊢
    exact st i d ρ q hd hi
  rw [Nat.zero_add] at h
  refine ⟨ρ', q', ?_, h⟩
  show forR (asg tg) (runI fs it) (runSs fs body) ρ q = _
  unfold forR
  simp only [h1]
  exact e
/-! known branches -/
theorem s_iffT {x y : ISs} (h1 : runE fs c ρ q = some (.bool true, ρ1, q1)) (h2 : runSs fs x ρ1 q1 = some o) : runS fs (.iff c x y) ρ q = some o := s_iff h1 (fun _ => h2) fun z => nomatch z
theorem s_iffF {x y : ISs} (h1 : runE fs c ρ q = some (.bool false, ρ1, q1)) (h2 : runSs fs y ρ1 q1 = some o) : runS fs (.iff c x y) ρ q = some o := s_iff h1 (fun z => nomatch z) fun _ => h2
theorem e_orT (h1 : runE fs a ρ q = some (.bool true, ρ1, q1)) : runE fs (.or a b) ρ q = some (.bool true, ρ1, q1) := e_or h1 (fun z => nomatch z) fun _ => rfl
theorem e_orF (h1 : runE fs a ρ q = some (.bool false, ρ1, q1)) (h2 : runE fs b ρ1 q1 = some (d, ρ2, q2)) : runE fs (.or a b) ρ q = some (d, ρ2, q2) := e_or h1 (fun _ => h2) fun z => nomatch z
theorem e_anF (h1 : runE fs a ρ q = some (.bool false, ρ1, q1)) : runE fs (.an a b) ρ q = some (.bool false, ρ1, q1) := e_an h1 (fun z => nomatch z) fun _ => rfl
theorem e_anT (h1 : runE fs a ρ q = some (.bool true, ρ1, q1)) (h2 : runE fs b ρ1 q1 = some (d, ρ2, q2)) : runE fs (.an a b) ρ q = some (d, ρ2, q2) := e_an h1 (fun _ => h2) fun z => nomatch z
theorem e_iteT (h1 : runE fs c ρ q = some (.bool true, ρ1, q1)) (h2 : runE fs a ρ1 q1 = some (d, ρ2, q2)) : runE fs (.ite c a b) ρ q = some (d, ρ2, q2) := e_ite h1 (fun _ => h2) fun z => nomatch z
theorem e_iteF (h1 : runE fs c ρ q = some (.bool false, ρ1, q1)) (h2 : runE fs b ρ1 q1 = some (d, ρ2, q2)) : runE fs (.ite c a b) ρ q = some (d, ρ2, q2) := e_ite h1 (fun z => nomatch z) fun _ => h2
theorem s_retL {r : ISs} (h1 : runE fs a ρ q = some (d, ρ1, q1)) : runSs fs (.cons (.ret a) r) ρ q = some (.rt d q1) := s_rt (s_ret h1)
theorem s_iffL {x y r : ISs} {t : Bool} (h1 : runE fs c ρ q = some (.bool t, ρ1, q1)) (h2 : t = true → runSs fs (.cons (.iff (.cst (.bool true)) x .nil) r) ρ1 q1 = some o) (h3 : t = false → runSs fs (.cons (.iff (.cst (.bool true)) y .nil) r) ρ1 q1 = some o) : runSs fs (.cons (.iff c x y) r) ρ q = some o := by
  show seqS (iffR (fT (runE fs c)) (runSs fs x) (runSs fs y)) (runSs fs r) ρ q = _
  unfold seqS iffR fT
  simp only [h1]
  cases t with
  | true => exact h2 rfl
  | false => exact h3 rfl

/-! ### values -/
theorem v_eq_int {i j : Int} : CO.sem .eq (.int i) (.int j) = some (.bool (decide (i = j))) := by
  show eqS _ _ = _
  unfold eqS
  rw [if_pos (by rfl)]
  simp [PyData.eqv, Bool.beq_eq_decide_eq]
theorem v_ne_int {i j : Int} : CO.sem .ne (.int i) (.int j) = some (.bool (!decide (i = j))) := by
  show notS eqS (.int i) (.int j) = _
  unfold notS
  rw [show eqS (.int i) (.int j) = _ from v_eq_int]
theorem v_mod {i j : Int} (h : 0 < j) : BO.sem .mod (.int i) (.int j) = some (.int (i % j)) := by
  show modS (.int i) (.int j) = _
  unfold modS
  simp only []
  rw [if_pos h]
theorem v_div {i j : Int} (h : 0 < j ∧ j < 1073741824) : BO.sem .div (.int i) (.int j) = some (.int (i / j)) := by
  show divS (.int i) (.int j) = _
  unfold divS
  simp only []
  rw [if_pos h]
theorem v_mul {i j : Int} (h : i.natAbs < 1000000000000 ∨ j.natAbs < 1000000000000) : BO.sem .mul (.int i) (.int j) = some (.int (i * j)) := by
  show mulS (.int i) (.int j) = _
  unfold mulS
  simp only []
  rw [if_pos h]
theorem v_addL {a b : List PyData} (h : a.length + b.length ≤ 1000000) : BO.sem .add (.list a) (.list b) = some (.list (a ++ b)) := by
  show addS (.list a) (.list b) = _
  unfold addS
  simp only []
  rw [if_pos h]
theorem v_addT {a b : List PyData} (h : a.length + b.length ≤ 1000000) : BO.sem .add (.tuple a) (.tuple b) = some (.tuple (a ++ b)) := by
  show addS (.tuple a) (.tuple b) = _
  unfold addS
  simp only []
  rw [if_pos h]
theorem bools_all {α : Type} {p : α → Bool} : ∀ {xs : List α}, (xs.map fun x => PyData.bool (p x)).all isBool = true ∧ ((xs.map fun x => PyData.bool (p x)).map boolOf).all id = xs.all p ∧ ((xs.map fun x => PyData.bool (p x)).map boolOf).any id = xs.any p
  | [] => ⟨rfl, rfl, rfl⟩
  | x :: xs => by
    obtain ⟨h1, h2, h3⟩ := bools_all (p := p) (xs := xs)
    simp only [List.map_cons, List.all_cons, List.any_cons, isBool, boolOf, id, h1, h2, h3, Bool.and_self, and_self]
theorem v_all {α : Type} {xs : List α} {p : α → Bool} : BF.sem .all [.list (xs.map fun x => .bool (p x))] = some (.bool (xs.all p)) := by
  show allS [.list (xs.map fun x => .bool (p x))] = _
  unfold allS
  simp only []
  rw [if_pos bools_all.1, bools_all.2.1]
theorem v_any {α : Type} {xs : List α} {p : α → Bool} : BF.sem .any [.list (xs.map fun x => .bool (p x))] = some (.bool (xs.any p)) := by
  show anyS [.list (xs.map fun x => .bool (p x))] = _
  unfold anyS
  simp only []
  rw [if_pos bools_all.1, bools_all.2.2]
theorem v_eq {d e : PyData} (h1 : okd 40 d = true) (h2 : okd 40 e = true) : CO.sem .eq d e = some (.bool (PyData.eqv d e)) := by
  show eqS d e = _
  unfold eqS
  rw [if_pos (by rw [h1, h2]; simp)]
theorem v_ne {d e : PyData} (h1 : okd 40 d = true) (h2 : okd 40 e = true) : CO.sem .ne d e = some (.bool (!PyData.eqv d e)) := by
  show notS eqS d e = _
  unfold notS
  rw [show eqS d e = _ from v_eq h1 h2]
def isTp : PyData → Bool
  | .tuple _ => true
  | _ => false
def isIn : PyData → Bool
  | .int _ => true
  | .bool _ => true
  | _ => false
def isBo : PyData → Bool
  | .bool _ => true
  | _ => false
def isI : PyData → Bool
  | .int _ => true
  | _ => false
theorem isI_eq (d : PyData) : (isIn d && !isBo d) = isI d := by
  cases d <;> rfl
theorem v_isa_tuple {d : PyData} (h : okd 40 d = true) : isaS "tuple" d = some (.bool (isTp d)) := by
  cases d <;> first | rfl | (simp [okd, leafOk] at h)
theorem v_isa_int {d : PyData} (h : okd 40 d = true) : isaS "int" d = some (.bool (isIn d)) := by
  cases d <;> first | rfl | (simp [okd, leafOk] at h)
theorem v_isa_bool {d : PyData} (h : okd 40 d = true) : isaS "bool" d = some (.bool (isBo d)) := by
  cases d <;> first | rfl | (simp [okd, leafOk] at h)
theorem okd_items {n : Nat} {xs : List PyData} {x : PyData} (h : okd (n + 1) (.tuple xs) = true) (hx : x ∈ xs) : okd n x = true := List.all_eq_true.mp (show xs.all (okd n) = true from h) x hx
theorem okd_itemsL {n : Nat} {xs : List PyData} {x : PyData} (h : okd (n + 1) (.list xs) = true) (hx : x ∈ xs) : okd n x = true := List.all_eq_true.mp (show xs.all (okd n) = true from h) x hx
theorem v_ixT {xs : List PyData} {i : Nat} {d : PyData} (h : xs[i]? = some d) : ixS (.tuple xs) (.int (i : Int)) = some d := atI_nat h
theorem v_ixL {xs : List PyData} {i : Nat} {d : PyData} (h : xs[i]? = some d) : ixS (.list xs) (.int (i : Int)) = some d := atI_nat h
theorem v_ix0 {xs : List PyData} {d : PyData} : ixS (.tuple (d :: xs)) (.int 0) = some d := v_ixT (i := 0) rfl
theorem v_ix0L {xs : List PyData} {d : PyData} : ixS (.list (d :: xs)) (.int 0) = some d := v_ixL (i := 0) rfl
end
end Sb

set_option autoImplicit false
set_option Elab.async false
set_option linter.all false
set_option maxRecDepth 100000
set_option maxHeartbeats 4000000
/-! SbX: sorted lists of ints. -/
namespace Sb
open PySem PySem.Spec PyProof.Rows L2
theorem le_int (a b : Int) : PySem.W.dataLe false id (.int a) (.int b) = decide (a ≤ b) := by
  show (!(PyProof.Rows.lexLt PyProof.Rows.itemOrd [Sum.inl b] [Sum.inl a])) = _
  unfold PyProof.Rows.lexLt
  show (!(decide (b < a) || (!(decide (a < b)) && PyProof.Rows.lexLt PyProof.Rows.itemOrd [] []))) = _
  rw [show PyProof.Rows.lexLt PyProof.Rows.itemOrd [] [] = false from rfl]
  rw [Bool.and_false, Bool.or_false, ← decide_not]
  apply decide_eq_decide.mpr
  omega
def srt (l : List Int) : List Int := l.mergeSort fun a b => decide (a ≤ b)
theorem sortD_ints (l : List Int) : sortD (l.map PyData.int) = (srt l).map PyData.int := by
  unfold sortD srt
  exact (List.map_mergeSort fun a _ b _ => (le_int a b).symm).symm
theorem sortOk_ints (l : List Int) : sortOk (l.map PyData.int) = true := by
  unfold sortOk
  simp only [Bool.and_eq_true, Bool.or_eq_true, List.all_map, List.all_eq_true]
  refine ⟨⟨fun x _ => rfl, fun x _ => ?_⟩, .inr fun x _ => rfl⟩
  show l.all _ = true
  exact List.all_eq_true.mpr fun y _ => by simp [PySem.W.alike]
theorem v_sortT {l : List Int} : BF.sem .sorted [.tuple (l.map .int)] = some (.list ((srt l).map .int)) := by
  show sortS [.tuple (l.map .int)] = _
  unfold sortS
  simp only []
  rw [if_pos (sortOk_ints l), sortD_ints]
theorem v_sortL {l : List Int} : BF.sem .sorted [.list (l.map .int)] = some (.list ((srt l).map .int)) := by
  show sortS [.list (l.map .int)] = _
  unfold sortS
  simp only []
  rw [if_pos (sortOk_ints l), sortD_ints]
theorem srt_len (l : List Int) : (srt l).length = l.length := by unfold srt; exact List.length_mergeSort l
theorem srt_perm (l : List Int) : (srt l).Perm l := List.mergeSort_perm l _
theorem srt_pw (l : List Int) : (srt l).Pairwise (· ≤ ·) := by
  have h := List.pairwise_mergeSort (le := fun a b : Int => decide (a ≤ b)) (fun a b c h1 h2 => by simp only [decide_eq_true_eq] at *; omega) (fun a b => by simp only [Bool.or_eq_true, decide_eq_true_eq]; omega) l
  exact h.imp fun h => of_decide_eq_true h
theorem srt_mem {l : List Int} {x : Int} : x ∈ srt l ↔ x ∈ l := (srt_perm l).mem_iff
theorem srt_eq {l s : List Int} (p : s.Perm l) (h : s.Pairwise (· ≤ ·)) : srt l = s :=
  List.Perm.eq_of_pairwise (le := (· ≤ ·)) (fun a b _ _ h1 h2 => Int.le_antisymm h1 h2) (srt_pw l) h ((srt_perm l).trans p.symm)
theorem srt_of {l : List Int} (h : l.Pairwise (· ≤ ·)) : srt l = l := srt_eq (.refl l) h
end Sb

set_option Elab.async false
set_option autoImplicit false
set_option linter.all false
set_option maxRecDepth 100000
set_option maxHeartbeats 4000000
/-! SbY: small data, shown and compared. -/
namespace Sb
open PySem PySem.Spec PyProof.Rows L2
/-- at most n deep, at most c cells -/
structure Sm (n c : Nat) (d : PyData) : Prop where
  o : okd n d = true
  l : lsh d = true
  c : cells d ≤ c
theorem okd_leaf {n : Nat} {d : PyData} (h : leafOk d = true) : okd n d = true := by
  cases n with
  | zero => exact h
  | succ n => cases d <;> first | exact h | cases h
theorem Sm.int {n : Nat} {i : Int} (h : i.natAbs < 10 ^ 30) : Sm n 1 (.int i) := ⟨okd_leaf rfl, decide_eq_true h, Nat.le_refl _⟩
theorem Sm.bool {n : Nat} {b : Bool} : Sm n 1 (.bool b) := ⟨okd_leaf rfl, rfl, Nat.le_refl _⟩
theorem Sm.none {n : Nat} : Sm n 1 .none := ⟨okd_leaf rfl, rfl, Nat.le_refl _⟩
theorem Sm.mono {n c m k : Nat} {d : PyData} (h : Sm n c d) (h1 : n ≤ m) (h2 : c ≤ k) : Sm m k d := ⟨okd_mono h.o h1, h.l, Nat.le_trans h.c h2⟩
theorem cells_sum {c : Nat} : ∀ {xs : List PyData}, (∀ x ∈ xs, cells x ≤ c) → cellsA xs ≤ xs.length * c
  | [], _ => by simp [cellsA]
  | x :: xs, h => by
    rw [cellsA, List.length_cons, Nat.add_mul]
    have h1 := h x List.mem_cons_self
    have h2 := cells_sum (c := c) (xs := xs) fun y hy => h y (List.mem_cons_of_mem _ hy)
    omega
theorem Sm.tup {n c k : Nat} {xs : List PyData} (h : ∀ x ∈ xs, Sm n c x) (hk : xs.length * c + 1 ≤ k) : Sm (n + 1) k (.tuple xs) := by
  refine ⟨List.all_eq_true.mpr fun x hx => (h x hx).o, ?_, ?_⟩
  · rw [lsh, lshA_iff]; exact List.all_eq_true.mpr fun x hx => (h x hx).l
  · rw [cells]; have := cells_sum fun x hx => (h x hx).c; omega
theorem Sm.lst {n c k : Nat} {xs : List PyData} (h : ∀ x ∈ xs, Sm n c x) (hk : xs.length * c + 1 ≤ k) : Sm (n + 1) k (.list xs) := by
  refine ⟨List.all_eq_true.mpr fun x hx => (h x hx).o, ?_, ?_⟩
  · rw [lsh, lshA_iff]; exact List.all_eq_true.mpr fun x hx => (h x hx).l
  · rw [cells]; have := cells_sum fun x hx => (h x hx).c; omega
theorem v_repr {n c : Nat} {d : PyData} (h : Sm n c d) (h1 : n ≤ 40) (h2 : c ≤ 300000) : BF.sem .repr [d] = some (.str d.shown) := by
  show reprS [d] = _
  unfold reprS
  simp only []
  rw [if_pos]
  rw [okd_mono h.o h1, h.l, decide_eq_true (Nat.le_trans h.c h2)]
  rfl
theorem v_ne_str {x : Str} : CO.sem .ne (.str x) (.str x) = some (.bool false) := by
  show notS eqS (.str x) (.str x) = _
  unfold notS eqS
  rw [if_pos (by rfl)]
  simp [PyData.eqv]
section
variable {fs : List Fn} {ρ : Ev} {q : Sx} {d : PyData} {a b : IE} {n c : Nat}
theorem e_repr (h : runE fs a ρ q = some (d, ρ, q)) (s : Sm n c d) (h1 : n ≤ 40) (h2 : c ≤ 300000) : runE fs (.fn .repr (.cons a .nil)) ρ q = some (.str d.shown, ρ, q) := e_fn (l_cons h l_nil) (v_repr s h1 h2)
/-- both are shown alike -/
theorem e_alike (h : runE fs a ρ q = some (d, ρ, q)) (h' : runE fs b ρ q = some (d, ρ, q)) (s : Sm n c d) (h1 : n ≤ 40) (h2 : c ≤ 300000) : runE fs (.cmp .ne (.fn .repr (.cons a .nil)) (.fn .repr (.cons b .nil))) ρ q = some (.bool false, ρ, q) :=
  e_cmp (e_repr h s h1 h2) (e_repr h' s h1 h2) v_ne_str
end
/-! lists of ints, compared -/
theorem eqvA_ints : ∀ {a b : List Int}, PyData.eqvAll (a.map .int) (b.map .int) = decide (a = b)
  | [], [] => by simp [PyData.eqvAll]
  | [], _ :: _ => by simp [PyData.eqvAll]
  | _ :: _, [] => by simp [PyData.eqvAll]
  | x :: a, y :: b => by
    rw [List.map_cons, List.map_cons, PyData.eqvAll, eqvA_ints]
    have e : PyData.eqv (.int x) (.int y) = decide (x = y) := by simp [PyData.eqv, Bool.beq_eq_decide_eq]
    rw [e]
    by_cases h1 : x = y
    · by_cases h2 : a = b
      · simp [h1, h2]
      · simp [h1, h2]
    · simp [h1]
theorem okd_ints {n : Nat} {l : List Int} : okd (n + 1) (.list (l.map .int)) = true := List.all_eq_true.mpr fun x hx => by
  obtain ⟨i, _, rfl⟩ := List.mem_map.mp hx
  exact okd_leaf rfl
theorem okd_intsT {n : Nat} {l : List Int} : okd (n + 1) (.tuple (l.map .int)) = true := List.all_eq_true.mpr fun x hx => by
  obtain ⟨i, _, rfl⟩ := List.mem_map.mp hx
  exact okd_leaf rfl
theorem v_eqL {a b : List Int} : CO.sem .eq (.list (a.map .int)) (.list (b.map .int)) = some (.bool (decide (a = b))) := by
  rw [v_eq okd_ints okd_ints]
  rw [PyData.eqv, eqvA_ints]
theorem v_neL {a b : List Int} : CO.sem .ne (.list (a.map .int)) (.list (b.map .int)) = some (.bool (!decide (a = b))) := by
  rw [v_ne okd_ints okd_ints]
  rw [PyData.eqv, eqvA_ints]
theorem v_eqT {a b : List Int} : CO.sem .eq (.tuple (a.map .int)) (.tuple (b.map .int)) = some (.bool (decide (a = b))) := by
  rw [v_eq okd_intsT okd_intsT]
  rw [PyData.eqv, eqvA_ints]
theorem v_neT {a b : List Int} : CO.sem .ne (.tuple (a.map .int)) (.tuple (b.map .int)) = some (.bool (!decide (a = b))) := by
  rw [v_ne okd_intsT okd_intsT]
  rw [PyData.eqv, eqvA_ints]
/-- .. == [] -/
theorem v_eq_nil {xs : List PyData} (h : ∀ x ∈ xs, okd 39 x = true) : CO.sem .eq (.list xs) (.list []) = some (.bool xs.isEmpty) := by
  rw [v_eq (show okd 40 (.list xs) = true from List.all_eq_true.mpr h) rfl]
  cases xs <;> simp [PyData.eqv, PyData.eqvAll]
theorem v_lenT {xs : List PyData} : BF.sem .len [.tuple xs] = some (.int ((xs.length : Nat) : Int)) := rfl
theorem v_lenL {xs : List PyData} : BF.sem .len [.list xs] = some (.int ((xs.length : Nat) : Int)) := rfl
theorem e_ntT {fs : List Fn} {ρ ρ1 : Ev} {q q1 : Sx} {a : IE} (h : runE fs a ρ q = some (.bool true, ρ1, q1)) : runE fs (.nt a) ρ q = some (.bool false, ρ1, q1) := e_nt h
theorem e_ntF {fs : List Fn} {ρ ρ1 : Ev} {q q1 : Sx} {a : IE} (h : runE fs a ρ q = some (.bool false, ρ1, q1)) : runE fs (.nt a) ρ q = some (.bool true, ρ1, q1) := e_nt h
theorem e_callF {fs : List Fn} {ρ ρ1 : Ev} {q q1 q2 : Sx} {i : Nat} {es : IEs} {xs : List PyData} {d : PyData} {F : Fn} (hf : fs.getD i (fun _ _ => none) = F) (h1 : runEs fs es ρ q = some (xs, ρ1, q1)) (h2 : F xs q1 = some (d, q2)) : runE fs (.call i es) ρ q = some (d, ρ1, q2) :=
  e_call h1 (by rw [hf]; exact h2)
end Sb

set_option Elab.async false
set_option autoImplicit false
set_option linter.all false
set_option maxRecDepth 100000
set_option maxHeartbeats 4000000
namespace Sb
open PySem PySem.Spec PyProof.Rows L2
def topS (i : Nat) : Stmt := PySem.Challenge.pw_sortedbynets_k66_snakes_and_phases.main.body.getD i (.Pass ⟨0, 0, 0, 0⟩)

def bnL : List Str := ["abs", "all", "bool", "enumerate", "int", "isinstance", "len", "list", "range", "repr", "sorted", "tuple"]
/-! ### is_plain_row -/
abbrev s_is_plain_row : Stmt := topS 1
abbrev fns_0 : List (Str × Nat) := []
noncomputable abbrev fs_0 : List Fn := []
def ir_is_plain_row : ISs := (.cons (.iff (.or (.nt (.isa "tuple" (.var 0))) (.one (.cmp .eq (.var 0) (.tup .nil)))) (.cons (.ret (.cst (.bool false))) .nil) .nil) (.cons (.ret (.fn .all (.cons (.comp [("x", 1)] (.nm 1) (.seq (.var 0)) .none (.an (.isa "int" (.var 1)) (.one (.nt (.isa "bool" (.var 1)))))) .nil))) .nil))
abbrev C_is_plain_row : CC := ⟨["value", "x"], fns_0, bnL⟩
theorem chk_is_plain_row : chkD C_is_plain_row ["value"] ir_is_plain_row s_is_plain_row = true := by decide +kernel
noncomputable def F_is_plain_row : Fn := fnR 2 (runSs fs_0 ir_is_plain_row)
abbrev fns_1 : List (Str × Nat) := fns_0 ++ [(("is_plain_row" : Str), 1)]
noncomputable abbrev fs_1 : List Fn := fs_0 ++ [F_is_plain_row]
/-! ### is_board -/
abbrev s_is_board : Stmt := topS 2
def ir_is_board : ISs := (.cons (.iff (.or (.nt (.isa "tuple" (.var 0))) (.or (.cmp .eq (.var 0) (.tup .nil)) (.one (.nt (.fn .all (.cons (.comp [("line", 1)] (.nm 1) (.seq (.var 0)) .none (.call 0 (.cons (.var 1) .nil))) .nil)))))) (.cons (.ret (.cst (.bool false))) .nil) .nil) (.cons (.ret (.fn .all (.cons (.comp [("line", 1)] (.nm 1) (.seq (.var 0)) .none (.cmp .eq (.fn .len (.cons (.var 1) .nil)) (.fn .len (.cons (.ix (.var 0) (.cst (.int 0))) .nil)))) .nil))) .nil))
abbrev C_is_board : CC := ⟨["value", "line"], fns_1, bnL⟩
theorem chk_is_board : chkD C_is_board ["value"] ir_is_board s_is_board = true := by decide +kernel
noncomputable def F_is_board : Fn := fnR 2 (runSs fs_1 ir_is_board)
abbrev fns_2 : List (Str × Nat) := fns_1 ++ [(("is_board" : Str), 1)]
noncomputable abbrev fs_2 : List Fn := fs_1 ++ [F_is_board]
/-! ### snake_number -/
abbrev s_snake_number : Stmt := topS 3
def ir_snake_number : ISs := (.cons (.ret (.ite (.cmp .eq (.bin .mod (.var 2) (.cst (.int 2))) (.cst (.int 0))) (.bin .add (.bin .mul (.var 2) (.var 1)) (.var 3)) (.bin .sub (.bin .sub (.bin .add (.bin .mul (.var 2) (.var 1)) (.var 1)) (.cst (.int 1))) (.var 3)))) .nil)
abbrev C_snake_number : CC := ⟨["m", "n", "r", "c"], fns_2, bnL⟩
theorem chk_snake_number : chkD C_snake_number ["m", "n", "r", "c"] ir_snake_number s_snake_number = true := by decide +kernel
noncomputable def F_snake_number : Fn := fnR 4 (runSs fs_2 ir_snake_number)
abbrev fns_3 : List (Str × Nat) := fns_2 ++ [(("snake_number" : Str), 4)]
noncomputable abbrev fs_3 : List Fn := fs_2 ++ [F_snake_number]
/-! ### snake_place -/
abbrev s_snake_place : Stmt := topS 4
def ir_snake_place : ISs := (.cons (.par [3, 4] [.v (.bin .div (.var 2) (.var 1)), .v (.bin .mod (.var 2) (.var 1))]) (.cons (.ret (.tup (.cons (.var 3) (.cons (.ite (.cmp .eq (.bin .mod (.var 3) (.cst (.int 2))) (.cst (.int 0))) (.var 4) (.bin .sub (.bin .sub (.var 1) (.cst (.int 1))) (.var 4))) .nil)))) .nil))
abbrev C_snake_place : CC := ⟨["m", "n", "k", "r", "c"], fns_3, bnL⟩
theorem chk_snake_place : chkD C_snake_place ["m", "n", "k"] ir_snake_place s_snake_place = true := by decide +kernel
noncomputable def F_snake_place : Fn := fnR 5 (runSs fs_3 ir_snake_place)
abbrev fns_4 : List (Str × Nat) := fns_3 ++ [(("snake_place" : Str), 3)]
noncomputable abbrev fs_4 : List Fn := fs_3 ++ [F_snake_place]
/-! ### snake_row -/
abbrev s_snake_row : Stmt := topS 5
def ir_snake_row : ISs := (.cons (.set (.nm 1) (.lst .nil)) (.cons (.for_ (.tp (.cons (.nm 2) (.cons (.nm 3) .nil))) (.enum (.var 0)) (.cons (.set (.nm 1) (.bin .add (.var 1) (.fn .list (.cons (.ite (.cmp .eq (.bin .mod (.var 2) (.cst (.int 2))) (.cst (.int 0))) (.var 3) (.rv (.var 3))) .nil)))) .nil)) (.cons (.ret (.fn .tuple (.cons (.var 1) .nil))) .nil)))
abbrev C_snake_row : CC := ⟨["board", "found", "r", "line"], fns_4, bnL⟩
theorem chk_snake_row : chkD C_snake_row ["board"] ir_snake_row s_snake_row = true := by decide +kernel
noncomputable def F_snake_row : Fn := fnR 4 (runSs fs_4 ir_snake_row)
abbrev fns_5 : List (Str × Nat) := fns_4 ++ [(("snake_row" : Str), 1)]
noncomputable abbrev fs_5 : List Fn := fs_4 ++ [F_snake_row]
/-! ### board_of_snake -/
abbrev s_board_of_snake : Stmt := topS 6
def ir_board_of_snake : ISs := (.cons (.lc false 3 [("r", 4)] (.nm 4) (.rg .none (.var 0)) .none (.sl (.var 2) (.some (.bin .mul (.var 4) (.var 1))) (.some (.bin .add (.bin .mul (.var 4) (.var 1)) (.var 1))))) (.cons (.ret (.fn .tuple (.cons (.comp [("r", 4), ("line", 5)] (.tp (.cons (.nm 4) (.cons (.nm 5) .nil))) (.enum (.var 3)) .none (.ite (.cmp .eq (.bin .mod (.var 4) (.cst (.int 2))) (.cst (.int 0))) (.var 5) (.rv (.var 5)))) .nil))) .nil))
abbrev C_board_of_snake : CC := ⟨["m", "n", "row", "lines", "r", "line"], fns_5, bnL⟩
theorem chk_board_of_snake : chkD C_board_of_snake ["m", "n", "row"] ir_board_of_snake s_board_of_snake = true := by decide +kernel
noncomputable def F_board_of_snake : Fn := fnR 6 (runSs fs_5 ir_board_of_snake)
abbrev fns_6 : List (Str × Nat) := fns_5 ++ [(("board_of_snake" : Str), 3)]
noncomputable abbrev fs_6 : List Fn := fs_5 ++ [F_board_of_snake]
/-! ### is_snake_sorted -/
abbrev s_is_snake_sorted : Stmt := topS 7
def ir_is_snake_sorted : ISs := (.cons (.set (.nm 1) (.call 4 (.cons (.var 0) .nil))) (.cons (.ret (.fn .all (.cons (.comp [("k", 2)] (.nm 2) (.rg (.some (.cst (.int 1))) (.fn .len (.cons (.var 1) .nil))) .none (.cmp .le (.ix (.var 1) (.bin .sub (.var 2) (.cst (.int 1)))) (.ix (.var 1) (.var 2)))) .nil))) .nil))
abbrev C_is_snake_sorted : CC := ⟨["board", "row", "k"], fns_6, bnL⟩
theorem chk_is_snake_sorted : chkD C_is_snake_sorted ["board"] ir_is_snake_sorted s_is_snake_sorted = true := by decide +kernel
noncomputable def F_is_snake_sorted : Fn := fnR 3 (runSs fs_6 ir_is_snake_sorted)
abbrev fns_7 : List (Str × Nat) := fns_6 ++ [(("is_snake_sorted" : Str), 1)]
noncomputable abbrev fs_7 : List Fn := fs_6 ++ [F_is_snake_sorted]
/-! ### row_phase -/
abbrev s_row_phase : Stmt := topS 9
def ir_row_phase : ISs := (.cons (.own 1 (.lst .nil)) (.cons (.for_ (.tp (.cons (.nm 2) (.cons (.nm 3) .nil))) (.enum (.var 0)) (.cons (.set (.nm 4) (.fn .sorted (.cons (.var 3) .nil))) (.cons (.app 1 (.fn .tuple (.cons (.ite (.cmp .eq (.bin .mod (.var 2) (.cst (.int 2))) (.cst (.int 0))) (.var 4) (.rv (.var 4))) .nil))) .nil))) (.cons (.ret (.fn .tuple (.cons (.var 1) .nil))) .nil)))
abbrev C_row_phase : CC := ⟨["board", "found", "r", "line", "late"], fns_7, bnL⟩
theorem chk_row_phase : chkD C_row_phase ["board"] ir_row_phase s_row_phase = true := by decide +kernel
noncomputable def F_row_phase : Fn := fnR 5 (runSs fs_7 ir_row_phase)
abbrev fns_8 : List (Str × Nat) := fns_7 ++ [(("row_phase" : Str), 1)]
noncomputable abbrev fs_8 : List Fn := fs_7 ++ [F_row_phase]
/-! ### columns_of -/
abbrev s_columns_of : Stmt := topS 10
def ir_columns_of : ISs := (.cons (.ret (.comp [("c", 1)] (.nm 1) (.rg .none (.fn .len (.cons (.ix (.var 0) (.cst (.int 0))) .nil))) .none (.comp [("line", 2)] (.nm 2) (.seq (.var 0)) .none (.ix (.var 2) (.var 1))))) .nil)
abbrev C_columns_of : CC := ⟨["board", "c", "line"], fns_8, bnL⟩
theorem chk_columns_of : chkD C_columns_of ["board"] ir_columns_of s_columns_of = true := by decide +kernel
noncomputable def F_columns_of : Fn := fnR 3 (runSs fs_8 ir_columns_of)
abbrev fns_9 : List (Str × Nat) := fns_8 ++ [(("columns_of" : Str), 1)]
noncomputable abbrev fs_9 : List Fn := fs_8 ++ [F_columns_of]
/-! ### column_phase -/
abbrev s_column_phase : Stmt := topS 11
def ir_column_phase : ISs := (.cons (.set (.nm 1) (.comp [("column", 2)] (.nm 2) (.seq (.call 8 (.cons (.var 0) .nil))) .none (.fn .sorted (.cons (.var 2) .nil)))) (.cons (.ret (.fn .tuple (.cons (.comp [("r", 3)] (.nm 3) (.rg .none (.fn .len (.cons (.var 0) .nil))) .none (.fn .tuple (.cons (.comp [("line", 4)] (.nm 4) (.seq (.var 1)) .none (.ix (.var 4) (.var 3))) .nil))) .nil))) .nil))
abbrev C_column_phase : CC := ⟨["board", "lines", "column", "r", "line"], fns_9, bnL⟩
theorem chk_column_phase : chkD C_column_phase ["board"] ir_column_phase s_column_phase = true := by decide +kernel
noncomputable def F_column_phase : Fn := fnR 5 (runSs fs_9 ir_column_phase)
abbrev fns_10 : List (Str × Nat) := fns_9 ++ [(("column_phase" : Str), 1)]
noncomputable abbrev fs_10 : List Fn := fs_9 ++ [F_column_phase]
/-! ### rows_up -/
abbrev s_rows_up : Stmt := topS 12
def ir_rows_up : ISs := (.cons (.ret (.fn .tuple (.cons (.comp [("line", 1)] (.nm 1) (.seq (.var 0)) .none (.fn .tuple (.cons (.fn .sorted (.cons (.var 1) .nil)) .nil))) .nil))) .nil)
abbrev C_rows_up : CC := ⟨["board", "line"], fns_10, bnL⟩
theorem chk_rows_up : chkD C_rows_up ["board"] ir_rows_up s_rows_up = true := by decide +kernel
noncomputable def F_rows_up : Fn := fnR 2 (runSs fs_10 ir_rows_up)
abbrev fns_11 : List (Str × Nat) := fns_10 ++ [(("rows_up" : Str), 1)]
noncomputable abbrev fs_11 : List Fn := fs_10 ++ [F_rows_up]
/-! ### is_up -/
abbrev s_is_up : Stmt := topS 13
def ir_is_up : ISs := (.cons (.ret (.fn .all (.cons (.comp [("k", 1)] (.nm 1) (.rg (.some (.cst (.int 1))) (.fn .len (.cons (.var 0) .nil))) .none (.cmp .le (.ix (.var 0) (.bin .sub (.var 1) (.cst (.int 1)))) (.ix (.var 0) (.var 1)))) .nil))) .nil)
abbrev C_is_up : CC := ⟨["line", "k"], fns_11, bnL⟩
theorem chk_is_up : chkD C_is_up ["line"] ir_is_up s_is_up = true := by decide +kernel
noncomputable def F_is_up : Fn := fnR 2 (runSs fs_11 ir_is_up)
abbrev fns_12 : List (Str × Nat) := fns_11 ++ [(("is_up" : Str), 1)]
noncomputable abbrev fs_12 : List Fn := fs_11 ++ [F_is_up]
/-! ### is_sorted_both -/
abbrev s_is_sorted_both : Stmt := topS 14
def ir_is_sorted_both : ISs := (.cons (.ret (.an (.fn .all (.cons (.comp [("line", 1)] (.nm 1) (.seq (.var 0)) .none (.call 11 (.cons (.var 1) .nil))) .nil)) (.one (.fn .all (.cons (.comp [("column", 2)] (.nm 2) (.seq (.call 8 (.cons (.var 0) .nil))) .none (.call 11 (.cons (.var 2) .nil))) .nil))))) .nil)
abbrev C_is_sorted_both : CC := ⟨["board", "line", "column"], fns_12, bnL⟩
theorem chk_is_sorted_both : chkD C_is_sorted_both ["board"] ir_is_sorted_both s_is_sorted_both = true := by decide +kernel
noncomputable def F_is_sorted_both : Fn := fnR 3 (runSs fs_12 ir_is_sorted_both)
abbrev fns_13 : List (Str × Nat) := fns_12 ++ [(("is_sorted_both" : Str), 1)]
noncomputable abbrev fs_13 : List Fn := fs_12 ++ [F_is_sorted_both]
/-! ### _law_open_cells -/
abbrev s_z_open_cells : Stmt := topS 16
noncomputable abbrev F_z_open_cells : Fn := openF
abbrev fns_14 : List (Str × Nat) := fns_13 ++ [(("_law_open_cells" : Str), 1)]
noncomputable abbrev fs_14 : List Fn := fs_13 ++ [F_z_open_cells]
/-! ### _law_pick -/
abbrev s_z_pick : Stmt := topS 17
noncomputable abbrev F_z_pick : Fn := pickF
abbrev fns_15 : List (Str × Nat) := fns_14 ++ [(("_law_pick" : Str), 2)]
noncomputable abbrev fs_15 : List Fn := fs_14 ++ [F_z_pick]
/-! ### _law_board -/
abbrev s_z_board : Stmt := topS 18
def ir_z_board : ISs := (.cons (.par [5, 6, 7] [.v (.bin .add (.cst (.int 1)) (.call 14 (.cons (.var 0) (.cons (.var 1) .nil)))), .v (.bin .add (.cst (.int 1)) (.call 14 (.cons (.var 0) (.cons (.var 2) .nil)))), .v (.call 14 (.cons (.var 0) (.cons (.cst (.int 4)) .nil)))]) (.cons (.set (.nm 3) (.ite (.cmp .gt (.var 7) (.cst (.int 1))) (.ix (.lst (.cons (.cst (.int 2)) (.cons (.cst (.int 4)) (.cons (.cst (.int 10)) (.cons (.cst (.int 2000)) .nil))))) (.call 14 (.cons (.var 0) (.cons (.cst (.int 4)) .nil)))) (.cst (.int 2)))) (.cons (.lc false 4 [("r", 8)] (.nm 8) (.rg .none (.var 5)) .none (.fn .tuple (.cons (.comp [("c", 9)] (.nm 9) (.rg .none (.var 6)) .none (.bin .sub (.call 14 (.cons (.var 0) (.cons (.var 3) .nil))) (.ite (.cmp .gt (.var 3) (.cst (.int 2))) (.bin .div (.var 3) (.cst (.int 2))) (.cst (.int 0))))) .nil))) (.cons (.iff (.cmp .eq (.var 7) (.cst (.int 1))) (.cons (.lc false 4 [("r", 8)] (.nm 8) (.rg .none (.var 5)) .none (.bin .add (.bin .mul (.tup (.cons (.cst (.int 0)) .nil)) (.bin .sub (.var 6) (.cst (.int 1)))) (.tup (.cons (.cst (.int 1)) .nil)))) .nil) .nil) (.cons (.ret (.fn .tuple (.cons (.var 4) .nil))) .nil)))))
abbrev C_z_board : CC := ⟨["source", "most", "wide", "many", "lines", "m", "n", "road", "r", "c"], fns_15, bnL⟩
theorem chk_z_board : chkD C_z_board ["source", "most", "wide"] ir_z_board s_z_board = true := by decide +kernel
noncomputable def F_z_board : Fn := fnR 10 (runSs fs_15 ir_z_board)
abbrev fns_16 : List (Str × Nat) := fns_15 ++ [(("_law_board" : Str), 3)]
noncomputable abbrev fs_16 : List Fn := fs_15 ++ [F_z_board]
/-! ### _law_snake -/
abbrev s_z_snake : Stmt := topS 19
def ir_z_snake : ISs := (.cons (.set (.nm 1) (.lst .nil)) (.cons (.for_ (.tp (.cons (.nm 2) (.cons (.nm 3) .nil))) (.enum (.var 0)) (.cons (.set (.nm 1) (.bin .add (.var 1) (.fn .list (.cons (.ite (.cmp .eq (.bin .mod (.fn .int (.cons (.var 2) .nil)) (.cst (.int 2))) (.cst (.int 0))) (.var 3) (.rv (.var 3))) .nil)))) .nil)) (.cons (.ret (.var 1)) .nil)))
abbrev C_z_snake : CC := ⟨["board", "found", "r", "line"], fns_16, bnL⟩
theorem chk_z_snake : chkD C_z_snake ["board"] ir_z_snake s_z_snake = true := by decide +kernel
noncomputable def F_z_snake : Fn := fnR 4 (runSs fs_16 ir_z_snake)
abbrev fns_17 : List (Str × Nat) := fns_16 ++ [(("_law_snake" : Str), 1)]
noncomputable abbrev fs_17 : List Fn := fs_16 ++ [F_z_snake]
/-! ### _law_rows -/
abbrev s_z_rows : Stmt := topS 20
def ir_z_rows : ISs := (.cons (.own 1 (.lst .nil)) (.cons (.for_ (.tp (.cons (.nm 2) (.cons (.nm 3) .nil))) (.enum (.var 0)) (.cons (.set (.nm 4) (.fn .sorted (.cons (.var 3) .nil))) (.cons (.app 1 (.fn .tuple (.cons (.ite (.cmp .eq (.bin .mod (.fn .int (.cons (.var 2) .nil)) (.cst (.int 2))) (.cst (.int 0))) (.var 4) (.rv (.var 4))) .nil))) .nil))) (.cons (.ret (.fn .tuple (.cons (.var 1) .nil))) .nil)))
abbrev C_z_rows : CC := ⟨["board", "found", "r", "line", "late"], fns_17, bnL⟩
theorem chk_z_rows : chkD C_z_rows ["board"] ir_z_rows s_z_rows = true := by decide +kernel
noncomputable def F_z_rows : Fn := fnR 5 (runSs fs_17 ir_z_rows)
abbrev fns_18 : List (Str × Nat) := fns_17 ++ [(("_law_rows" : Str), 1)]
noncomputable abbrev fs_18 : List Fn := fs_17 ++ [F_z_rows]
/-! ### _law_columns -/
abbrev s_z_columns : Stmt := topS 21
def ir_z_columns : ISs := (.cons (.set (.nm 1) (.comp [("c", 2)] (.nm 2) (.rg .none (.fn .len (.cons (.ix (.var 0) (.cst (.int 0))) .nil))) .none (.fn .sorted (.cons (.comp [("line", 4)] (.nm 4) (.seq (.var 0)) .none (.ix (.var 4) (.var 2))) .nil)))) (.cons (.ret (.fn .tuple (.cons (.comp [("r", 3)] (.nm 3) (.rg .none (.fn .len (.cons (.var 0) .nil))) .none (.fn .tuple (.cons (.comp [("column", 5)] (.nm 5) (.seq (.var 1)) .none (.ix (.var 5) (.var 3))) .nil))) .nil))) .nil))
abbrev C_z_columns : CC := ⟨["board", "late", "c", "r", "line", "column"], fns_18, bnL⟩
theorem chk_z_columns : chkD C_z_columns ["board"] ir_z_columns s_z_columns = true := by decide +kernel
noncomputable def F_z_columns : Fn := fnR 6 (runSs fs_18 ir_z_columns)
abbrev fns_19 : List (Str × Nat) := fns_18 ++ [(("_law_columns" : Str), 1)]
noncomputable abbrev fs_19 : List Fn := fs_18 ++ [F_z_columns]
/-! ### _law_sheared -/
abbrev s_z_sheared : Stmt := topS 22
def ir_z_sheared : ISs := (.cons (.for_ (.nm 2) (.rg .none (.var 1)) (.cons (.set (.nm 0) (.call 18 (.cons (.call 17 (.cons (.var 0) .nil)) .nil))) .nil)) (.cons (.ret (.call 17 (.cons (.var 0) .nil))) .nil))
abbrev C_z_sheared : CC := ⟨["board", "k", "lap"], fns_19, bnL⟩
theorem chk_z_sheared : chkD C_z_sheared ["board", "k"] ir_z_sheared s_z_sheared = true := by decide +kernel
noncomputable def F_z_sheared : Fn := fnR 3 (runSs fs_19 ir_z_sheared)
abbrev fns_20 : List (Str × Nat) := fns_19 ++ [(("_law_sheared" : Str), 2)]
noncomputable abbrev fs_20 : List Fn := fs_19 ++ [F_z_sheared]
/-! ### law -/
abbrev s_law : Stmt := topS 23
def ir_law : ISs := (.cons (.set (.nm 1) (.call 13 (.cons (.var 0) .nil))) (.cons (.for_ (.nm 2) (.rg .none (.cst (.int 5))) (.cons (.set (.nm 3) (.call 15 (.cons (.var 1) (.cons (.ix (.lst (.cons (.cst (.int 2)) (.cons (.cst (.int 3)) (.cons (.cst (.int 4)) (.cons (.cst (.int 6)) (.cons (.cst (.int 8)) .nil)))))) (.var 2)) (.cons (.ix (.lst (.cons (.cst (.int 2)) (.cons (.cst (.int 3)) (.cons (.cst (.int 4)) (.cons (.cst (.int 6)) (.cons (.cst (.int 8)) .nil)))))) (.var 2)) .nil))))) (.cons (.par [9, 10, 11, 12] [.v (.fn .len (.cons (.var 3) .nil)), .v (.fn .len (.cons (.ix (.var 3) (.cst (.int 0))) .nil)), .v (.fn .repr (.cons (.var 3) .nil)), .v (.fn .tuple (.cons (.call 16 (.cons (.var 3) .nil)) .nil))]) (.cons (.iff (.or (.cmp .ne (.fn .repr (.cons (.call 4 (.cons (.var 3) .nil)) .nil)) (.fn .repr (.cons (.var 12) .nil))) (.one (.cmp .ne (.fn .repr (.cons (.call 5 (.cons (.var 9) (.cons (.var 10) (.cons (.var 12) .nil)))) .nil)) (.var 11)))) (.cons (.ret (.cst (.bool false))) .nil) .nil) (.cons (.par [13, 14] [.v (.call 14 (.cons (.var 1) (.cons (.var 9) .nil))), .v (.call 14 (.cons (.var 1) (.cons (.var 10) .nil)))]) (.cons (.set (.nm 4) (.bin .add (.bin .mul (.var 13) (.var 10)) (.ite (.cmp .eq (.bin .mod (.fn .int (.cons (.var 13) .nil)) (.cst (.int 2))) (.cst (.int 0))) (.var 14) (.bin .sub (.bin .sub (.var 10) (.cst (.int 1))) (.var 14))))) (.cons (.iff (.or (.cmp .ne (.fn .repr (.cons (.lst (.cons (.call 2 (.cons (.var 9) (.cons (.var 10) (.cons (.var 13) (.cons (.var 14) .nil))))) (.cons (.call 3 (.cons (.var 9) (.cons (.var 10) (.cons (.var 4) .nil)))) .nil))) .nil)) (.fn .repr (.cons (.lst (.cons (.var 4) (.cons (.tup (.cons (.var 13) (.cons (.var 14) .nil))) .nil))) .nil))) (.one (.cmp .ne (.ix (.var 12) (.var 4)) (.ix (.ix (.var 3) (.var 13)) (.var 14))))) (.cons (.ret (.cst (.bool false))) .nil) .nil) (.cons (.for_ (.nm 5) (.seq (.tup (.cons (.var 3) (.cons (.call 17 (.cons (.var 3) .nil)) (.cons (.call 19 (.cons (.var 3) (.cons (.cst (.int 4)) .nil))) (.cons (.fn .tuple (.cons (.comp [("line", 17)] (.nm 17) (.seq (.var 3)) .none (.fn .tuple (.cons (.fn .sorted (.cons (.var 17) .nil)) .nil))) .nil)) .nil)))))) (.cons (.set (.nm 15) (.cmp .eq (.call 16 (.cons (.var 5) .nil)) (.fn .sorted (.cons (.call 16 (.cons (.var 5) .nil)) .nil)))) (.cons (.iff (.cmp .ne (.fn .repr (.cons (.call 6 (.cons (.var 5) .nil)) .nil)) (.fn .repr (.cons (.var 15) .nil))) (.cons (.ret (.cst (.bool false))) .nil) .nil) (.cons (.set (.nm 16) (.bin .add (.comp [("line", 17)] (.nm 17) (.seq (.var 5)) .none (.fn .list (.cons (.var 17) .nil))) (.comp [("x", 18)] (.nm 18) (.rg .none (.var 10)) .none (.comp [("line", 17)] (.nm 17) (.seq (.var 5)) .none (.ix (.var 17) (.var 18)))))) (.cons (.iff (.cmp .ne (.fn .repr (.cons (.call 12 (.cons (.var 5) .nil)) .nil)) (.fn .repr (.cons (.cmp .eq (.comp [("line", 17)] (.nm 17) (.seq (.var 16)) (.some (.cmp .ne (.var 17) (.fn .sorted (.cons (.var 17) .nil)))) (.var 17)) (.lst .nil)) .nil))) (.cons (.ret (.cst (.bool false))) .nil) .nil) .nil))))) (.cons (.iff (.cmp .ne (.fn .repr (.cons (.lst (.cons (.call 7 (.cons (.var 3) .nil)) (.cons (.call 9 (.cons (.var 3) .nil)) .nil))) .nil)) (.fn .repr (.cons (.lst (.cons (.call 17 (.cons (.var 3) .nil)) (.cons (.call 18 (.cons (.var 3) .nil)) .nil))) .nil))) (.cons (.ret (.cst (.bool false))) .nil) .nil) (.cons (.set (.nm 6) (.fn .tuple (.cons (.comp [("line", 17)] (.nm 17) (.seq (.var 3)) .none (.fn .tuple (.cons (.fn .sorted (.cons (.var 17) .nil)) .nil))) .nil))) (.cons (.iff (.or (.cmp .ne (.fn .repr (.cons (.call 10 (.cons (.var 3) .nil)) .nil)) (.fn .repr (.cons (.var 6) .nil))) (.one (.cmp .isn (.call 12 (.cons (.call 10 (.cons (.call 9 (.cons (.var 3) .nil)) .nil)) .nil)) (.cst (.bool true))))) (.cons (.ret (.cst (.bool false))) .nil) .nil) (.cons (.set (.nm 7) (.ix (.lst (.cons (.cst .none) (.cons (.tup .nil) (.cons (.tup (.cons (.tup .nil) .nil)) (.cons (.lst (.cons (.tup (.cons (.cst (.int 1)) .nil)) .nil)) (.cons (.tup (.cons (.tup (.cons (.cst (.int 1)) .nil)) (.cons (.tup (.cons (.cst (.int 1)) (.cons (.cst (.int 2)) .nil))) .nil))) (.cons (.tup (.cons (.tup (.cons (.cst (.bool true)) .nil)) .nil)) (.cons (.tup (.cons (.tup (.cons (.cst .none) .nil)) .nil)) (.cons (.cst (.int 0)) (.cons (.cst (.str ("1" : String))) (.cons (.tup (.cons (.lst (.cons (.cst (.int 1)) .nil)) .nil)) .nil))))))))))) (.call 14 (.cons (.var 1) (.cons (.cst (.int 10)) .nil))))) (.cons (.for_ (.nm 8) (.seq (.tup (.cons (.var 3) (.cons (.fn .list (.cons (.var 3) .nil)) (.cons (.var 7) (.cons (.bin .add (.var 3) (.tup (.cons (.bin .mul (.tup (.cons (.cst (.int 1)) .nil)) (.var 10)) .nil))) (.cons (.bin .add (.var 3) (.tup (.cons (.bin .mul (.tup (.cons (.cst (.int 1)) .nil)) (.bin .add (.var 10) (.cst (.int 1)))) .nil))) (.cons (.ix (.var 3) (.cst (.int 0))) .nil)))))))) (.cons (.set (.nm 15) (.an (.isa "tuple" (.var 8)) (.one (.cmp .ne (.var 8) (.tup .nil))))) (.cons (.set (.nm 15) (.an (.var 15) (.one (.cmp .eq (.comp [("line", 17)] (.nm 17) (.seq (.var 8)) (.some (.or (.nt (.isa "tuple" (.var 17))) (.one (.cmp .eq (.fn .len (.cons (.var 17) .nil)) (.cst (.int 0)))))) (.var 17)) (.lst .nil))))) (.cons (.set (.nm 15) (.an (.var 15) (.one (.cmp .eq (.comp [("line", 17)] (.nm 17) (.seq (.var 8)) (.some (.cmp .ne (.fn .len (.cons (.var 17) .nil)) (.fn .len (.cons (.ix (.var 8) (.cst (.int 0))) .nil)))) (.var 17)) (.lst .nil))))) (.cons (.iff (.var 15) (.cons (.for_ (.nm 17) (.seq (.var 8)) (.cons (.set (.nm 15) (.an (.var 15) (.one (.cmp .eq (.comp [("x", 18)] (.nm 18) (.seq (.var 17)) (.some (.or (.nt (.isa "int" (.var 18))) (.one (.isa "bool" (.var 18))))) (.var 18)) (.lst .nil))))) .nil)) .nil) .nil) (.cons (.iff (.cmp .ne (.fn .repr (.cons (.call 1 (.cons (.var 8) .nil)) .nil)) (.fn .repr (.cons (.var 15) .nil))) (.cons (.ret (.cst (.bool false))) .nil) .nil) .nil)))))) (.cons (.iff (.cmp .ne (.fn .repr (.cons (.var 3) .nil)) (.var 11)) (.cons (.ret (.cst (.bool false))) .nil) .nil) .nil)))))))))))))) (.cons (.ret (.cst (.bool true))) .nil)))
abbrev C_law : CC := ⟨["script", "source", "lap", "board", "k", "one", "up", "odd", "value", "m", "n", "shown", "row", "r", "c", "due", "both", "line", "x"], fns_20, bnL⟩
theorem chk_law : chkD C_law ["script"] ir_law s_law = true := by decide +kernel
noncomputable def F_law : Fn := fnR 19 (runSs fs_20 ir_law)
abbrev fns_21 : List (Str × Nat) := fns_20 ++ [(("law" : Str), 1)]
noncomputable abbrev fs_21 : List Fn := fs_20 ++ [F_law]
end Sb

set_option Elab.async false
set_option autoImplicit false
set_option linter.all false
set_option maxRecDepth 100000
set_option maxHeartbeats 4000000
namespace Sb
open PySem PySem.Spec PyProof.Rows L2
abbrev sPick : Stmt := s_z_pick
abbrev nPick : List Str := ["source", "most", "cells", "others", "lap", "stirred"]
theorem scP : FnScope nPick ["source", "most"] (defScope sPick) := fsC_ok (by decide +kernel)
section
variable {P : Program} {w : World} {K : PySem.W.Frag} {mg : Str → Option Value} {base : Heap} {k : Nat}
def spRefill : TS := fun D σ H => ∃ (a c : Addr) (q : Sx) (most : Int), σ = [some (.ref a), some (.int most), some (.ref c), none, none, none] ∧ SrcAt H a c q ∧ ∀ H', Else a c H H' → SrcAt H' a c (refill q) → D.nx σ H'
theorem ok_pick {f : Addr} {fd : FuncData} (F : L2.Fun K "_law_pick" "_law_pick" sPick f fd) (ml : mg "len" = none) (mi : mg "int" = none) : FnOk P w K mg base CX0 (k + 1) f fd ["source", "most"] spPick := by
  refine F.ok scP (fun vs H Q E h => ?_) (fun cdv A outer s H vs Q E hr h => ?_)
  · obtain ⟨a, c, q, most, rfl, _⟩ := h
    rfl
  · obtain ⟨a, c, q, most, rfl, sa, hm, kk⟩ := h
    have hu := hu_of hr
    have nd := scP.nd
    refine ⟨_, pss_cons (ps_if (pt_cmpR op_lt (pv 1) pe_int (nomark _)) (pss_one (ps_ret pe_int)) pss_nil)
      (pss_cons (ps_set (i := 2) nd rfl (.inl rfl) (pe_dget hu (pv 0) pe_str (fun _ _ => rfl)))
      (pss_cons ((ps_while PassesOwn.never (pw_and (pt_cmpR op_lt (pe_dget hu (pv 0) pe_str (fun _ _ => rfl)) pe_int (nomark _)) (pw_and1 (pt_cmpR op_gt (pe_callB call_len_seq (by rfl) ml PySem.boot_len (pa_cons (pv 2) pa_nil)) pe_int (nomark _)))).pt
        (pss_one (ps_dput hu (pv 0) pe_str (pe_bm0 PySem.F.plainAttrs_list PySem.F.slot_list_pop PySem.F.type_list_pop mt_pop (pv 2)) rfl))).weak (t' := spRefill) (fun D σ H h => ?wh))
      (pss_cons (ps_set (i := 3) nd rfl (.inl rfl) (pe_dget hu (pv 0) pe_str (fun _ _ => rfl)))
      (pss_cons (ps_if (pt_cmpR op_gt (pv 3) pe_int (nomark _)) (pss_cons (ps_dput hu (pv 0) pe_str (pe_op op_fdiv (pv 3) (pv 1)) rfl) (pss_one (ps_ret (pe_op op_mod (pe_callTy call_int1 (by rfl) mi boot_int (pa_cons (pv 3) pa_nil)) (pv 1))))) pss_nil)
      (pss_cons (ps_dput hu (pv 0) pe_str (pe_op op_add (pe_dget hu (pv 0) pe_str (fun _ _ => rfl)) pe_int) rfl)
      (pss_cons (ps_set (i := 4) nd rfl (.inl rfl) (pe_dget hu (pv 0) pe_str (fun _ _ => rfl)))
      (pss_cons (ps_set (i := 5) nd rfl (.inl rfl) (pe_op op_mod (pe_callTy call_int1 (by rfl) mi boot_int (pa_cons (pe_op op_add (pe_dget hu (pv 0) pe_str (fun _ _ => rfl)) (pe_op op_mul (pv 4) pe_int)) pa_nil)) pe_int))
      (pss_cons (ps_set (i := 5) nd rfl (.inl rfl) (pe_op op_mod (pe_callTy call_int1 (by rfl) mi boot_int (pa_cons (pe_op op_add (pe_op op_mul (pv 5) (pv 5)) (pe_op op_mul (pv 4) pe_int)) pa_nil)) pe_int))
      (pss_one (ps_ret (pe_op op_mod (pe_callTy call_int1 (by rfl) mi boot_int (pa_cons (pe_op op_fdiv (pv 5) pe_int) pa_nil)) (pv 1)))))))))))), ?_⟩
    case wh =>
      obtain ⟨a, c, q, most, rfl, sa, kk⟩ := h
      refine ⟨fun m σ H1 => ∃ (l : Int) (cs : List Int), m = cs.length ∧ σ = [some (.ref a), some (.int most), some (.ref c), none, none, none] ∧ Else a c H H1 ∧ SrcAt H1 a c { q with left := l, cells := cs.reverse } ∧ refillR l cs = refillR q.left q.cells.reverse,
        ⟨_, q.left, q.cells.reverse, rfl, rfl, .refl, by rw [List.reverse_reverse]; exact sa, rfl⟩, ?_⟩
      rintro m σ1 H1 ⟨l, cs, rfl, rfl, el, s1, er⟩
      have out : refillR l cs = (l, cs) → SrcAt H1 a c (refill q) := fun z => by
        unfold refill
        rw [← er, z]
        exact s1
      refine ⟨_, rfl, a, _, rfl, s1.gLeft, _, _, rfl, rfl, _, rfl, ?_⟩
      by_cases hl : l < 2
      · rw [decide_eq_true hl]
        refine iteT ⟨_, rfl, c, _, rfl, .inl (SqL.of s1.l), _, _, rfl, rfl, _, rfl, ?_⟩
        cases cs with
        | nil => exact kk H1 el (out rfl)
        | cons x cs =>
          have hz : (0 : Int) < ((((x :: cs).reverse.map V.int).length : Nat) : Int) := by simp
          rw [decide_eq_true hz]
          refine iteT ⟨fun σ' H' => ∃ (l : Int), σ' = [some (.ref a), some (.int most), some (.ref c), none, none, none] ∧ Else a c H H' ∧ SrcAt H' a c { q with left := l, cells := cs.reverse } ∧ refillR l cs = refillR q.left q.cells.reverse, fun σ' H' hN => ?_, ?_⟩
          · obtain ⟨l', h1, h2, h3, h4⟩ := hN
            exact ⟨cs.length, by simp, l', cs, rfl, h1, h2, h3, h4⟩
          · have hpop : ((x :: cs).reverse.map V.int)[((x :: cs).reverse.map V.int).length - 1]? = some (V.int x) := by
              rw [List.reverse_cons, List.map_append]
              simp
            have hdr : ((x :: cs).reverse.map V.int).dropLast = cs.reverse.map V.int := by
              rw [List.reverse_cons, List.map_append]
              exact List.dropLast_concat
            have s2 : SrcAt (upd H1 c (.lst (((x :: cs).reverse.map V.int).dropLast))) a c { q with left := l, cells := cs.reverse } := by
              rw [hdr]
              exact s1.lput
            refine ⟨_, rfl, .inl ⟨rfl, _, SqL.of s1.l⟩, c, _, _, rfl, rfl, s1.l, hpop, _, rfl, a, _, rfl, s2.pLeft, x, rfl, el.c.a, s2.dput rfl, ?_⟩
            rw [← er, refillR, if_pos hl]
      · rw [decide_eq_false hl]
        refine iteF (kk H1 el (out ?_))
        cases cs with
        | nil => rfl
        | cons x cs => rw [refillR, if_neg hl]
    refine ⟨_, rfl, _, _, rfl, rfl, _, rfl, ite2 (fun e => ?_) (fun e => ?_)⟩
    · have e := of_decide_eq_true e
      have z : pickM most q = (0, q) := by unfold pickM; rw [if_pos e]
      rw [z] at kk
      exact kk H .refl sa
    · have e2 : ¬ most < 2 := fun z => e (decide_eq_true z)
      refine ⟨_, rfl, a, _, rfl, sa.gCells, ?_⟩
      refine ⟨a, c, q, most, rfl, sa, fun H1 el s1 => ?_⟩
      have hp : 0 < most := by omega
      refine ⟨_, rfl, a, _, rfl, s1.gLeft, ?_⟩
      refine ⟨_, rfl, _, _, rfl, rfl, _, rfl, ite2 (fun e => ?_) (fun e => ?_)⟩
      · have e := of_decide_eq_true e
        have z : pickM most q = ((refill q).left % most, { refill q with left := (refill q).left / most }) := by unfold pickM; rw [if_neg e2, if_pos e]
        rw [z] at kk
        refine ⟨_, rfl, _, rfl, _, _, rfl, rfl, ⟨hp, by omega⟩, _, rfl, a, _, rfl, s1.pLeft, ?_⟩
        refine ⟨_, rfl, .inl ⟨_, rfl, ?_⟩⟩
        exact ⟨_, rfl, _, _, rfl, rfl, hp, kk _ el.a (s1.dput rfl)⟩
      · have e3 : ¬ 1 < (refill q).left := fun z => e (decide_eq_true z)
        unfold pickM at kk
        rw [if_neg e2, if_neg e3] at kk
        refine ⟨_, rfl, a, _, rfl, s1.gTurn, _, _, rfl, rfl, _, rfl, a, _, rfl, s1.pTurn, ?_⟩
        have s2 := s1.dput (q' := { refill q with turn := (refill q).turn + 1 }) rfl
        refine ⟨_, rfl, a, _, rfl, s2.gTurn, ?_⟩
        refine ⟨_, rfl, a, _, rfl, s2.gMixed, _, rfl, _, _, rfl, rfl, ?_, _, _, rfl, rfl, .inl ⟨_, rfl, _, _, rfl, rfl, by show (0 : Int) < 998244353; decide, ?_⟩⟩
        · exact .inr ⟨by decide, by decide⟩
        · have h0 := Int.emod_nonneg ((refill q).mixed + ((refill q).turn + 1) * 104729) (show (998244353 : Int) ≠ 0 by decide)
          have h1 := Int.emod_lt_of_pos ((refill q).mixed + ((refill q).turn + 1) * 104729) (show (0 : Int) < 998244353 by decide)
          refine ⟨_, rfl, _, rfl, _, _, rfl, rfl, ?_, _, rfl, _, _, rfl, rfl, ?_, _, _, rfl, rfl, .inl ⟨_, rfl, _, _, rfl, rfl, by show (0 : Int) < 2147483647; decide, ?_⟩⟩
          · refine .inl ⟨?_, ?_⟩
            · show -(2 ^ 64 : Int) < ((refill q).mixed + ((refill q).turn + 1) * 104729) % 998244353
              omega
            · show ((refill q).mixed + ((refill q).turn + 1) * 104729) % 998244353 < (2 ^ 64 : Int)
              omega
          · exact .inr ⟨by decide, by decide⟩
          · refine ⟨_, rfl, _, _, rfl, rfl, ?_, .inl ⟨_, rfl, _, rfl, _, _, rfl, rfl, hp, ?_⟩⟩
            · exact ⟨by decide, by decide⟩
            · exact kk _ el.a s2
abbrev sOpen : Stmt := s_z_open_cells
abbrev nOpen : List Str := ["script", "stirred", "cell", "cells"]
theorem scO : FnScope nOpen ["script"] (defScope sOpen) := fsC_ok (by decide +kernel)
theorem ok_open {f : Addr} {fd : FuncData} (F : L2.Fun K "_law_open_cells" "_law_open_cells" sOpen f fd) (ma : mg "abs" = none) (mi : mg "int" = none) : FnOk P w K mg base CX0 (k + 1) f fd ["script"] (spOpen K) := by
  refine F.ok scO (fun vs H Q E h => ?_) (fun cdv A outer s H vs Q E hr h => ?_)
  · obtain ⟨a, ns, rfl, _⟩ := h
    rfl
  · obtain ⟨a, ns, rfl, hS, hl, kk⟩ := h
    have nd := scO.nd
    refine ⟨_, pss_cons (ps_set (i := 1) nd rfl (.inl rfl) pe_int)
      (pss_cons (ps_for PassesOwn.never rfl (pi_list (pv 0)) (pg_name (i := 2) nd rfl (.inl rfl)) (pss_one (ps_set (i := 1) nd rfl (.inl rfl) (pe_op op_mod (pe_callTy call_int1 (by rfl) mi boot_int (pa_cons (pe_op op_add (pe_op op_add (pe_op op_mul (pv 1) pe_int) (pe_op op_mul (pv 2) pe_int)) pe_int) pa_nil)) pe_int))))
      (pss_cons (ps_setLc (i := 3) (own := [("cell", 2)]) (g := gName 2) (tt := tYes) rfl nd rfl rfl (sw_true rfl rfl rfl (by decide +kernel)) (pi_list (pv 0)) (blkOk_by (N := nOpen) (sc := defScope sOpen) (by decide +kernel)) (fun _ _ _ _ _ => pg_name (i := 2) nd rfl (Or.inl rfl)) (fun _ _ _ _ _ => pts_nil)
          (fun _ _ _ _ _ => pe_callB call_abs (by rfl) ma boot_abs (pa_cons (pv 2) pa_nil)))
      (pss_one (ps_ret (pe_disp (pps_cons pe_str (pe_revL (pv 3)) (pps_cons pe_str pe_int (pps_cons pe_str (pv 1) (pps_cons pe_str pe_int pps_nil)))) rfl rfl (by decide) (by decide)))))), ?_⟩
    have hSz : (ns.map V.int).length < sizeLine := by rw [List.length_map]; exact small1000 hl
    refine ⟨_, rfl, a, rfl, ⟨_, hS⟩, for_list (xs := ns.map V.int) (fun i σ' H' => ∃ y, σ' = [some (.ref a), some (.int (stir (ns.take i) 11)), y, none] ∧ H' = H) ⟨none, rfl, rfl⟩ (fun i σ' H' _ ⟨_, _, e⟩ => by rw [e]; exact hS) (fun i x σ' H' hx hP => ?_) (fun σ' H' hP => ?_)⟩
    · obtain ⟨y, rfl, rfl⟩ := hP
      rw [List.getElem?_map] at hx
      cases hn : ns[i]? with
      | none => rw [hn] at hx; cases hx
      | some n =>
        rw [hn] at hx
        cases hx
        refine ⟨_, rfl, _, _, rfl, rfl, .inr ⟨by decide, by decide⟩, _, rfl, _, _, rfl, rfl, .inr ⟨by decide, by decide⟩, _, _, rfl, rfl, _, _, rfl, rfl, .inl ⟨_, rfl, _, _, rfl, rfl, by show (0 : Int) < 2147483629; decide, ?_⟩⟩
        refine ⟨some (.int n), ?_, rfl⟩
        have e : stir (ns.take (i + 1)) 11 = (stir (ns.take i) 11 * 69069 + n * 31 + 5) % 2147483629 := by
          unfold stir
          rw [List.take_add_one, hn, List.foldl_append]
          rfl
        rw [e]
        rfl
    · obtain ⟨y, rfl, eH⟩ := hP
      rw [eH]
      have et : ns.take (ns.map V.int).length = ns := by rw [List.length_map]; exact List.take_length
      rw [et]
      refine ⟨_, rfl, a, rfl, ⟨_, hS⟩, fun D hD => lc_list (xs := ns.map V.int) (fun i H2 => (∀ b o, H b = some o → H2 b = some o) ∧ H2 D = some (.lst (((ns.take i).map absI).map V.int))) ⟨fun b o e => ?_, ?_⟩ (fun i H2 _ hP => ?_) (fun i x H2 hx hP => ?_) (fun H2 hP => ?_)⟩
      · rw [upd_ne (ne_of_none e hD)]; exact e
      · rw [upd_same]; rfl
      · rcases hS with (h | ⟨o, h⟩) | h
        · exact .inl (.inl (hP.1 _ _ h))
        · exact .inl (.inr ⟨o, hP.1 _ _ h⟩)
        · exact .inr h
      · obtain ⟨h1, h2⟩ := hP
        rw [List.getElem?_map] at hx
        cases hn : ns[i]? with
        | none => rw [hn] at hx; cases hx
        | some n =>
          rw [hn] at hx
          cases hx
          refine ⟨rfl, _, rfl, n, rfl, _, h2, ?_, fun b o e => ?_, ?_⟩
          · rw [List.length_map, List.length_map]
            exact Nat.lt_of_le_of_lt (List.length_take_le' _ _) (small1000 hl)
          · rw [upd_ne (ne_of_none e hD)]; exact h1 b o e
          · rw [upd_same, List.take_add_one, hn, List.map_append, List.map_append]
            rfl
      · obtain ⟨h1, h2⟩ := hP
        rw [et] at h2
        intro p hp
        have hpD : D ≠ p := ne_of_none h2 hp
        refine ⟨_, rfl, D, _, rfl, SqL.of (by rw [upd_ne hpD]; exact h2), fun c hc => ⟨_, rfl, ?_⟩⟩
        have hcp : c ≠ p := fun z => by rw [z, upd_same] at hc; cases hc
        have hc2 : H2 c = none := by rw [upd_ne hcp] at hc; exact hc
        have fresh : ∀ {b : Addr}, H2 b = none → H b = none := fun {b} n => by
          cases e : H b with
          | none => rfl
          | some o => rw [h1 b o e] at n; cases n
        refine ⟨by rw [upd_ne hcp.symm]; exact upd_same, [(Sum.inr "cells", .ref c), (Sum.inr "left", .int 1), (Sum.inr "mixed", .int (stir ns 11)), (Sum.inr "turn", .int 0)], rfl, by show 4 ≤ 15; decide, ?_⟩
        refine kk _ p c (fun b o e => ?_) (fresh hp) (fresh hc2) ⟨upd_same, ?_⟩
        · have nb : b ≠ p := fun z => by rw [z, fresh hp] at e; cases e
          have nc : b ≠ c := fun z => by rw [z, fresh hc2] at e; cases e
          rw [upd_ne nb, upd_ne nc, upd_ne nb]
          exact h1 b o e
        · rw [upd_ne hcp, upd_same]
          show some (HO.lst ((ns.map absI).map V.int).reverse) = some (HO.lst (((ns.map absI).reverse).map V.int))
          rw [List.map_reverse]
end
end Sb

set_option Elab.async false
set_option autoImplicit false
set_option linter.all false
set_option maxRecDepth 100000
set_option maxHeartbeats 4000000
namespace Sb
open PySem PySem.Spec PyProof.Rows L2
section
variable {K : PySem.W.Frag} {mg : Str → Option Value} {h : Heap}
theorem at_is_plain_row {f : Addr} {od an : Option Addr} {sl : Array (Option Value)} {oc kV dc pm cd ct : Value} (KX : K.In h) (G : h.Ns mainGlobals mg) (a1 : PySem.W.nsIn K mainGlobals "is_plain_row" = some (some (.ref f))) (l1 : K.lookup f = some ⟨oc, od, .func (PySem.W.fnOf "is_plain_row" "is_plain_row" (defArgs s_is_plain_row) (defBody s_is_plain_row) (defScope s_is_plain_row) .none kV dc pm an cd ct), sl⟩) (c1 : PySem.W.codeIn K cd "is_plain_row" = true) (k1 : PySem.W.keepIn K (.ref f) = true) : DefAt K mg "is_plain_row" s_is_plain_row ["value"] :=
  defAt KX G (fun _ _ _ _ _ _ us hl => match us, hl with | [_], _ => rfl) a1 l1 c1 k1
theorem at_is_board {f : Addr} {od an : Option Addr} {sl : Array (Option Value)} {oc kV dc pm cd ct : Value} (KX : K.In h) (G : h.Ns mainGlobals mg) (a1 : PySem.W.nsIn K mainGlobals "is_board" = some (some (.ref f))) (l1 : K.lookup f = some ⟨oc, od, .func (PySem.W.fnOf "is_board" "is_board" (defArgs s_is_board) (defBody s_is_board) (defScope s_is_board) .none kV dc pm an cd ct), sl⟩) (c1 : PySem.W.codeIn K cd "is_board" = true) (k1 : PySem.W.keepIn K (.ref f) = true) : DefAt K mg "is_board" s_is_board ["value"] :=
  defAt KX G (fun _ _ _ _ _ _ us hl => match us, hl with | [_], _ => rfl) a1 l1 c1 k1
theorem at_snake_number {f : Addr} {od an : Option Addr} {sl : Array (Option Value)} {oc kV dc pm cd ct : Value} (KX : K.In h) (G : h.Ns mainGlobals mg) (a1 : PySem.W.nsIn K mainGlobals "snake_number" = some (some (.ref f))) (l1 : K.lookup f = some ⟨oc, od, .func (PySem.W.fnOf "snake_number" "snake_number" (defArgs s_snake_number) (defBody s_snake_number) (defScope s_snake_number) .none kV dc pm an cd ct), sl⟩) (c1 : PySem.W.codeIn K cd "snake_number" = true) (k1 : PySem.W.keepIn K (.ref f) = true) : DefAt K mg "snake_number" s_snake_number ["m", "n", "r", "c"] :=
  defAt KX G (fun _ _ _ _ _ _ us hl => match us, hl with | [_, _, _, _], _ => rfl) a1 l1 c1 k1
theorem at_snake_place {f : Addr} {od an : Option Addr} {sl : Array (Option Value)} {oc kV dc pm cd ct : Value} (KX : K.In h) (G : h.Ns mainGlobals mg) (a1 : PySem.W.nsIn K mainGlobals "snake_place" = some (some (.ref f))) (l1 : K.lookup f = some ⟨oc, od, .func (PySem.W.fnOf "snake_place" "snake_place" (defArgs s_snake_place) (defBody s_snake_place) (defScope s_snake_place) .none kV dc pm an cd ct), sl⟩) (c1 : PySem.W.codeIn K cd "snake_place" = true) (k1 : PySem.W.keepIn K (.ref f) = true) : DefAt K mg "snake_place" s_snake_place ["m", "n", "k"] :=
  defAt KX G (fun _ _ _ _ _ _ us hl => match us, hl with | [_, _, _], _ => rfl) a1 l1 c1 k1
theorem at_snake_row {f : Addr} {od an : Option Addr} {sl : Array (Option Value)} {oc kV dc pm cd ct : Value} (KX : K.In h) (G : h.Ns mainGlobals mg) (a1 : PySem.W.nsIn K mainGlobals "snake_row" = some (some (.ref f))) (l1 : K.lookup f = some ⟨oc, od, .func (PySem.W.fnOf "snake_row" "snake_row" (defArgs s_snake_row) (defBody s_snake_row) (defScope s_snake_row) .none kV dc pm an cd ct), sl⟩) (c1 : PySem.W.codeIn K cd "snake_row" = true) (k1 : PySem.W.keepIn K (.ref f) = true) : DefAt K mg "snake_row" s_snake_row ["board"] :=
  defAt KX G (fun _ _ _ _ _ _ us hl => match us, hl with | [_], _ => rfl) a1 l1 c1 k1
theorem at_board_of_snake {f : Addr} {od an : Option Addr} {sl : Array (Option Value)} {oc kV dc pm cd ct : Value} (KX : K.In h) (G : h.Ns mainGlobals mg) (a1 : PySem.W.nsIn K mainGlobals "board_of_snake" = some (some (.ref f))) (l1 : K.lookup f = some ⟨oc, od, .func (PySem.W.fnOf "board_of_snake" "board_of_snake" (defArgs s_board_of_snake) (defBody s_board_of_snake) (defScope s_board_of_snake) .none kV dc pm an cd ct), sl⟩) (c1 : PySem.W.codeIn K cd "board_of_snake" = true) (k1 : PySem.W.keepIn K (.ref f) = true) : DefAt K mg "board_of_snake" s_board_of_snake ["m", "n", "row"] :=
  defAt KX G (fun _ _ _ _ _ _ us hl => match us, hl with | [_, _, _], _ => rfl) a1 l1 c1 k1
theorem at_is_snake_sorted {f : Addr} {od an : Option Addr} {sl : Array (Option Value)} {oc kV dc pm cd ct : Value} (KX : K.In h) (G : h.Ns mainGlobals mg) (a1 : PySem.W.nsIn K mainGlobals "is_snake_sorted" = some (some (.ref f))) (l1 : K.lookup f = some ⟨oc, od, .func (PySem.W.fnOf "is_snake_sorted" "is_snake_sorted" (defArgs s_is_snake_sorted) (defBody s_is_snake_sorted) (defScope s_is_snake_sorted) .none kV dc pm an cd ct), sl⟩) (c1 : PySem.W.codeIn K cd "is_snake_sorted" = true) (k1 : PySem.W.keepIn K (.ref f) = true) : DefAt K mg "is_snake_sorted" s_is_snake_sorted ["board"] :=
  defAt KX G (fun _ _ _ _ _ _ us hl => match us, hl with | [_], _ => rfl) a1 l1 c1 k1
theorem at_row_phase {f : Addr} {od an : Option Addr} {sl : Array (Option Value)} {oc kV dc pm cd ct : Value} (KX : K.In h) (G : h.Ns mainGlobals mg) (a1 : PySem.W.nsIn K mainGlobals "row_phase" = some (some (.ref f))) (l1 : K.lookup f = some ⟨oc, od, .func (PySem.W.fnOf "row_phase" "row_phase" (defArgs s_row_phase) (defBody s_row_phase) (defScope s_row_phase) .none kV dc pm an cd ct), sl⟩) (c1 : PySem.W.codeIn K cd "row_phase" = true) (k1 : PySem.W.keepIn K (.ref f) = true) : DefAt K mg "row_phase" s_row_phase ["board"] :=
  defAt KX G (fun _ _ _ _ _ _ us hl => match us, hl with | [_], _ => rfl) a1 l1 c1 k1
theorem at_columns_of {f : Addr} {od an : Option Addr} {sl : Array (Option Value)} {oc kV dc pm cd ct : Value} (KX : K.In h) (G : h.Ns mainGlobals mg) (a1 : PySem.W.nsIn K mainGlobals "columns_of" = some (some (.ref f))) (l1 : K.lookup f = some ⟨oc, od, .func (PySem.W.fnOf "columns_of" "columns_of" (defArgs s_columns_of) (defBody s_columns_of) (defScope s_columns_of) .none kV dc pm an cd ct), sl⟩) (c1 : PySem.W.codeIn K cd "columns_of" = true) (k1 : PySem.W.keepIn K (.ref f) = true) : DefAt K mg "columns_of" s_columns_of ["board"] :=
  defAt KX G (fun _ _ _ _ _ _ us hl => match us, hl with | [_], _ => rfl) a1 l1 c1 k1
theorem at_column_phase {f : Addr} {od an : Option Addr} {sl : Array (Option Value)} {oc kV dc pm cd ct : Value} (KX : K.In h) (G : h.Ns mainGlobals mg) (a1 : PySem.W.nsIn K mainGlobals "column_phase" = some (some (.ref f))) (l1 : K.lookup f = some ⟨oc, od, .func (PySem.W.fnOf "column_phase" "column_phase" (defArgs s_column_phase) (defBody s_column_phase) (defScope s_column_phase) .none kV dc pm an cd ct), sl⟩) (c1 : PySem.W.codeIn K cd "column_phase" = true) (k1 : PySem.W.keepIn K (.ref f) = true) : DefAt K mg "column_phase" s_column_phase ["board"] :=
  defAt KX G (fun _ _ _ _ _ _ us hl => match us, hl with | [_], _ => rfl) a1 l1 c1 k1
theorem at_rows_up {f : Addr} {od an : Option Addr} {sl : Array (Option Value)} {oc kV dc pm cd ct : Value} (KX : K.In h) (G : h.Ns mainGlobals mg) (a1 : PySem.W.nsIn K mainGlobals "rows_up" = some (some (.ref f))) (l1 : K.lookup f = some ⟨oc, od, .func (PySem.W.fnOf "rows_up" "rows_up" (defArgs s_rows_up) (defBody s_rows_up) (defScope s_rows_up) .none kV dc pm an cd ct), sl⟩) (c1 : PySem.W.codeIn K cd "rows_up" = true) (k1 : PySem.W.keepIn K (.ref f) = true) : DefAt K mg "rows_up" s_rows_up ["board"] :=
  defAt KX G (fun _ _ _ _ _ _ us hl => match us, hl with | [_], _ => rfl) a1 l1 c1 k1
theorem at_is_up {f : Addr} {od an : Option Addr} {sl : Array (Option Value)} {oc kV dc pm cd ct : Value} (KX : K.In h) (G : h.Ns mainGlobals mg) (a1 : PySem.W.nsIn K mainGlobals "is_up" = some (some (.ref f))) (l1 : K.lookup f = some ⟨oc, od, .func (PySem.W.fnOf "is_up" "is_up" (defArgs s_is_up) (defBody s_is_up) (defScope s_is_up) .none kV dc pm an cd ct), sl⟩) (c1 : PySem.W.codeIn K cd "is_up" = true) (k1 : PySem.W.keepIn K (.ref f) = true) : DefAt K mg "is_up" s_is_up ["line"] :=
  defAt KX G (fun _ _ _ _ _ _ us hl => match us, hl with | [_], _ => rfl) a1 l1 c1 k1
theorem at_is_sorted_both {f : Addr} {od an : Option Addr} {sl : Array (Option Value)} {oc kV dc pm cd ct : Value} (KX : K.In h) (G : h.Ns mainGlobals mg) (a1 : PySem.W.nsIn K mainGlobals "is_sorted_both" = some (some (.ref f))) (l1 : K.lookup f = some ⟨oc, od, .func (PySem.W.fnOf "is_sorted_both" "is_sorted_both" (defArgs s_is_sorted_both) (defBody s_is_sorted_both) (defScope s_is_sorted_both) .none kV dc pm an cd ct), sl⟩) (c1 : PySem.W.codeIn K cd "is_sorted_both" = true) (k1 : PySem.W.keepIn K (.ref f) = true) : DefAt K mg "is_sorted_both" s_is_sorted_both ["board"] :=
  defAt KX G (fun _ _ _ _ _ _ us hl => match us, hl with | [_], _ => rfl) a1 l1 c1 k1
theorem at_z_open_cells {f : Addr} {od an : Option Addr} {sl : Array (Option Value)} {oc kV dc pm cd ct : Value} (KX : K.In h) (G : h.Ns mainGlobals mg) (a1 : PySem.W.nsIn K mainGlobals "_law_open_cells" = some (some (.ref f))) (l1 : K.lookup f = some ⟨oc, od, .func (PySem.W.fnOf "_law_open_cells" "_law_open_cells" (defArgs s_z_open_cells) (defBody s_z_open_cells) (defScope s_z_open_cells) .none kV dc pm an cd ct), sl⟩) (c1 : PySem.W.codeIn K cd "_law_open_cells" = true) (k1 : PySem.W.keepIn K (.ref f) = true) : DefAt K mg "_law_open_cells" s_z_open_cells ["script"] :=
  defAt KX G (fun _ _ _ _ _ _ us hl => match us, hl with | [_], _ => rfl) a1 l1 c1 k1
theorem at_z_pick {f : Addr} {od an : Option Addr} {sl : Array (Option Value)} {oc kV dc pm cd ct : Value} (KX : K.In h) (G : h.Ns mainGlobals mg) (a1 : PySem.W.nsIn K mainGlobals "_law_pick" = some (some (.ref f))) (l1 : K.lookup f = some ⟨oc, od, .func (PySem.W.fnOf "_law_pick" "_law_pick" (defArgs s_z_pick) (defBody s_z_pick) (defScope s_z_pick) .none kV dc pm an cd ct), sl⟩) (c1 : PySem.W.codeIn K cd "_law_pick" = true) (k1 : PySem.W.keepIn K (.ref f) = true) : DefAt K mg "_law_pick" s_z_pick ["source", "most"] :=
  defAt KX G (fun _ _ _ _ _ _ us hl => match us, hl with | [_, _], _ => rfl) a1 l1 c1 k1
theorem at_z_board {f : Addr} {od an : Option Addr} {sl : Array (Option Value)} {oc kV dc pm cd ct : Value} (KX : K.In h) (G : h.Ns mainGlobals mg) (a1 : PySem.W.nsIn K mainGlobals "_law_board" = some (some (.ref f))) (l1 : K.lookup f = some ⟨oc, od, .func (PySem.W.fnOf "_law_board" "_law_board" (defArgs s_z_board) (defBody s_z_board) (defScope s_z_board) .none kV dc pm an cd ct), sl⟩) (c1 : PySem.W.codeIn K cd "_law_board" = true) (k1 : PySem.W.keepIn K (.ref f) = true) : DefAt K mg "_law_board" s_z_board ["source", "most", "wide"] :=
  defAt KX G (fun _ _ _ _ _ _ us hl => match us, hl with | [_, _, _], _ => rfl) a1 l1 c1 k1
theorem at_z_snake {f : Addr} {od an : Option Addr} {sl : Array (Option Value)} {oc kV dc pm cd ct : Value} (KX : K.In h) (G : h.Ns mainGlobals mg) (a1 : PySem.W.nsIn K mainGlobals "_law_snake" = some (some (.ref f))) (l1 : K.lookup f = some ⟨oc, od, .func (PySem.W.fnOf "_law_snake" "_law_snake" (defArgs s_z_snake) (defBody s_z_snake) (defScope s_z_snake) .none kV dc pm an cd ct), sl⟩) (c1 : PySem.W.codeIn K cd "_law_snake" = true) (k1 : PySem.W.keepIn K (.ref f) = true) : DefAt K mg "_law_snake" s_z_snake ["board"] :=
  defAt KX G (fun _ _ _ _ _ _ us hl => match us, hl with | [_], _ => rfl) a1 l1 c1 k1
theorem at_z_rows {f : Addr} {od an : Option Addr} {sl : Array (Option Value)} {oc kV dc pm cd ct : Value} (KX : K.In h) (G : h.Ns mainGlobals mg) (a1 : PySem.W.nsIn K mainGlobals "_law_rows" = some (some (.ref f))) (l1 : K.lookup f = some ⟨oc, od, .func (PySem.W.fnOf "_law_rows" "_law_rows" (defArgs s_z_rows) (defBody s_z_rows) (defScope s_z_rows) .none kV dc pm an cd ct), sl⟩) (c1 : PySem.W.codeIn K cd "_law_rows" = true) (k1 : PySem.W.keepIn K (.ref f) = true) : DefAt K mg "_law_rows" s_z_rows ["board"] :=
  defAt KX G (fun _ _ _ _ _ _ us hl => match us, hl with | [_], _ => rfl) a1 l1 c1 k1
theorem at_z_columns {f : Addr} {od an : Option Addr} {sl : Array (Option Value)} {oc kV dc pm cd ct : Value} (KX : K.In h) (G : h.Ns mainGlobals mg) (a1 : PySem.W.nsIn K mainGlobals "_law_columns" = some (some (.ref f))) (l1 : K.lookup f = some ⟨oc, od, .func (PySem.W.fnOf "_law_columns" "_law_columns" (defArgs s_z_columns) (defBody s_z_columns) (defScope s_z_columns) .none kV dc pm an cd ct), sl⟩) (c1 : PySem.W.codeIn K cd "_law_columns" = true) (k1 : PySem.W.keepIn K (.ref f) = true) : DefAt K mg "_law_columns" s_z_columns ["board"] :=
  defAt KX G (fun _ _ _ _ _ _ us hl => match us, hl with | [_], _ => rfl) a1 l1 c1 k1
theorem at_z_sheared {f : Addr} {od an : Option Addr} {sl : Array (Option Value)} {oc kV dc pm cd ct : Value} (KX : K.In h) (G : h.Ns mainGlobals mg) (a1 : PySem.W.nsIn K mainGlobals "_law_sheared" = some (some (.ref f))) (l1 : K.lookup f = some ⟨oc, od, .func (PySem.W.fnOf "_law_sheared" "_law_sheared" (defArgs s_z_sheared) (defBody s_z_sheared) (defScope s_z_sheared) .none kV dc pm an cd ct), sl⟩) (c1 : PySem.W.codeIn K cd "_law_sheared" = true) (k1 : PySem.W.keepIn K (.ref f) = true) : DefAt K mg "_law_sheared" s_z_sheared ["board", "k"] :=
  defAt KX G (fun _ _ _ _ _ _ us hl => match us, hl with | [_, _], _ => rfl) a1 l1 c1 k1
theorem at_law {f : Addr} {od an : Option Addr} {sl : Array (Option Value)} {oc kV dc pm cd ct : Value} (KX : K.In h) (G : h.Ns mainGlobals mg) (a1 : PySem.W.nsIn K mainGlobals "law" = some (some (.ref f))) (l1 : K.lookup f = some ⟨oc, od, .func (PySem.W.fnOf "law" "law" (defArgs s_law) (defBody s_law) (defScope s_law) .none kV dc pm an cd ct), sl⟩) (c1 : PySem.W.codeIn K cd "law" = true) (k1 : PySem.W.keepIn K (.ref f) = true) : DefAt K mg "law" s_law ["script"] :=
  defAt KX G (fun _ _ _ _ _ _ us hl => match us, hl with | [_], _ => rfl) a1 l1 c1 k1
end
theorem tab {P : Program} {w : World} {K : PySem.W.Frag} {mg : Str → Option Value} {base : Heap} (d_is_plain_row : DefAt K mg "is_plain_row" s_is_plain_row ["value"]) (d_is_board : DefAt K mg "is_board" s_is_board ["value"]) (d_snake_number : DefAt K mg "snake_number" s_snake_number ["m", "n", "r", "c"]) (d_snake_place : DefAt K mg "snake_place" s_snake_place ["m", "n", "k"]) (d_snake_row : DefAt K mg "snake_row" s_snake_row ["board"]) (d_board_of_snake : DefAt K mg "board_of_snake" s_board_of_snake ["m", "n", "row"]) (d_is_snake_sorted : DefAt K mg "is_snake_sorted" s_is_snake_sorted ["board"]) (d_row_phase : DefAt K mg "row_phase" s_row_phase ["board"]) (d_columns_of : DefAt K mg "columns_of" s_columns_of ["board"]) (d_column_phase : DefAt K mg "column_phase" s_column_phase ["board"]) (d_rows_up : DefAt K mg "rows_up" s_rows_up ["board"]) (d_is_up : DefAt K mg "is_up" s_is_up ["line"]) (d_is_sorted_both : DefAt K mg "is_sorted_both" s_is_sorted_both ["board"]) (d_z_open_cells : DefAt K mg "_law_open_cells" s_z_open_cells ["script"]) (d_z_pick : DefAt K mg "_law_pick" s_z_pick ["source", "most"]) (d_z_board : DefAt K mg "_law_board" s_z_board ["source", "most", "wide"]) (d_z_snake : DefAt K mg "_law_snake" s_z_snake ["board"]) (d_z_rows : DefAt K mg "_law_rows" s_z_rows ["board"]) (d_z_columns : DefAt K mg "_law_columns" s_z_columns ["board"]) (d_z_sheared : DefAt K mg "_law_sheared" s_z_sheared ["board", "k"]) (hbn : ∀ x ∈ bnL, mg x = none) : Tab P w K mg base 20 fns_20 fs_20 := by
  have T0 : Tab P w K mg base 0 fns_0 fs_0 := Tab.nil
  have T1 : Tab P w K mg base 1 fns_1 fs_1 := T0.def_ d_is_plain_row hbn chk_is_plain_row
  have T2 : Tab P w K mg base 2 fns_2 fs_2 := T1.def_ d_is_board hbn chk_is_board
  have T3 : Tab P w K mg base 3 fns_3 fs_3 := T2.def_ d_snake_number hbn chk_snake_number
  have T4 : Tab P w K mg base 4 fns_4 fs_4 := T3.def_ d_snake_place hbn chk_snake_place
  have T5 : Tab P w K mg base 5 fns_5 fs_5 := T4.def_ d_snake_row hbn chk_snake_row
  have T6 : Tab P w K mg base 6 fns_6 fs_6 := T5.def_ d_board_of_snake hbn chk_board_of_snake
  have T7 : Tab P w K mg base 7 fns_7 fs_7 := T6.def_ d_is_snake_sorted hbn chk_is_snake_sorted
  have T8 : Tab P w K mg base 8 fns_8 fs_8 := T7.def_ d_row_phase hbn chk_row_phase
  have T9 : Tab P w K mg base 9 fns_9 fs_9 := T8.def_ d_columns_of hbn chk_columns_of
  have T10 : Tab P w K mg base 10 fns_10 fs_10 := T9.def_ d_column_phase hbn chk_column_phase
  have T11 : Tab P w K mg base 11 fns_11 fs_11 := T10.def_ d_rows_up hbn chk_rows_up
  have T12 : Tab P w K mg base 12 fns_12 fs_12 := T11.def_ d_is_up hbn chk_is_up
  have T13 : Tab P w K mg base 13 fns_13 fs_13 := T12.def_ d_is_sorted_both hbn chk_is_sorted_both
  have T14 : Tab P w K mg base 14 fns_14 fs_14 := T13.raw d_z_open_cells (fun f fd G => ok_open G (hbn _ (by decide +kernel)) (hbn _ (by decide +kernel))) open_fn
  have T15 : Tab P w K mg base 15 fns_15 fs_15 := T14.raw d_z_pick (fun f fd G => ok_pick G (hbn _ (by decide +kernel)) (hbn _ (by decide +kernel))) pick_fn
  have T16 : Tab P w K mg base 16 fns_16 fs_16 := T15.def_ d_z_board hbn chk_z_board
  have T17 : Tab P w K mg base 17 fns_17 fs_17 := T16.def_ d_z_snake hbn chk_z_snake
  have T18 : Tab P w K mg base 18 fns_18 fs_18 := T17.def_ d_z_rows hbn chk_z_rows
  have T19 : Tab P w K mg base 19 fns_19 fs_19 := T18.def_ d_z_columns hbn chk_z_columns
  have T20 : Tab P w K mg base 20 fns_20 fs_20 := T19.def_ d_z_sheared hbn chk_z_sheared
  exact T20
theorem all_mk {P : Program} {w : World} {K : PySem.W.Frag} {mg : Str → Option Value} {h : Heap} {fa : Addr} (KX : K.In h) (G : h.Ns mainGlobals mg) (hfa : mg "law" = some (.ref fa)) (d_is_plain_row : DefAt K mg "is_plain_row" s_is_plain_row ["value"]) (d_is_board : DefAt K mg "is_board" s_is_board ["value"]) (d_snake_number : DefAt K mg "snake_number" s_snake_number ["m", "n", "r", "c"]) (d_snake_place : DefAt K mg "snake_place" s_snake_place ["m", "n", "k"]) (d_snake_row : DefAt K mg "snake_row" s_snake_row ["board"]) (d_board_of_snake : DefAt K mg "board_of_snake" s_board_of_snake ["m", "n", "row"]) (d_is_snake_sorted : DefAt K mg "is_snake_sorted" s_is_snake_sorted ["board"]) (d_row_phase : DefAt K mg "row_phase" s_row_phase ["board"]) (d_columns_of : DefAt K mg "columns_of" s_columns_of ["board"]) (d_column_phase : DefAt K mg "column_phase" s_column_phase ["board"]) (d_rows_up : DefAt K mg "rows_up" s_rows_up ["board"]) (d_is_up : DefAt K mg "is_up" s_is_up ["line"]) (d_is_sorted_both : DefAt K mg "is_sorted_both" s_is_sorted_both ["board"]) (d_z_open_cells : DefAt K mg "_law_open_cells" s_z_open_cells ["script"]) (d_z_pick : DefAt K mg "_law_pick" s_z_pick ["source", "most"]) (d_z_board : DefAt K mg "_law_board" s_z_board ["source", "most", "wide"]) (d_z_snake : DefAt K mg "_law_snake" s_z_snake ["board"]) (d_z_rows : DefAt K mg "_law_rows" s_z_rows ["board"]) (d_z_columns : DefAt K mg "_law_columns" s_z_columns ["board"]) (d_z_sheared : DefAt K mg "_law_sheared" s_z_sheared ["board", "k"]) (d_law : DefAt K mg "law" s_law ["script"]) (z0 : PySem.W.nsIn K mainGlobals "abs" = some none) (z1 : PySem.W.nsIn K mainGlobals "all" = some none) (z2 : PySem.W.nsIn K mainGlobals "bool" = some none) (z3 : PySem.W.nsIn K mainGlobals "enumerate" = some none) (z4 : PySem.W.nsIn K mainGlobals "int" = some none) (z5 : PySem.W.nsIn K mainGlobals "isinstance" = some none) (z6 : PySem.W.nsIn K mainGlobals "len" = some none) (z7 : PySem.W.nsIn K mainGlobals "list" = some none) (z8 : PySem.W.nsIn K mainGlobals "range" = some none) (z9 : PySem.W.nsIn K mainGlobals "repr" = some none) (z10 : PySem.W.nsIn K mainGlobals "sorted" = some none) (z11 : PySem.W.nsIn K mainGlobals "tuple" = some none) :
    ∃ fd : FuncData, (∀ (s : Shared) (u : Value), BindsTo s fd ⟨[u], []⟩ [("script", u)]) ∧ ∀ base : Heap, K.In base → base.Ns mainGlobals mg → FnG P w K mg base 21 fa fd ["script"] F_law := by
  have hbn : ∀ x ∈ bnL, mg x = none := by
    intro x hx
    simp only [bnL, List.mem_cons, List.not_mem_nil, or_false] at hx
    rcases hx with rfl | rfl | rfl | rfl | rfl | rfl | rfl | rfl | rfl | rfl | rfl | rfl
    · exact PySem.W.mg_none_of KX G z0
    · exact PySem.W.mg_none_of KX G z1
    · exact PySem.W.mg_none_of KX G z2
    · exact PySem.W.mg_none_of KX G z3
    · exact PySem.W.mg_none_of KX G z4
    · exact PySem.W.mg_none_of KX G z5
    · exact PySem.W.mg_none_of KX G z6
    · exact PySem.W.mg_none_of KX G z7
    · exact PySem.W.mg_none_of KX G z8
    · exact PySem.W.mg_none_of KX G z9
    · exact PySem.W.mg_none_of KX G z10
    · exact PySem.W.mg_none_of KX G z11
  exact law_end (fun base _ _ => tab d_is_plain_row d_is_board d_snake_number d_snake_place d_snake_row d_board_of_snake d_is_snake_sorted d_row_phase d_columns_of d_column_phase d_rows_up d_is_up d_is_sorted_both d_z_open_cells d_z_pick d_z_board d_z_snake d_z_rows d_z_columns d_z_sheared hbn) d_law hbn chk_law hfa
end Sb

set_option Elab.async false
set_option autoImplicit false
set_option linter.all false
set_option maxRecDepth 100000
set_option maxHeartbeats 4000000
namespace Sb
open PySem PySem.Spec PyProof.Rows L2
local macro_rules
  | `(tactic| trivial) => `(tactic| first
    | exact l_nil | exact o_none | exact s_nil | exact x_nil | exact e_cst | exact e_var rfl
    | apply s_retL | apply e_bin | apply e_cmp | apply e_nt | apply e_neg | apply e_rv | apply e_one | apply l_cons | apply x_v | apply e_ix | apply e_isa | apply e_fn | apply e_call | apply e_tup | apply e_lst | apply o_some | apply e_sl)
abbrev enT (r : List Int) : PyData := .tuple (r.map .int)
abbrev enL (r : List Int) : PyData := .list (r.map .int)
abbrev enB (b : List (List Int)) : PyData := .tuple (b.map enT)
def plainD : PyData → Bool
  | .tuple (x :: xs) => (x :: xs).all isI
  | _ => false
theorem plain_row_eq (d : PyData) (q : Sx) (h : okd 40 d = true) : F_is_plain_row [d] q = some (.bool (plainD d), q) := by
  refine fn_rt ?_
  unfold ir_is_plain_row
  cases d with
  | tuple xs =>
    cases xs with
    | nil =>
      apply s_rt
      apply s_iffT
      · apply e_orF
        · repeat' trivial
        · repeat' trivial
      · repeat' trivial
    | cons x xs =>
      apply s_nx
      · apply s_iffF
        · apply e_orF
          · repeat' trivial
          · repeat' trivial
            exact v_eq h rfl
        · repeat' trivial
      · refine s_retL (e_fn (xs := [.list ((x :: xs).map fun d => .bool (isI d))]) (l_cons (e_map (xs := x :: xs) (en := id) (by rw [List.map_id]; exact i_tup (e_var rfl)) (fun y hy => ⟨_, rfl, rfl, ?_⟩) rfl) l_nil) v_all)
        have hy := okd_mono (okd_items h hy) (by decide : 39 ≤ 40)
        rw [← isI_eq]
        apply e_an'
        · exact e_isa (e_var rfl) (v_isa_int hy)
        · exact fun _ => e_one (e_nt (e_isa (e_var rfl) (v_isa_bool hy)))
  | dict z => cases h
  | _ =>
    apply s_rt
    apply s_iffT
    · apply e_orT
      repeat' trivial
    · repeat' trivial
def lenD : PyData → Nat
  | .tuple xs => xs.length
  | _ => 0
def boardD : PyData → Bool
  | .tuple (x :: xs) => (x :: xs).all plainD && (x :: xs).all fun l => decide ((lenD l : Int) = (lenD x : Int))
  | _ => false
theorem plain_tup {d : PyData} (h : plainD d = true) : ∃ xs, d = .tuple xs := by
  unfold plainD at h
  split at h
  · exact ⟨_, rfl⟩
  · cases h
theorem is_board_eq (d : PyData) (q : Sx) (h : okd 40 d = true) : F_is_board [d] q = some (.bool (boardD d), q) := by
  refine fn_rt ?_
  unfold ir_is_board
  cases d with
  | tuple xs =>
    cases xs with
    | nil =>
      apply s_rt
      apply s_iffT
      · apply e_orF
        · repeat' trivial
        · apply e_orT
          repeat' trivial
      · repeat' trivial
    | cons x xs =>
      have hall : runE fs_1 (.fn .all (.cons (.comp [("line", 1)] (.nm 1) (.seq (.var 0)) .none (.call 0 (.cons (.var 1) .nil))) .nil)) (startE 2 [.tuple (x :: xs)]) q = some (.bool ((x :: xs).all plainD), startE 2 [.tuple (x :: xs)], q) := by
        refine e_fn (xs := [.list ((x :: xs).map fun d => .bool (plainD d))]) (l_cons (e_map (xs := x :: xs) (en := id) (by rw [List.map_id]; exact i_tup (e_var rfl)) (fun y hy => ⟨_, rfl, rfl, ?_⟩) rfl) l_nil) v_all
        have hy := okd_mono (okd_items h hy) (by decide : 39 ≤ 40)
        exact e_call (l_cons (e_var rfl) l_nil) (plain_row_eq y q hy)
      cases hp : (x :: xs).all plainD with
      | false =>
        rw [hp] at hall
        apply s_rt
        apply s_iffT
        · apply e_orF
          · repeat' trivial
          · apply e_orF
            · repeat' trivial
              exact v_eq h rfl
            · exact e_one (e_nt hall)
        · have : boardD (.tuple (x :: xs)) = false := by
            show ((x :: xs).all plainD && (x :: xs).all fun l => decide ((lenD l : Int) = (lenD x : Int))) = false
            rw [hp]; rfl
          rw [this]
          repeat' trivial
      | true =>
        rw [hp] at hall
        apply s_nx
        · apply s_iffF
          · apply e_orF
            · repeat' trivial
            · apply e_orF
              · repeat' trivial
                exact v_eq h rfl
              · exact e_one (e_nt hall)
          · repeat' trivial
        · have e : boardD (.tuple (x :: xs)) = (x :: xs).all fun l => decide ((lenD l : Int) = (lenD x : Int)) := by
            show ((x :: xs).all plainD && (x :: xs).all fun l => decide ((lenD l : Int) = (lenD x : Int))) = _
            rw [hp, Bool.true_and]
          rw [e]
          have tup := fun y hy => plain_tup (List.all_eq_true.mp hp y hy)
          refine s_retL (e_fn (xs := [.list ((x :: xs).map fun l => .bool (decide ((lenD l : Int) = (lenD x : Int))))]) (l_cons (e_map (xs := x :: xs) (en := id) (by rw [List.map_id]; exact i_tup (e_var rfl)) (fun y hy => ⟨_, rfl, rfl, ?_⟩) rfl) l_nil) v_all)
          obtain ⟨ys, rfl⟩ := tup y hy
          obtain ⟨zs, rfl⟩ := tup x List.mem_cons_self
          refine e_cmp (e_fn (l_cons (e_var rfl) l_nil) (show lenS [.tuple ys] = some (.int ys.length) from rfl)) (e_fn (l_cons (e_ix (e_var rfl) e_cst v_ix0) l_nil) (show lenS [.tuple zs] = some (.int zs.length) from rfl)) v_eq_int
  | dict z => cases h
  | _ =>
    apply s_rt
    apply s_iffT
    · apply e_orT
      repeat' trivial
    · repeat' trivial

/-! ### boards -/
structure GB (m n : Nat) (b : List (List Int)) : Prop where
  m1 : 1 ≤ m
  m8 : m ≤ 8
  n1 : 1 ≤ n
  n8 : n ≤ 8
  len : b.length = m
  row : ∀ l ∈ b, l.length = n
  ent : ∀ l ∈ b, ∀ x ∈ l, x.natAbs ≤ 2000
def turn (k : Nat) (l : List Int) : List Int := if k % 2 = 0 then l else l.reverse
theorem turn_len (k : Nat) (l : List Int) : (turn k l).length = l.length := by unfold turn; split <;> simp
def snk : Nat → List (List Int) → List Int
  | _, [] => []
  | k, l :: r => turn k l ++ snk (k + 1) r
theorem snk_app : ∀ (a b : List (List Int)) (k : Nat), snk k (a ++ b) = snk k a ++ snk (k + a.length) b
  | [], b, k => rfl
  | x :: a, b, k => by
    rw [List.cons_append, snk, snk, snk_app a b (k + 1), List.length_cons, List.append_assoc, show k + 1 + a.length = k + (a.length + 1) by omega]
theorem snk_len {n : Nat} : ∀ {b : List (List Int)} {k : Nat}, (∀ l ∈ b, l.length = n) → (snk k b).length = b.length * n
  | [], _, _ => by simp [snk]
  | x :: b, k, h => by
    rw [snk, List.length_append, turn_len, h x List.mem_cons_self, snk_len fun l hl => h l (List.mem_cons_of_mem _ hl), List.length_cons, Nat.add_mul]
    omega
theorem int_mod2 (k : Nat) : decide ((k : Int) % 2 = 0) = decide (k % 2 = 0) := by
  apply decide_eq_decide.mpr
  omega
theorem c_even {fs : List Fn} {ρ : Ev} {q : Sx} {i k : Nat} (h1 : ρ[i]? = some (some (.val (.int (k : Int))))) : runE fs (.cmp .eq (.bin .mod (.var i) (.cst (.int 2))) (.cst (.int 0))) ρ q = some (.bool (decide ((k : Int) % 2 = 0)), ρ, q) :=
  e_cmp (e_bin (e_var h1) e_cst (v_mod (by decide))) e_cst v_eq_int
theorem c_evenI {fs : List Fn} {ρ : Ev} {q : Sx} {i k : Nat} (h1 : ρ[i]? = some (some (.val (.int (k : Int))))) : runE fs (.cmp .eq (.bin .mod (.fn .int (.cons (.var i) .nil)) (.cst (.int 2))) (.cst (.int 0))) ρ q = some (.bool (decide ((k : Int) % 2 = 0)), ρ, q) :=
  e_cmp (e_bin (e_fn (l_cons (e_var h1) l_nil) (show intS [.int (k : Int)] = some (.int (k : Int)) from rfl)) e_cst (v_mod (by decide))) e_cst v_eq_int
theorem e_turn {fs : List Fn} {ρ : Ev} {q : Sx} {c : IE} {j k : Nat} {l : List Int} (h1 : runE fs c ρ q = some (.bool (decide ((k : Int) % 2 = 0)), ρ, q)) (h2 : ρ[j]? = some (some (.val (enT l)))) :
    runE fs (.ite c (.var j) (.rv (.var j))) ρ q = some (enT (turn k l), ρ, q) := by
  have h : runE fs (.ite c (.var j) (.rv (.var j))) ρ q = some (if decide ((k : Int) % 2 = 0) = true then enT l else enT l.reverse, ρ, q) := e_ite' h1 (fun _ => e_var h2) (fun _ => e_rv (e_var h2) (by simp [revS, enT]))
  rw [h, int_mod2]
  unfold turn
  by_cases hk : k % 2 = 0
  · simp [hk]
  · simp [hk]
theorem e_turnL {fs : List Fn} {ρ : Ev} {q : Sx} {c : IE} {j k : Nat} {l : List Int} (h1 : runE fs c ρ q = some (.bool (decide ((k : Int) % 2 = 0)), ρ, q)) (h2 : ρ[j]? = some (some (.val (enL l)))) :
    runE fs (.ite c (.var j) (.rv (.var j))) ρ q = some (enL (turn k l), ρ, q) := by
  have h : runE fs (.ite c (.var j) (.rv (.var j))) ρ q = some (if decide ((k : Int) % 2 = 0) = true then enL l else enL l.reverse, ρ, q) := e_ite' h1 (fun _ => e_var h2) (fun _ => e_rv (e_var h2) (by simp [revS, enL]))
  rw [h, int_mod2]
  unfold turn
  by_cases hk : k % 2 = 0
  · simp [hk]
  · simp [hk]
theorem enum_enB {b : List (List Int)} {i : Nat} {d : PyData} (h : (enumD (b.map enT))[i]? = some d) : ∃ l, b[i]? = some l ∧ d = .tuple [.int (i : Nat), enT l] := by
  obtain ⟨x, hx, rfl⟩ := enumD_get h
  rw [List.getElem?_map] at hx
  cases e : b[i]? with
  | none => rw [e] at hx; cases hx
  | some l => rw [e] at hx; cases hx; exact ⟨l, rfl, rfl⟩
theorem take_next {α : Type} {b : List α} {i : Nat} {l : α} (h : b[i]? = some l) : b.take (i + 1) = b.take i ++ [l] := by rw [List.take_add_one, h]; rfl
theorem take_le {α : Type} {b : List α} {i : Nat} {l : α} (h : b[i]? = some l) : (b.take i).length = i := by
  have := (List.getElem?_eq_some_iff.mp h).1
  rw [List.length_take]; omega
theorem snake_row_eq {m n : Nat} {b : List (List Int)} (g : GB m n b) (q : Sx) : F_snake_row [enB b] q = some (enT (snk 0 b), q) := by
  refine fn_rt ?_
  unfold ir_snake_row
  refine s_nx (s_set (ρ2 := [some (.val (enB b)), some (.val (.list [])), none, none]) (e_lst l_nil (by decide)) rfl) ?_
  obtain ⟨ρ', q', e, y, z, rfl, rfl⟩ := s_for (fs := fs_4) (ρ := [some (.val (enB b)), some (.val (.list [])), none, none]) (q := q) (tg := .tp (.cons (.nm 2) (.cons (.nm 3) .nil))) (it := .enum (.var 0))
    (body := .cons (.set (.nm 1) (.bin .add (.var 1) (.fn .list (.cons (.ite (.cmp .eq (.bin .mod (.var 2) (.cst (.int 2))) (.cst (.int 0))) (.var 3) (.rv (.var 3))) .nil)))) .nil)
    (fun i ρ q' => ∃ y z, ρ = [some (.val (enB b)), some (.val (enL (snk 0 (b.take i)))), y, z] ∧ q' = q) (i_enumT (e_var rfl)) ⟨none, none, rfl, rfl⟩ (fun i d ρ q' hd hI => by
      obtain ⟨y, z, rfl, rfl⟩ := hI
      obtain ⟨l, hl, rfl⟩ := enum_enB hd
      have hlen : (snk 0 (b.take i)).length ≤ 64 := by
        rw [snk_len (n := n) fun l hl => g.row l (List.mem_of_mem_take hl), take_le hl]
        have := (List.getElem?_eq_some_iff.mp hl).1
        have h1 := g.len; have h2 := g.m8; have h3 := g.n8
        exact Nat.le_trans (Nat.mul_le_mul (show i ≤ 8 by omega) h3) (by decide)
      have hll : l.length ≤ 8 := by rw [g.row l (List.mem_of_getElem? hl)]; exact g.n8
      refine ⟨[some (.val (enB b)), some (.val (enL (snk 0 (b.take i)))), some (.val (.int (i : Nat))), some (.val (enT l))], _, _, rfl, s_nx (s_set (ρ2 := [some (.val (enB b)), some (.val (enL (snk 0 (b.take i) ++ turn i l))), some (.val (.int (i : Nat))), some (.val (enT l))]) (e_bin (e_var rfl) (e_fn (l_cons (e_turn (k := i) (l := l) (c_even rfl) rfl) l_nil) rfl) (v_addL ?_)) ?_) s_nil, some (.val (.int (i : Nat))), some (.val (enT l)), ?_, rfl⟩
      · rw [List.length_map, List.length_map, turn_len]; omega
      · rw [← List.map_append]; rfl
      · rw [take_next hl, snk_app, take_le hl, snk, snk, List.append_nil, Nat.zero_add])
  refine s_nx e (s_retL (e_fn (l_cons (e_var rfl) l_nil) ?_))
  have hb : b.take (enumD (b.map enT)).length = b := by
    apply List.take_of_length_le
    simp [enumD]
  rw [hb]
  rfl

/-! ### the law's own snake -/
theorem z_snake_eq {m n : Nat} {b : List (List Int)} (g : GB m n b) (q : Sx) : F_z_snake [enB b] q = some (enL (snk 0 b), q) := by
  refine fn_rt ?_
  unfold ir_z_snake
  refine s_nx (s_set (ρ2 := [some (.val (enB b)), some (.val (.list [])), none, none]) (e_lst l_nil (by decide)) rfl) ?_
  obtain ⟨ρ', q', e, y, z, rfl, rfl⟩ := s_for (fs := fs_16) (ρ := [some (.val (enB b)), some (.val (.list [])), none, none]) (q := q) (tg := .tp (.cons (.nm 2) (.cons (.nm 3) .nil))) (it := .enum (.var 0))
    (body := .cons (.set (.nm 1) (.bin .add (.var 1) (.fn .list (.cons (.ite (.cmp .eq (.bin .mod (.fn .int (.cons (.var 2) .nil)) (.cst (.int 2))) (.cst (.int 0))) (.var 3) (.rv (.var 3))) .nil)))) .nil)
    (fun i ρ q' => ∃ y z, ρ = [some (.val (enB b)), some (.val (enL (snk 0 (b.take i)))), y, z] ∧ q' = q) (i_enumT (e_var rfl)) ⟨none, none, rfl, rfl⟩ (fun i d ρ q' hd hI => by
      obtain ⟨y, z, rfl, rfl⟩ := hI
      obtain ⟨l, hl, rfl⟩ := enum_enB hd
      have hlen : (snk 0 (b.take i)).length ≤ 64 := by
        rw [snk_len (n := n) fun l hl => g.row l (List.mem_of_mem_take hl), take_le hl]
        have := (List.getElem?_eq_some_iff.mp hl).1
        have h1 := g.len; have h2 := g.m8; have h3 := g.n8
        exact Nat.le_trans (Nat.mul_le_mul (show i ≤ 8 by omega) h3) (by decide)
      have hll : l.length ≤ 8 := by rw [g.row l (List.mem_of_getElem? hl)]; exact g.n8
      refine ⟨[some (.val (enB b)), some (.val (enL (snk 0 (b.take i)))), some (.val (.int (i : Nat))), some (.val (enT l))], _, _, rfl, s_nx (s_set (ρ2 := [some (.val (enB b)), some (.val (enL (snk 0 (b.take i) ++ turn i l))), some (.val (.int (i : Nat))), some (.val (enT l))]) (e_bin (e_var rfl) (e_fn (l_cons (e_turn (k := i) (l := l) (c_evenI rfl) rfl) l_nil) rfl) (v_addL ?_)) ?_) s_nil, some (.val (.int (i : Nat))), some (.val (enT l)), ?_, rfl⟩
      · rw [List.length_map, List.length_map, turn_len]; omega
      · rw [← List.map_append]; rfl
      · rw [take_next hl, snk_app, take_le hl, snk, snk, List.append_nil, Nat.zero_add])
  refine s_nx e (s_retL (e_var ?_))
  have hb : b.take (enumD (b.map enT)).length = b := by
    apply List.take_of_length_le
    simp [enumD]
  rw [hb]
  rfl
/-! ### rows sorted there and back -/
def prow : Nat → List (List Int) → List (List Int)
  | _, [] => []
  | k, l :: r => turn k (srt l) :: prow (k + 1) r
theorem prow_app : ∀ (a b : List (List Int)) (k : Nat), prow k (a ++ b) = prow k a ++ prow (k + a.length) b
  | [], b, k => rfl
  | x :: a, b, k => by
    rw [List.cons_append, prow, prow, prow_app a b (k + 1), List.length_cons, List.cons_append, show k + 1 + a.length = k + (a.length + 1) by omega]
theorem prow_len : ∀ (b : List (List Int)) (k : Nat), (prow k b).length = b.length
  | [], _ => rfl
  | x :: b, k => by rw [prow, List.length_cons, List.length_cons, prow_len b (k + 1)]
theorem rows_loop {fs : List Fn} {m n : Nat} {b : List (List Int)} (g : GB m n b) (q : Sx) {c : IE} (hc : ∀ (i : Nat) (a b d e : Option SV), runE fs c [a, b, some (.val (.int (i : Int))), d, e] q = some (.bool (decide ((i : Int) % 2 = 0)), [a, b, some (.val (.int (i : Int))), d, e], q)) :
    runSs fs (.cons (.own 1 (.lst .nil)) (.cons (.for_ (.tp (.cons (.nm 2) (.cons (.nm 3) .nil))) (.enum (.var 0)) (.cons (.set (.nm 4) (.fn .sorted (.cons (.var 3) .nil))) (.cons (.app 1 (.fn .tuple (.cons (.ite c (.var 4) (.rv (.var 4))) .nil))) .nil))) (.cons (.ret (.fn .tuple (.cons (.var 1) .nil))) .nil))) [some (.val (enB b)), none, none, none, none] q = some (.rt (enB (prow 0 b)) q) := by
  refine s_nx (s_own (show runK fs (.lst .nil) _ q = some ([], _, q) from rfl)) ?_
  obtain ⟨ρ', q', e, y, z, w, rfl, rfl⟩ := s_for (fs := fs) (ρ := [some (.val (enB b)), some (.own (.list [])), none, none, none]) (q := q) (tg := .tp (.cons (.nm 2) (.cons (.nm 3) .nil))) (it := .enum (.var 0))
    (body := .cons (.set (.nm 4) (.fn .sorted (.cons (.var 3) .nil))) (.cons (.app 1 (.fn .tuple (.cons (.ite c (.var 4) (.rv (.var 4))) .nil))) .nil))
    (fun i ρ q' => ∃ y z w, ρ = [some (.val (enB b)), some (.own (.list ((prow 0 (b.take i)).map enT))), y, z, w] ∧ q' = q) (i_enumT (e_var rfl)) ⟨none, none, none, rfl, rfl⟩ (fun i d ρ q' hd hI => by
      obtain ⟨y, z, w, rfl, rfl⟩ := hI
      obtain ⟨l, hl, rfl⟩ := enum_enB hd
      have hlen : ((prow 0 (b.take i)).map enT).length < 1000000 := by
        rw [List.length_map, prow_len, take_le hl]
        have := (List.getElem?_eq_some_iff.mp hl).1
        have h1 := g.len; have h2 := g.m8
        omega
      refine ⟨[some (.val (enB b)), some (.own (.list ((prow 0 (b.take i)).map enT))), some (.val (.int (i : Nat))), some (.val (enT l)), w], _, _, rfl,
        s_nx (s_set (ρ2 := [some (.val (enB b)), some (.own (.list ((prow 0 (b.take i)).map enT))), some (.val (.int (i : Nat))), some (.val (enT l)), some (.val (enL (srt l)))]) (e_fn (l_cons (e_var rfl) l_nil) v_sortT) rfl)
        (s_nx (s_app (ds := (prow 0 (b.take i)).map enT) rfl (e_fn (l_cons (e_turnL (k := i) (l := srt l) (hc i _ _ _ _) rfl) l_nil) (show tupleS [enL (turn i (srt l))] = some (enT (turn i (srt l))) from rfl)) rfl hlen) s_nil), some (.val (.int (i : Nat))), some (.val (enT l)), some (.val (enL (srt l))), ?_, rfl⟩
      have e2 : (prow 0 (b.take i)).map enT ++ [enT (turn i (srt l))] = (prow 0 (b.take (i + 1))).map enT := by
        rw [take_next hl, prow_app, take_le hl, List.map_append, Nat.zero_add]
        rfl
      rw [e2]
      rfl)
  refine s_nx e (s_retL (e_fn (l_cons (e_own rfl) l_nil) ?_))
  have hb : b.take (enumD (b.map enT)).length = b := by
    apply List.take_of_length_le
    simp [enumD]
  rw [hb]
  rfl
theorem row_phase_eq {m n : Nat} {b : List (List Int)} (g : GB m n b) (q : Sx) : F_row_phase [enB b] q = some (enB (prow 0 b), q) := by
  refine fn_rt ?_
  exact rows_loop g q fun i a b d e => c_even rfl
theorem z_rows_eq {m n : Nat} {b : List (List Int)} (g : GB m n b) (q : Sx) : F_z_rows [enB b] q = some (enB (prow 0 b), q) := by
  refine fn_rt ?_
  exact rows_loop g q fun i a b d e => c_evenI rfl
theorem rows_up_eq {m n : Nat} {b : List (List Int)} (g : GB m n b) (q : Sx) : F_rows_up [enB b] q = some (enB (b.map srt), q) := by
  refine fn_rt ?_
  unfold ir_rows_up
  refine s_retL (e_fn (xs := [.list (b.map fun l => enT (srt l))]) (l_cons (e_map (xs := b) (en := enT) (i_tup (e_var rfl)) (fun y hy => ⟨_, rfl, rfl, e_fn (l_cons (e_fn (l_cons (e_var rfl) l_nil) v_sortT) l_nil) rfl⟩) rfl) l_nil) ?_)
  rw [enB, List.map_map]
  rfl
end Sb

set_option Elab.async false
set_option autoImplicit false
set_option linter.all false
set_option maxRecDepth 100000
set_option maxHeartbeats 4000000
namespace Sb
open PySem PySem.Spec PyProof.Rows L2
theorem GB.cons {m n : Nat} {b : List (List Int)} (g : GB m n b) : ∃ l r, b = l :: r ∧ l.length = n := by
  cases b with
  | nil => have := g.len; have h := g.m1; simp at this; omega
  | cons l r => exact ⟨l, r, rfl, g.row l List.mem_cons_self⟩
def colAt (b : List (List Int)) (c : Nat) : List Int := b.map fun l => l.getD c 0
def colsOf (n : Nat) (b : List (List Int)) : List (List Int) := (List.range n).map (colAt b)
def colP (n : Nat) (b : List (List Int)) : List (List Int) := (List.range b.length).map fun r => (colsOf n b).map fun col => (srt col).getD r 0
theorem get_int {l : List Int} {c : Nat} (h : c < l.length) : (l.map PyData.int)[c]? = some (.int (l.getD c 0)) := by
  rw [List.getElem?_map, List.getElem?_eq_getElem h, List.getD_eq_getElem?_getD, List.getElem?_eq_getElem h]
  rfl
theorem len_b0 {fs : List Fn} {m n : Nat} {b : List (List Int)} (g : GB m n b) {ρ : Ev} {q : Sx} (h : ρ[0]? = some (some (.val (enB b)))) : runE fs (.fn .len (.cons (.ix (.var 0) (.cst (.int 0))) .nil)) ρ q = some (.int (n : Int), ρ, q) := by
  obtain ⟨l, r, rfl, hl⟩ := g.cons
  refine e_fn (l_cons (e_ix (e_var h) e_cst v_ix0) l_nil) ?_
  show lenS [enT l] = _
  unfold lenS
  simp [enT, hl]
theorem len_b {fs : List Fn} {m n : Nat} {b : List (List Int)} (g : GB m n b) {ρ : Ev} {q : Sx} (h : ρ[0]? = some (some (.val (enB b)))) : runE fs (.fn .len (.cons (.var 0) .nil)) ρ q = some (.int (b.length : Int), ρ, q) := by
  refine e_fn (l_cons (e_var h) l_nil) ?_
  show lenS [enB b] = _
  unfold lenS
  simp [enB]
theorem col_int {b : List (List Int)} {c : Nat} : (b.map fun l => PyData.int (l.getD c 0)) = (colAt b c).map PyData.int := by
  unfold colAt
  rw [List.map_map]
  rfl
theorem columns_of_eq {m n : Nat} {b : List (List Int)} (g : GB m n b) (q : Sx) : F_columns_of [enB b] q = some (.list ((colsOf n b).map enL), q) := by
  refine fn_rt ?_
  unfold ir_columns_of
  have e : (colsOf n b).map enL = (List.range n).map fun c => enL (colAt b c) := by unfold colsOf; rw [List.map_map]; rfl
  rw [e]
  refine s_retL (e_map (xs := List.range n) (en := fun (k : Nat) => .int (k : Int)) (g := fun c => enL (colAt b c)) (i_rg (len_b0 g rfl) (by have := g.n8; omega)) (fun c hc => ⟨_, rfl, rfl, ?_⟩) rfl)
  have hc := List.mem_range.mp hc
  rw [enL, ← col_int]
  refine e_map (xs := b) (en := enT) (i_tup (e_var rfl)) (fun l hl => ⟨_, rfl, rfl, e_ix (e_var rfl) (e_var rfl) (v_ixT (get_int (by rw [g.row l hl]; exact hc)))⟩) rfl
theorem col_len {b : List (List Int)} {c : Nat} : (colAt b c).length = b.length := by simp [colAt]
/-- the last part of both: read off by rows -/
theorem cols_back {fs : List Fn} {m n : Nat} {b : List (List Int)} (g : GB m n b) (q : Sx) {i : Nat} {own1 : List (Str × Nat)} {e1 : IE}
    {ρ : Ev} (he : ∀ r, r < b.length → ∃ ρ2, asg (.nm i) (.int (r : Int)) (wipeE ρ (os own1)) = some ρ2 ∧ wipeE ρ2 (os own1) = wipeE ρ (os own1) ∧ runE fs e1 ρ2 q = some (.list ((colsOf n b).map fun col => .int ((srt col).getD r 0)), ρ2, q))
    (h0 : ρ[0]? = some (some (.val (enB b)))) (hb : backE ρ (wipeE ρ (os own1)) (os own1) = ρ) :
    runSs fs (.cons (.ret (.fn .tuple (.cons (.comp own1 (.nm i) (.rg .none (.fn .len (.cons (.var 0) .nil))) .none (.fn .tuple (.cons e1 .nil))) .nil))) .nil) ρ q = some (.rt (enB (colP n b)) q) := by
  have e : (colP n b).map enT = (List.range b.length).map fun r => enT ((colsOf n b).map fun col => (srt col).getD r 0) := by unfold colP; rw [List.map_map]; rfl
  have key : runE fs (.comp own1 (.nm i) (.rg .none (.fn .len (.cons (.var 0) .nil))) .none (.fn .tuple (.cons e1 .nil))) ρ q = some (.list ((colP n b).map enT), ρ, q) := by
    rw [e]
    refine e_map (xs := List.range b.length) (en := fun (k : Nat) => .int (k : Int)) (g := fun r => enT ((colsOf n b).map fun col => (srt col).getD r 0)) (i_rg (len_b g h0) (by have := g.m8; have := g.len; omega)) (fun r hr => ?_) hb
    obtain ⟨ρ2, k1, k2, k3⟩ := he r (List.mem_range.mp hr)
    refine ⟨ρ2, k1, k2, e_fn (l_cons k3 l_nil) ?_⟩
    show some (PyData.tuple ((colsOf n b).map fun col => PyData.int ((srt col).getD r 0))) = some (.tuple (((colsOf n b).map fun col => (srt col).getD r 0).map PyData.int))
    rw [List.map_map]
    rfl
  exact s_retL (e_fn (l_cons key l_nil) rfl)
theorem srt_at {n : Nat} {b : List (List Int)} {r : Nat} (hr : r < b.length) {col : List Int} (hc : col ∈ colsOf n b) : ((srt col).map PyData.int)[r]? = some (.int ((srt col).getD r 0)) := by
  obtain ⟨c, _, rfl⟩ := List.mem_map.mp hc
  exact get_int (by rw [srt_len, col_len]; exact hr)
theorem column_phase_eq {m n : Nat} {b : List (List Int)} (g : GB m n b) (q : Sx) : F_column_phase [enB b] q = some (enB (colP n b), q) := by
  refine fn_rt ?_
  unfold ir_column_phase
  refine s_nx (s_set (ρ2 := [some (.val (enB b)), some (.val (.list ((colsOf n b).map fun col => enL (srt col)))), none, none, none]) (e_map (xs := colsOf n b) (en := enL) (i_lst (e_call (l_cons (e_var rfl) l_nil) (columns_of_eq g q))) (fun col hc => ⟨_, rfl, rfl, e_fn (l_cons (e_var rfl) l_nil) v_sortL⟩) rfl) rfl) ?_
  refine cols_back g q (fun r hr => ⟨_, rfl, rfl, ?_⟩) rfl rfl
  exact e_map (xs := colsOf n b) (en := fun col => enL (srt col)) (i_lst (e_var rfl)) (fun col hc => ⟨_, rfl, rfl, e_ix (e_var rfl) (e_var rfl) (v_ixL (srt_at hr hc))⟩) rfl
theorem z_columns_eq {m n : Nat} {b : List (List Int)} (g : GB m n b) (q : Sx) : F_z_columns [enB b] q = some (enB (colP n b), q) := by
  refine fn_rt ?_
  unfold ir_z_columns
  have e : (colsOf n b).map (fun col => enL (srt col)) = (List.range n).map fun c => enL (srt (colAt b c)) := by unfold colsOf; rw [List.map_map]; rfl
  refine s_nx (q1 := q) (s_set (ρ1 := [some (.val (enB b)), none, none, none, none, none]) (ρ2 := [some (.val (enB b)), some (.val (.list ((colsOf n b).map fun col => enL (srt col)))), none, none, none, none]) (d := .list ((colsOf n b).map fun col => enL (srt col))) ?_ rfl) ?_
  · rw [e]
    refine e_map (xs := List.range n) (en := fun (k : Nat) => .int (k : Int)) (i_rg (len_b0 g rfl) (by have := g.n8; omega)) (fun c hc => ⟨_, rfl, rfl, e_fn (xs := [.list ((colAt b c).map .int)]) (l_cons ?_ l_nil) v_sortL⟩) rfl
    rw [← col_int]
    exact e_map (xs := b) (en := enT) (i_tup (e_var rfl)) (fun l hl => ⟨_, rfl, rfl, e_ix (e_var rfl) (e_var rfl) (v_ixT (get_int (by rw [g.row l hl]; exact List.mem_range.mp hc)))⟩) rfl
  · refine cols_back g q (fun r hr => ⟨_, rfl, rfl, ?_⟩) rfl rfl
    exact e_map (xs := colsOf n b) (en := fun col => enL (srt col)) (i_lst (e_var rfl)) (fun col hc => ⟨_, rfl, rfl, e_ix (e_var rfl) (e_var rfl) (v_ixL (srt_at hr hc))⟩) rfl

/-! ### up -/
def upB (l : List Int) : Bool := (List.range (l.length - 1)).all fun k => decide (l.getD k 0 ≤ l.getD (k + 1) 0)
theorem up_run {fs : List Fn} {own : List (Str × Nat)} {l : List Int} (hl : l.length ≤ 1000) {ρ : Ev} {q : Sx} {i j : Nat} {D : PyData} (hD : D = enT l ∨ D = enL l) (h0 : ρ[i]? = some (some (.val D))) (ho : os own = [j]) (hij : i ≠ j) (hj : j < ρ.length) (hb : backE ρ (wipeE ρ [j]) [j] = ρ) :
    runE fs (.fn .all (.cons (.comp own (.nm j) (.rg (.some (.cst (.int 1))) (.fn .len (.cons (.var i) .nil))) .none (.cmp .le (.ix (.var i) (.bin .sub (.var j) (.cst (.int 1)))) (.ix (.var i) (.var j)))) .nil)) ρ q = some (.bool (upB l), ρ, q) := by
  have hlen : runE fs (.fn .len (.cons (.var i) .nil)) ρ q = some (.int (l.length : Int), ρ, q) := by
    refine e_fn (l_cons (e_var h0) l_nil) ?_
    rcases hD with rfl | rfl
    · show lenS [enT l] = _
      unfold lenS
      simp [enT]
    · show lenS [enL l] = _
      unfold lenS
      simp [enL]
  have hit : runI fs (.rg (.some (.cst (.int 1))) (.fn .len (.cons (.var i) .nil))) ρ q = some ((List.range (l.length - 1)).map (fun (k : Nat) => .int (1 + (k : Int))), ρ, q) := by
    have h := i_rg2 (fs := fs) (a := .cst (.int 1)) (lo := 1) e_cst hlen (by omega)
    rw [h, show ((l.length : Int) - 1).toNat = l.length - 1 by omega]
    rfl
  have key : runE fs (.comp own (.nm j) (.rg (.some (.cst (.int 1))) (.fn .len (.cons (.var i) .nil))) .none (.cmp .le (.ix (.var i) (.bin .sub (.var j) (.cst (.int 1)))) (.ix (.var i) (.var j)))) ρ q = some (.list ((List.range (l.length - 1)).map fun k => .bool (decide (l.getD k 0 ≤ l.getD (k + 1) 0))), ρ, q) := by
    refine e_map (xs := List.range (l.length - 1)) (en := fun (k : Nat) => .int (1 + (k : Int))) hit (fun k hk => ?_) (by rw [ho]; exact hb)
    have hk := List.mem_range.mp hk
    rw [ho]
    have w0 : (wipeE ρ [j])[i]? = some (some (.val D)) := by
      show (ρ.set j none)[i]? = _
      rw [List.getElem?_set_ne (Ne.symm hij)]; exact h0
    refine ⟨(wipeE ρ [j]).set j (some (.val (.int (1 + (k : Int))))), rfl, ?_, ?_⟩
    · show ((ρ.set j none).set j _).set j none = ρ.set j none
      rw [List.set_set, List.set_set]
    · have v1 : ((wipeE ρ [j]).set j (some (.val (.int (1 + (k : Int))))))[i]? = some (some (.val D)) := by rw [List.getElem?_set_ne (Ne.symm hij)]; exact w0
      have v2 : ((wipeE ρ [j]).set j (some (SV.val (.int (1 + (k : Int))))))[j]? = some (some (.val (.int (1 + (k : Int))))) := by
        rw [List.getElem?_set_self]
        rw [wipeE_length]; exact hj
      have x1 : ixS D (.int (1 + (k : Int) - 1)) = some (.int (l.getD k 0)) := by
        rw [show (1 + (k : Int) - 1) = (k : Int) by omega]
        rcases hD with rfl | rfl
        · exact v_ixT (get_int (by omega))
        · exact v_ixL (get_int (by omega))
      have x2 : ixS D (.int (1 + (k : Int))) = some (.int (l.getD (k + 1) 0)) := by
        rw [show (1 + (k : Int)) = ((k + 1 : Nat) : Int) by omega]
        rcases hD with rfl | rfl
        · exact v_ixT (get_int (by omega))
        · exact v_ixL (get_int (by omega))
      exact e_cmp (e_ix (e_var v1) (e_bin (e_var v2) e_cst rfl) x1) (e_ix (e_var v1) (e_var v2) x2) rfl
  exact e_fn (l_cons key l_nil) v_all
theorem is_up_eqT {l : List Int} (hl : l.length ≤ 1000) (q : Sx) : F_is_up [enT l] q = some (.bool (upB l), q) := fn_rt (s_retL (up_run hl (.inl rfl) rfl rfl (by decide) (by show 1 < 2; decide) rfl))
theorem is_up_eqL {l : List Int} (hl : l.length ≤ 1000) (q : Sx) : F_is_up [enL l] q = some (.bool (upB l), q) := fn_rt (s_retL (up_run hl (.inr rfl) rfl rfl (by decide) (by show 1 < 2; decide) rfl))
theorem snk_le {m n : Nat} {b : List (List Int)} (g : GB m n b) : (snk 0 b).length ≤ 64 := by
  rw [snk_len g.row, g.len]
  exact Nat.le_trans (Nat.mul_le_mul g.m8 g.n8) (by decide)
theorem is_snake_sorted_eq {m n : Nat} {b : List (List Int)} (g : GB m n b) (q : Sx) : F_is_snake_sorted [enB b] q = some (.bool (upB (snk 0 b)), q) := by
  refine fn_rt ?_
  unfold ir_is_snake_sorted
  refine s_nx (s_set (ρ2 := [some (.val (enB b)), some (.val (enT (snk 0 b))), none]) (e_call (l_cons (e_var rfl) l_nil) (snake_row_eq g q)) rfl) (s_retL (up_run (l := snk 0 b) (by have := snk_le g; omega) (.inl rfl) rfl rfl (by decide) (by show 2 < 3; decide) rfl))
def bothB (n : Nat) (b : List (List Int)) : Bool := b.all upB && (colsOf n b).all upB
theorem is_sorted_both_eq {m n : Nat} {b : List (List Int)} (g : GB m n b) (q : Sx) : F_is_sorted_both [enB b] q = some (.bool (bothB n b), q) := by
  refine fn_rt ?_
  unfold ir_is_sorted_both
  refine s_retL (e_an' ?_ fun _ => e_one ?_)
  · exact e_fn (l_cons (e_map (xs := b) (en := enT) (i_tup (e_var rfl)) (fun l hl => ⟨_, rfl, rfl, e_call (l_cons (e_var rfl) l_nil) (is_up_eqT (by rw [g.row l hl]; have := g.n8; omega) q)⟩) rfl) l_nil) v_all
  · refine e_fn (l_cons (e_map (xs := colsOf n b) (en := enL) (i_lst (e_call (l_cons (e_var rfl) l_nil) (columns_of_eq g q))) (fun col hc => ⟨_, rfl, rfl, e_call (l_cons (e_var rfl) l_nil) (is_up_eqL ?_ q)⟩) rfl) l_nil) v_all
    obtain ⟨c, _, rfl⟩ := List.mem_map.mp hc
    rw [col_len, g.len]
    have := g.m8
    omega
end Sb

set_option Elab.async false
set_option autoImplicit false
set_option linter.all false
set_option maxRecDepth 100000
set_option maxHeartbeats 4000000
namespace Sb
open PySem PySem.Spec PyProof.Rows L2
/-! ### boards made of boards -/
theorem GB.up {m n : Nat} {b : List (List Int)} (g : GB m n b) : GB m n (b.map srt) := by
  refine ⟨g.m1, g.m8, g.n1, g.n8, by rw [List.length_map]; exact g.len, fun l hl => ?_, fun l hl x hx => ?_⟩
  · obtain ⟨l0, h0, rfl⟩ := List.mem_map.mp hl
    rw [srt_len]; exact g.row l0 h0
  · obtain ⟨l0, h0, rfl⟩ := List.mem_map.mp hl
    exact g.ent l0 h0 x (srt_mem.mp hx)
theorem mem_turn {k : Nat} {l : List Int} {x : Int} : x ∈ turn k l ↔ x ∈ l := by unfold turn; split <;> simp
theorem mem_prow : ∀ {b : List (List Int)} {k : Nat} {l : List Int}, l ∈ prow k b → ∃ l0 ∈ b, ∃ j, l = turn j (srt l0)
  | [], _, _, h => by cases h
  | x :: b, k, l, h => by
    rw [prow] at h
    rcases List.mem_cons.mp h with rfl | h
    · exact ⟨x, List.mem_cons_self, k, rfl⟩
    · obtain ⟨l0, h0, j, e⟩ := mem_prow h
      exact ⟨l0, List.mem_cons_of_mem _ h0, j, e⟩
theorem GB.prow {m n : Nat} {b : List (List Int)} (g : GB m n b) : GB m n (Sb.prow 0 b) := by
  refine ⟨g.m1, g.m8, g.n1, g.n8, by rw [prow_len]; exact g.len, fun l hl => ?_, fun l hl x hx => ?_⟩
  · obtain ⟨l0, h0, j, rfl⟩ := mem_prow hl
    rw [turn_len, srt_len]; exact g.row l0 h0
  · obtain ⟨l0, h0, j, rfl⟩ := mem_prow hl
    exact g.ent l0 h0 x (srt_mem.mp (mem_turn.mp hx))
theorem getD_mem {l : List Int} {i : Nat} (h : i < l.length) : l.getD i 0 ∈ l := by
  rw [List.getD_eq_getElem?_getD, List.getElem?_eq_getElem h]
  exact List.getElem_mem h
theorem GB.colP {m n : Nat} {b : List (List Int)} (g : GB m n b) : GB m n (Sb.colP n b) := by
  refine ⟨g.m1, g.m8, g.n1, g.n8, by unfold Sb.colP; rw [List.length_map, List.length_range]; exact g.len, fun l hl => ?_, fun l hl x hx => ?_⟩
  · obtain ⟨r, _, rfl⟩ := List.mem_map.mp hl
    unfold colsOf
    rw [List.length_map, List.length_map, List.length_range]
  · obtain ⟨r, hr, rfl⟩ := List.mem_map.mp hl
    obtain ⟨col, hc, rfl⟩ := List.mem_map.mp hx
    obtain ⟨c, hcn, rfl⟩ := List.mem_map.mp hc
    have hr := List.mem_range.mp hr
    have h1 := getD_mem (l := srt (colAt b c)) (i := r) (by rw [srt_len, col_len]; exact hr)
    obtain ⟨l0, h0, e⟩ := List.mem_map.mp (srt_mem.mp h1)
    rw [← e]
    exact g.ent l0 h0 _ (getD_mem (by rw [g.row l0 h0]; exact List.mem_range.mp hcn))
def shear (n : Nat) : Nat → List (List Int) → List (List Int)
  | 0, b => b
  | k + 1, b => colP n (prow 0 (shear n k b))
theorem GB.shear {m n : Nat} {b : List (List Int)} (g : GB m n b) : ∀ k, GB m n (Sb.shear n k b)
  | 0 => g
  | k + 1 => (GB.shear g k).prow.colP
theorem z_sheared_eq {m n : Nat} {b : List (List Int)} (g : GB m n b) (k : Nat) (hk : k ≤ 1000) (q : Sx) : F_z_sheared [enB b, .int (k : Int)] q = some (enB (prow 0 (shear n k b)), q) := by
  refine fn_rt ?_
  unfold ir_z_sheared
  obtain ⟨ρ', q', e, y, rfl, rfl⟩ := s_for (fs := fs_19) (ρ := [some (.val (enB b)), some (.val (.int (k : Int))), none]) (q := q) (tg := .nm 2) (it := .rg .none (.var 1))
    (body := .cons (.set (.nm 0) (.call 18 (.cons (.call 17 (.cons (.var 0) .nil)) .nil))) .nil)
    (fun i ρ q' => ∃ y, ρ = [some (.val (enB (shear n i b))), some (.val (.int (k : Int))), y] ∧ q' = q) (i_rg (n := k) (e_var rfl) (by omega)) ⟨none, rfl, rfl⟩ (fun i d ρ q' hd hI => by
      obtain ⟨y, rfl, rfl⟩ := hI
      exact ⟨[some (.val (enB (shear n i b))), some (.val (.int (k : Int))), some (.val d)], _, _, rfl, s_nx (s_set (e_call (l_cons (e_call (l_cons (e_var rfl) l_nil) (z_rows_eq (g.shear i) _)) l_nil) (z_columns_eq (g.shear i).prow _)) rfl) s_nil, some (.val d), rfl, rfl⟩)
  rw [List.length_map, List.length_range] at e
  exact s_nx e (s_retL (e_call (l_cons (e_var rfl) l_nil) (z_rows_eq (g.shear k) _)))

/-! ### places -/
theorem snake_number_eq {m n r c : Nat} (h1 : n ≤ 100) (h2 : r ≤ 100) (q : Sx) : F_snake_number [.int (m : Int), .int (n : Int), .int (r : Int), .int (c : Int)] q = some (.int ((r : Int) * n + (if r % 2 = 0 then (c : Int) else (n : Int) - 1 - c)), q) := by
  refine fn_rt ?_
  unfold ir_snake_number
  refine s_retL (e_iteP (t := decide ((r : Int) % 2 = 0)) (c_even (k := r) rfl) (fun ht => ?_) (fun ht => ?_))
  · have h := of_decide_eq_true ht
    rw [if_pos (by omega)]
    exact e_bin (e_bin (e_var rfl) (e_var rfl) (v_mul (.inl (by omega)))) (e_var rfl) rfl
  · have h := of_decide_eq_false ht
    rw [if_neg (by omega), show (r : Int) * n + ((n : Int) - 1 - c) = (r : Int) * n + n - 1 - c by omega]
    exact e_bin (e_bin (e_bin (e_bin (e_var rfl) (e_var rfl) (v_mul (.inl (by omega)))) (e_var rfl) rfl) e_cst rfl) (e_var rfl) rfl
theorem snake_place_eq {m n : Nat} {k : Int} (h1 : 1 ≤ n) (h2 : n ≤ 100) (q : Sx) : F_snake_place [.int (m : Int), .int (n : Int), .int k] q = some (.tuple [.int (k / n), .int (if (k / n) % 2 = 0 then k % n else (n : Int) - 1 - k % n)], q) := by
  refine fn_rt ?_
  unfold ir_snake_place
  refine s_nx (ρ1 := [some (.val (.int (m : Int))), some (.val (.int (n : Int))), some (.val (.int k)), some (.val (.int (k / n))), some (.val (.int (k % n)))]) (s_par (x_v (e_bin (e_var rfl) (e_var rfl) (v_div ⟨by omega, by omega⟩)) (x_v (e_bin (e_var rfl) (e_var rfl) (v_mod (by omega))) x_nil)) rfl) ?_
  have hc : runE fs_3 (.cmp .eq (.bin .mod (.var 3) (.cst (.int 2))) (.cst (.int 0))) [some (.val (.int (m : Int))), some (.val (.int (n : Int))), some (.val (.int k)), some (.val (.int (k / n))), some (.val (.int (k % n)))] q = some (.bool (decide ((k / n) % 2 = 0)), [some (.val (.int (m : Int))), some (.val (.int (n : Int))), some (.val (.int k)), some (.val (.int (k / n))), some (.val (.int (k % n)))], q) :=
    e_cmp (e_bin (e_var rfl) e_cst (v_mod (by decide))) e_cst v_eq_int
  refine s_retL (e_tup (l_cons (e_var rfl) (l_cons (x := .int (if (k / n) % 2 = 0 then k % n else (n : Int) - 1 - k % n)) (e_iteP hc (fun ht => ?_) (fun ht => ?_)) l_nil)) (by show 2 ≤ 1000000; decide))
  · rw [if_pos (of_decide_eq_true ht)]
    exact e_var rfl
  · rw [if_neg (of_decide_eq_false ht)]
    exact e_bin (e_bin (e_var rfl) e_cst rfl) (e_var rfl) rfl
theorem cut_row {n : Nat} : ∀ {b : List (List Int)} {k r : Nat} {l : List Int}, (∀ l ∈ b, l.length = n) → b[r]? = some l → ((snk k b).drop (r * n)).take n = turn (k + r) l
  | [], _, _, _, _, e => by simp at e
  | x :: b, k, 0, l, h, e => by
    simp at e
    subst e
    rw [snk, Nat.zero_mul, List.drop_zero, List.take_append_of_le_length (by rw [turn_len, h x List.mem_cons_self]; exact Nat.le_refl _), List.take_of_length_le (by rw [turn_len, h x List.mem_cons_self]; exact Nat.le_refl _)]
    rfl
  | x :: b, k, r + 1, l, h, e => by
    have hx := h x List.mem_cons_self
    rw [snk, Nat.add_mul, Nat.one_mul, show r * n + n = (turn k x).length + r * n by rw [turn_len, hx]; omega, ← List.drop_drop, List.drop_left, cut_row (b := b) (k := k + 1) (r := r) (fun l hl => h l (List.mem_cons_of_mem _ hl)) (by simpa using e), show k + 1 + r = k + (r + 1) by omega]
theorem turn_turn (k : Nat) (l : List Int) : turn k (turn k l) = l := by unfold turn; split <;> simp
end Sb

set_option Elab.async false
set_option autoImplicit false
set_option linter.all false
set_option maxRecDepth 100000
set_option maxHeartbeats 4000000
namespace Sb
open PySem PySem.Spec PyProof.Rows L2
theorem v_slT {xs : List Int} {i j : Nat} (h : i + j ≤ xs.length) : slS (enT xs) (some (i : Int)) (some ((i : Int) + (j : Int))) = some (enT ((xs.drop i).take j)) := by
  show some (PyData.tuple (cutD (xs.map .int) (some (i : Int)) (some ((i : Int) + (j : Int))))) = _
  unfold cutD
  rw [HT.sIx_nat, show (i : Int) + (j : Int) = ((i + j : Nat) : Int) by omega, HT.sIx_nat, List.length_map, Nat.min_eq_left (by omega), Nat.min_eq_left (by omega), show i + j - i = j by omega, enT, List.map_take, List.map_drop]
theorem enumD_range {f : Nat → PyData} {m : Nat} : enumD ((List.range m).map f) = (List.range m).map fun r => .tuple [.int (r : Int), f r] := by
  apply List.ext_getElem?
  intro i
  unfold enumD
  rw [List.getElem?_map, List.getElem?_zipIdx, List.getElem?_map, List.getElem?_map]
  by_cases h : i < m
  · rw [List.getElem?_range h]; simp
  · rw [List.getElem?_eq_none (by simpa using h)]; simp
theorem map_range_getD {b : List (List Int)} {f : List Int → PyData} : (List.range b.length).map (fun r => f (b.getD r [])) = b.map f := by
  apply List.ext_getElem?
  intro i
  rw [List.getElem?_map, List.getElem?_map]
  by_cases h : i < b.length
  · rw [List.getElem?_range h, List.getElem?_eq_getElem h]
    simp [List.getD_eq_getElem?_getD, List.getElem?_eq_getElem h]
  · rw [List.getElem?_eq_none (by simpa using h), List.getElem?_eq_none (by simpa using h)]
    rfl
theorem getD_some {b : List (List Int)} {r : Nat} (h : r < b.length) : b[r]? = some (b.getD r []) := by
  rw [List.getD_eq_getElem?_getD, List.getElem?_eq_getElem h]; rfl
theorem board_of_snake_eq {m n : Nat} {b : List (List Int)} (g : GB m n b) (q : Sx) : F_board_of_snake [.int (m : Int), .int (n : Int), enT (snk 0 b)] q = some (enB b, q) := by
  refine fn_rt ?_
  unfold ir_board_of_snake
  have hm8 := g.m8; have hn8 := g.n8; have hlen := g.len
  refine s_nx (ρ1 := [some (.val (.int (m : Int))), some (.val (.int (n : Int))), some (.val (enT (snk 0 b))), some (.val (.list ((List.range m).map fun r => enT (turn r (b.getD r []))))), none, none]) (q1 := q) (s_lc (ρ1 := startE 6 [.int (m : Int), .int (n : Int), enT (snk 0 b)])
    (e_map (xs := List.range m) (en := fun (k : Nat) => .int (k : Int)) (i_rg (n := m) (e_var rfl) (by omega)) (fun r hr => ⟨_, rfl, rfl, ?_⟩) rfl)) ?_
  · have hr := List.mem_range.mp hr
    have mul : BO.sem .mul (.int (r : Int)) (.int (n : Int)) = some (.int ((r * n : Nat) : Int)) := by
      rw [v_mul (.inl (by omega))]
      simp
    refine e_sl (e_var rfl) (o_some (e_bin (e_var rfl) (e_var rfl) mul)) (o_some (e_bin (e_bin (e_var rfl) (e_var rfl) mul) (e_var rfl) rfl)) ?_
    rw [v_slT (by rw [snk_len g.row, hlen, show r * n + n = (r + 1) * n by rw [Nat.add_mul]; omega]; exact Nat.mul_le_mul_right n hr), cut_row g.row (getD_some (by omega)), Nat.zero_add]
  · have key : runE fs_5 (.comp [("r", 4), ("line", 5)] (.tp (.cons (.nm 4) (.cons (.nm 5) .nil))) (.enum (.var 3)) .none (.ite (.cmp .eq (.bin .mod (.var 4) (.cst (.int 2))) (.cst (.int 0))) (.var 5) (.rv (.var 5)))) [some (.val (.int (m : Int))), some (.val (.int (n : Int))), some (.val (enT (snk 0 b))), some (.val (.list ((List.range m).map fun r => enT (turn r (b.getD r []))))), none, none] q
        = some (.list ((List.range m).map fun r => enT (turn r (turn r (b.getD r [])))), [some (.val (.int (m : Int))), some (.val (.int (n : Int))), some (.val (enT (snk 0 b))), some (.val (.list ((List.range m).map fun r => enT (turn r (b.getD r []))))), none, none], q) := by
      refine e_map (xs := List.range m) (en := fun (r : Nat) => .tuple [.int (r : Int), enT (turn r (b.getD r []))]) (by rw [← enumD_range]; exact i_enumL (e_var rfl)) (fun r hr => ⟨_, rfl, rfl, e_turn (k := r) (c_even rfl) rfl⟩) rfl
    refine s_retL (e_fn (l_cons key l_nil) ?_)
    show some (PyData.tuple ((List.range m).map fun r => enT (turn r (turn r (b.getD r []))))) = _
    rw [enB, ← map_range_getD, hlen]
    simp only [turn_turn]

/-! ### drawing -/
theorem pick_ok {most : Int} {q : Sx} (h : most < 1000000000) (ht : 0 ≤ q.turn) : ∃ r q', pickF [srcD, .int most] q = some (.int r, q') ∧ 0 ≤ r ∧ (1 ≤ most → r < most) ∧ 0 ≤ q'.turn := by
  refine ⟨(pickM most q).1, (pickM most q).2, ?_, ?_⟩
  · show (if isSrc srcD = true ∧ most < 1000000000 ∧ 0 ≤ q.turn then _ else _) = _
    rw [if_pos ⟨rfl, h, ht⟩]
  · unfold pickM
    split
    · exact ⟨Int.le_refl _, fun h => by show (0 : Int) < most; omega, ht⟩
    · split
      · exact ⟨Int.emod_nonneg _ (by omega), fun _ => Int.emod_lt_of_pos _ (by omega), by show 0 ≤ (refill q).turn; exact ht⟩
      · exact ⟨Int.emod_nonneg _ (by omega), fun _ => Int.emod_lt_of_pos _ (by omega), by show 0 ≤ q.turn + 1; omega⟩
theorem ints_of {ys : List PyData} {P : Int → Prop} (h : ∀ y ∈ ys, ∃ x, y = PyData.int x ∧ P x) : ∃ l : List Int, ys = l.map .int ∧ ∀ x ∈ l, P x := by
  induction ys with
  | nil => exact ⟨[], rfl, fun _ h => by cases h⟩
  | cons y ys ih =>
    obtain ⟨x, rfl, hx⟩ := h y List.mem_cons_self
    obtain ⟨l, rfl, hl⟩ := ih fun z hz => h z (List.mem_cons_of_mem _ hz)
    refine ⟨x :: l, rfl, fun z hz => ?_⟩
    rcases List.mem_cons.mp hz with rfl | hz
    · exact hx
    · exact hl z hz
theorem rows_of {ys : List PyData} {P : List Int → Prop} (h : ∀ y ∈ ys, ∃ x, y = enT x ∧ P x) : ∃ l : List (List Int), ys = l.map enT ∧ ∀ x ∈ l, P x := by
  induction ys with
  | nil => exact ⟨[], rfl, fun _ h => by cases h⟩
  | cons y ys ih =>
    obtain ⟨x, rfl, hx⟩ := h y List.mem_cons_self
    obtain ⟨l, rfl, hl⟩ := ih fun z hz => h z (List.mem_cons_of_mem _ hz)
    refine ⟨x :: l, rfl, fun z hz => ?_⟩
    rcases List.mem_cons.mp hz with rfl | hz
    · exact hx
    · exact hl z hz
/-- the call of the drawing -/
theorem e_pick {fs : List Fn} {ρ : Ev} {q : Sx} {e : IE} {k : Nat} {i : Nat} {most : Int} (hf : fs.getD k (fun _ _ => none) = pickF) (h0 : ρ[i]? = some (some (.val srcD))) (he : runE fs e ρ q = some (.int most, ρ, q)) (hm : most < 1000000000) (ht : 0 ≤ q.turn) :
    ∃ r q', runE fs (.call k (.cons (.var i) (.cons e .nil))) ρ q = some (.int r, ρ, q') ∧ 0 ≤ r ∧ (1 ≤ most → r < most) ∧ 0 ≤ q'.turn := by
  obtain ⟨r, q', h1, h2, h3, h4⟩ := pick_ok hm ht
  exact ⟨r, q', e_call (l_cons (e_var h0) (l_cons he l_nil)) (by rw [hf]; exact h1), h2, h3, h4⟩
theorem one_nine {many : Int} (h : many = 2 ∨ many = 4 ∨ many = 10 ∨ many = 2000) {r : Int} (h1 : 0 ≤ r) (h2 : r < many) : (r - (if 2 < many then many / 2 else 0)).natAbs ≤ 2000 := by
  rcases h with rfl | rfl | rfl | rfl
  · rw [if_neg (by omega)]; omega
  · rw [if_pos (by omega)]; omega
  · rw [if_pos (by omega)]; omega
  · rw [if_pos (by omega)]; omega
theorem z_board_eq {most wide : Nat} (h1 : 1 ≤ most) (h2 : most ≤ 8) (h3 : 1 ≤ wide) (h4 : wide ≤ 8) (q : Sx) (ht : 0 ≤ q.turn) :
    ∃ m n b q', GB m n b ∧ F_z_board [srcD, .int (most : Int), .int (wide : Int)] q = some (enB b, q') ∧ 0 ≤ q'.turn := by
  have S : startE 10 [srcD, .int (most : Int), .int (wide : Int)] = [some (.val srcD), some (.val (.int (most : Int))), some (.val (.int (wide : Int))), none, none, none, none, none, none, none] := rfl
  obtain ⟨a, q1, e1, a0, a1, t1⟩ := e_pick (fs := fs_15) (ρ := startE 10 [srcD, .int (most : Int), .int (wide : Int)]) (q := q) (e := .var 1) (k := 14) (i := 0) (most := (most : Int)) rfl rfl (e_var rfl) (by omega) ht
  obtain ⟨b, q2, e2, b0, b1, t2⟩ := e_pick (fs := fs_15) (ρ := startE 10 [srcD, .int (most : Int), .int (wide : Int)]) (q := q1) (e := .var 2) (k := 14) (i := 0) (most := (wide : Int)) rfl rfl (e_var rfl) (by omega) t1
  obtain ⟨c, q3, e3, c0, c1, t3⟩ := e_pick (fs := fs_15) (ρ := startE 10 [srcD, .int (most : Int), .int (wide : Int)]) (q := q2) (e := .cst (.int 4)) (k := 14) (i := 0) (most := 4) rfl rfl e_cst (by decide) t2
  have a2 := a1 (by omega)
  have b2 := b1 (by omega)
  obtain ⟨m, hm⟩ : ∃ m : Nat, 1 + a = (m : Int) := ⟨(1 + a).toNat, by omega⟩
  obtain ⟨n, hn⟩ : ∃ n : Nat, 1 + b = (n : Int) := ⟨(1 + b).toNat, by omega⟩
  -- how many values
  have hmany : ∃ many q4, (many = 2 ∨ many = 4 ∨ many = 10 ∨ many = 2000) ∧ 0 ≤ q4.turn ∧
      runE fs_15 (.ite (.cmp .gt (.var 7) (.cst (.int 1))) (.ix (.lst (.cons (.cst (.int 2)) (.cons (.cst (.int 4)) (.cons (.cst (.int 10)) (.cons (.cst (.int 2000)) .nil))))) (.call 14 (.cons (.var 0) (.cons (.cst (.int 4)) .nil)))) (.cst (.int 2)))
        [some (.val srcD), some (.val (.int (most : Int))), some (.val (.int (wide : Int))), none, none, some (.val (.int (m : Int))), some (.val (.int (n : Int))), some (.val (.int c)), none, none] q3 =
        some (.int many, [some (.val srcD), some (.val (.int (most : Int))), some (.val (.int (wide : Int))), none, none, some (.val (.int (m : Int))), some (.val (.int (n : Int))), some (.val (.int c)), none, none], q4) := by
    by_cases hc : 1 < c
    · obtain ⟨d, q4, e4, d0, d1, t4⟩ := e_pick (fs := fs_15) (ρ := [some (.val srcD), some (.val (.int (most : Int))), some (.val (.int (wide : Int))), none, none, some (.val (.int (m : Int))), some (.val (.int (n : Int))), some (.val (.int c)), none, none]) (q := q3) (e := .cst (.int 4)) (k := 14) (i := 0) (most := 4) rfl rfl e_cst (by decide) t3
      have d2 := d1 (by decide)
      have hx : ∃ many, (many = 2 ∨ many = 4 ∨ many = 10 ∨ many = 2000) ∧ ixS (.list [.int 2, .int 4, .int 10, .int 2000]) (.int d) = some (.int many) := by
        have : d = 0 ∨ d = 1 ∨ d = 2 ∨ d = 3 := by omega
        rcases this with rfl | rfl | rfl | rfl
        · exact ⟨2, by simp, v_ixL (i := 0) rfl⟩
        · exact ⟨4, by simp, v_ixL (i := 1) rfl⟩
        · exact ⟨10, by simp, v_ixL (i := 2) rfl⟩
        · exact ⟨2000, by simp, v_ixL (i := 3) rfl⟩
      obtain ⟨many, hmn, hix⟩ := hx
      refine ⟨many, q4, hmn, t4, e_iteT (e_cmp (e_var rfl) e_cst (show some (PyData.bool (decide (1 < c))) = _ by rw [decide_eq_true hc])) (e_ix (e_lst (l_cons e_cst (l_cons e_cst (l_cons e_cst (l_cons e_cst l_nil)))) (by show 4 ≤ 1000000; decide)) e4 hix)⟩
    · exact ⟨2, q3, .inl rfl, t3, e_iteF (e_cmp (e_var rfl) e_cst (show some (PyData.bool (decide (1 < c))) = _ by rw [decide_eq_false hc])) e_cst⟩
  obtain ⟨many, q4, hmn, t4, e4⟩ := hmany
  let R : Option SV → Ev := fun z => [some (.val srcD), some (.val (.int (most : Int))), some (.val (.int (wide : Int))), some (.val (.int many)), z, some (.val (.int (m : Int))), some (.val (.int (n : Int))), some (.val (.int c)), none, none]
  -- the drawn lines
  have hrow : ∀ (z : Option SV) (w : Int) (q : Sx), 0 ≤ q.turn → ∃ l q', runE fs_15 (.fn .tuple (.cons (.comp [("c", 9)] (.nm 9) (.rg .none (.var 6)) .none (.bin .sub (.call 14 (.cons (.var 0) (.cons (.var 3) .nil))) (.ite (.cmp .gt (.var 3) (.cst (.int 2))) (.bin .div (.var 3) (.cst (.int 2))) (.cst (.int 0))))) .nil))
      [some (.val srcD), some (.val (.int (most : Int))), some (.val (.int (wide : Int))), some (.val (.int many)), z, some (.val (.int (m : Int))), some (.val (.int (n : Int))), some (.val (.int c)), some (.val (.int w)), none] q = some (enT l, [some (.val srcD), some (.val (.int (most : Int))), some (.val (.int (wide : Int))), some (.val (.int many)), z, some (.val (.int (m : Int))), some (.val (.int (n : Int))), some (.val (.int c)), some (.val (.int w)), none], q') ∧ 0 ≤ q'.turn ∧ l.length = n ∧ ∀ x ∈ l, x.natAbs ≤ 2000 := by
    intro z w q hq
    obtain ⟨ys, q', k1, k2, k3, k4⟩ := e_draw (fs := fs_15) (own := [("c", 9)]) (tg := .nm 9) (it := .rg .none (.var 6)) (I := fun q => 0 ≤ q.turn) (P := fun y => ∃ x, y = PyData.int x ∧ x.natAbs ≤ 2000)
      (ρ := [some (.val srcD), some (.val (.int (most : Int))), some (.val (.int (wide : Int))), some (.val (.int many)), z, some (.val (.int (m : Int))), some (.val (.int (n : Int))), some (.val (.int c)), some (.val (.int w)), none]) (e := .bin .sub (.call 14 (.cons (.var 0) (.cons (.var 3) .nil))) (.ite (.cmp .gt (.var 3) (.cst (.int 2))) (.bin .div (.var 3) (.cst (.int 2))) (.cst (.int 0))))
      (i_rg (n := n) (e_var rfl) (by omega)) hq (fun d hd q hq => by
        obtain ⟨v, _, rfl⟩ := List.mem_map.mp hd
        obtain ⟨r, q', r1, r2, r3, r4⟩ := e_pick (fs := fs_15) (ρ := [some (.val srcD), some (.val (.int (most : Int))), some (.val (.int (wide : Int))), some (.val (.int many)), z, some (.val (.int (m : Int))), some (.val (.int (n : Int))), some (.val (.int c)), some (.val (.int w)), some (.val (.int (v : Int)))]) (q := q) (e := .var 3) (k := 14) (i := 0) (most := many) rfl rfl (e_var rfl) (by rcases hmn with rfl | rfl | rfl | rfl <;> decide) hq
        let ρc : Ev := [some (.val srcD), some (.val (.int (most : Int))), some (.val (.int (wide : Int))), some (.val (.int many)), z, some (.val (.int (m : Int))), some (.val (.int (n : Int))), some (.val (.int c)), some (.val (.int w)), some (.val (.int (v : Int)))]
        refine ⟨ρc, ρc, .int (r - (if 2 < many then many / 2 else 0)), q', rfl, e_bin (y := .int (if 2 < many then many / 2 else 0)) r1 ?_ rfl, rfl, r4, _, rfl, one_nine hmn r2 (r3 (by rcases hmn with rfl | rfl | rfl | rfl <;> decide))⟩
        by_cases h2 : 2 < many
        · rw [if_pos h2]
          exact e_iteT (e_cmp (e_var rfl) e_cst (show some (PyData.bool (decide (2 < many))) = _ by rw [decide_eq_true h2])) (e_bin (e_var rfl) e_cst (v_div ⟨by decide, by decide⟩))
        · rw [if_neg h2]
          exact e_iteF (e_cmp (e_var rfl) e_cst (show some (PyData.bool (decide (2 < many))) = _ by rw [decide_eq_false h2])) e_cst) rfl
    obtain ⟨l, rfl, hl⟩ := ints_of k4
    refine ⟨l, q', e_fn (l_cons k1 l_nil) rfl, k2, ?_, hl⟩
    rw [List.length_map, List.length_map, List.length_range] at k3
    exact k3
  obtain ⟨ys, q5, k1, k2, k3, k4⟩ := e_draw (fs := fs_15) (own := [("r", 8)]) (tg := .nm 8) (it := .rg .none (.var 5)) (I := fun q => 0 ≤ q.turn) (P := fun y => ∃ l, y = enT l ∧ l.length = n ∧ ∀ x ∈ l, x.natAbs ≤ 2000) (ρ := R none)
    (e := .fn .tuple (.cons (.comp [("c", 9)] (.nm 9) (.rg .none (.var 6)) .none (.bin .sub (.call 14 (.cons (.var 0) (.cons (.var 3) .nil))) (.ite (.cmp .gt (.var 3) (.cst (.int 2))) (.bin .div (.var 3) (.cst (.int 2))) (.cst (.int 0))))) .nil))
    (i_rg (n := m) (e_var rfl) (by omega)) t4 (fun d hd q hq => by
      obtain ⟨v, _, rfl⟩ := List.mem_map.mp hd
      obtain ⟨l, q', r1, r2, r3, r4⟩ := hrow none (v : Int) q hq
      exact ⟨_, _, enT l, q', rfl, r1, rfl, r2, l, rfl, r3, r4⟩) rfl
  obtain ⟨bd, rfl, hbd⟩ := rows_of k4
  have hlen : bd.length = m := by
    rw [List.length_map, List.length_map, List.length_range] at k3
    exact k3
  have g0 : GB m n bd := ⟨by omega, by omega, by omega, by omega, hlen, fun l hl => (hbd l hl).1, fun l hl => (hbd l hl).2⟩
  have start : ∀ {o : Out}, runSs fs_15 (.cons (.iff (.cmp .eq (.var 7) (.cst (.int 1))) (.cons (.lc false 4 [("r", 8)] (.nm 8) (.rg .none (.var 5)) .none (.bin .add (.bin .mul (.tup (.cons (.cst (.int 0)) .nil)) (.bin .sub (.var 6) (.cst (.int 1)))) (.tup (.cons (.cst (.int 1)) .nil)))) .nil) .nil) (.cons (.ret (.fn .tuple (.cons (.var 4) .nil))) .nil)) (R (some (.val (.list (bd.map enT))))) q5 = some o →
      runSs fs_15 ir_z_board (startE 10 [srcD, .int (most : Int), .int (wide : Int)]) q = some o := fun {o} h => by
    unfold ir_z_board
    refine s_nx (ρ1 := [some (.val srcD), some (.val (.int (most : Int))), some (.val (.int (wide : Int))), none, none, some (.val (.int (m : Int))), some (.val (.int (n : Int))), some (.val (.int c)), none, none]) (s_par (x_v (e_bin e_cst e1 (show some (PyData.int (1 + a)) = some (.int (m : Int)) by rw [hm])) (x_v (e_bin e_cst e2 (show some (PyData.int (1 + b)) = some (.int (n : Int)) by rw [hn])) (x_v e3 x_nil))) rfl) ?_
    refine s_nx (s_set e4 rfl) ?_
    exact s_nx (s_lc k1) h
  by_cases hc : c = 1
  · -- zeros and a one
    have z0 : ∀ k : Nat, k ≤ 1000 → BO.sem .mul (.tuple [.int 0]) (.int (k : Int)) = some (enT (List.replicate k 0)) := fun k hk => by
      show mulS (.tuple [.int 0]) (.int (k : Int)) = _
      unfold mulS
      simp only []
      rw [if_pos ⟨by simp, by omega⟩]
      refine congrArg (fun x => some (PyData.tuple x)) ?_
      rw [Int.toNat_natCast]
      clear hk
      induction k with
      | zero => rfl
      | succ k ih => rw [List.replicate_succ, List.replicate_succ, List.flatten_cons, ih]; rfl
    let row : List Int := List.replicate (n - 1) 0 ++ [1]
    refine ⟨m, n, List.replicate m row, q5, ⟨by omega, by omega, by omega, by omega, by simp, fun l hl => ?_, fun l hl x hx => ?_⟩, fn_rt (start (s_nx (s_iffT (e_cmp (e_var rfl) e_cst (show CO.sem .eq (.int c) (.int 1) = some (.bool true) by rw [v_eq_int, decide_eq_true hc])) (s_nx (s_lc (e_map (xs := List.range m) (en := fun (k : Nat) => .int (k : Int)) (g := fun _ => enT row) (ρ2 := R (some (.val (.list (bd.map enT))))) (i_rg (n := m) (e_var rfl) (by omega)) (fun r hr => ⟨_, rfl, rfl, ?_⟩) rfl)) s_nil)) (s_retL (e_fn (l_cons (e_var rfl) l_nil) ?_)))), k2⟩
    · rw [List.eq_of_mem_replicate hl]
      show (List.replicate (n - 1) (0 : Int) ++ [1]).length = n
      rw [List.length_append, List.length_replicate, List.length_singleton]
      omega
    · rw [List.eq_of_mem_replicate hl] at hx
      rcases List.mem_append.mp hx with hx | hx
      · rw [List.eq_of_mem_replicate hx]; decide
      · rw [List.mem_singleton.mp hx]; decide
    · refine e_bin (x := enT (List.replicate (n - 1) 0)) (e_bin (e_tup (l_cons e_cst l_nil) (by show 1 ≤ 1000000; decide)) (e_bin (e_var rfl) e_cst rfl) ?_) (e_tup (l_cons e_cst l_nil) (by show 1 ≤ 1000000; decide)) (v_addT (by simp; omega) |>.trans ?_)
      · rw [← z0 (n - 1) (by omega), show ((n - 1 : Nat) : Int) = (n : Int) - 1 by omega]
      · show some (PyData.tuple ((List.replicate (n - 1) (0 : Int)).map .int ++ [.int 1])) = some (.tuple ((List.replicate (n - 1) (0 : Int) ++ [1]).map .int))
        rw [List.map_append]
        rfl
    · show some (PyData.tuple ((List.range m).map fun _ => enT row)) = some (.tuple ((List.replicate m row).map enT))
      refine congrArg (fun x => some (PyData.tuple x)) ?_
      rw [List.map_replicate]
      apply List.ext_getElem?
      intro i
      rw [List.getElem?_map, List.getElem?_replicate]
      by_cases h : i < m
      · rw [List.getElem?_range h, if_pos h]; rfl
      · rw [List.getElem?_eq_none (by simpa using h), if_neg h]; rfl
  · exact ⟨m, n, bd, q5, g0, fn_rt (start (s_nx (s_iffF (e_cmp (e_var rfl) e_cst (show CO.sem .eq (.int c) (.int 1) = some (.bool false) by rw [v_eq_int, decide_eq_false hc])) s_nil) (s_retL (e_fn (l_cons (e_var rfl) l_nil) rfl)))), k2⟩
end Sb

set_option Elab.async false
set_option autoImplicit false
set_option linter.all false
set_option maxRecDepth 100000
set_option maxHeartbeats 4000000
namespace Sb
open PySem PySem.Spec PyProof.Rows L2
/-! ### plain mathematics -/
theorem upB_iff {l : List Int} : upB l = true ↔ l.Pairwise (· ≤ ·) := by
  unfold upB
  rw [List.all_eq_true]
  constructor
  · intro h
    have step : ∀ k, k + 1 < l.length → l.getD k 0 ≤ l.getD (k + 1) 0 := fun k hk => of_decide_eq_true (h k (List.mem_range.mpr (by omega)))
    have le : ∀ d i, i + d < l.length → l.getD i 0 ≤ l.getD (i + d) 0 := by
      intro d
      induction d with
      | zero => intro i _; exact Int.le_refl _
      | succ d ih => intro i hi; exact Int.le_trans (ih i (by omega)) (step (i + d) (by omega))
    rw [List.pairwise_iff_getElem]
    intro i j hi hj hij
    have := le (j - i) i (by omega)
    rw [show i + (j - i) = j by omega, List.getD_eq_getElem?_getD, List.getD_eq_getElem?_getD, List.getElem?_eq_getElem hi, List.getElem?_eq_getElem hj] at this
    exact this
  · intro h k hk
    have hk := List.mem_range.mp hk
    rw [List.pairwise_iff_getElem] at h
    have := h k (k + 1) (by omega) (by omega) (by omega)
    rw [List.getD_eq_getElem?_getD, List.getD_eq_getElem?_getD, List.getElem?_eq_getElem (by omega), List.getElem?_eq_getElem (by omega)]
    exact decide_eq_true this
theorem upB_srt {l : List Int} : upB l = decide (l = srt l) := by
  by_cases h : l = srt l
  · rw [decide_eq_true h]
    exact upB_iff.mpr (by rw [h]; exact srt_pw l)
  · rw [decide_eq_false h]
    cases e : upB l with
    | false => rfl
    | true => exact absurd (srt_of (upB_iff.mp e)).symm h
/-! sorted rows keep the order of the columns: insertion -/
def ins (x : Int) : List Int → List Int
  | [] => [x]
  | y :: l => if x ≤ y then x :: y :: l else y :: ins x l
def isort : List Int → List Int
  | [] => []
  | x :: l => ins x (isort l)
theorem ins_perm (x : Int) : ∀ l : List Int, (ins x l).Perm (x :: l)
  | [] => .refl _
  | y :: l => by
    unfold ins
    split
    · exact .refl _
    · exact ((ins_perm x l).cons y).trans (.swap x y l)
theorem ins_pw (x : Int) : ∀ {l : List Int}, l.Pairwise (· ≤ ·) → (ins x l).Pairwise (· ≤ ·)
  | [], _ => by simp [ins]
  | y :: l, h => by
    unfold ins
    have h1 := List.pairwise_cons.mp h
    split
    · rename_i hxy
      refine List.pairwise_cons.mpr ⟨fun z hz => ?_, h⟩
      rcases List.mem_cons.mp hz with rfl | hz
      · exact hxy
      · exact Int.le_trans hxy (h1.1 z hz)
    · rename_i hxy
      refine List.pairwise_cons.mpr ⟨fun z hz => ?_, ins_pw x h1.2⟩
      rcases List.mem_cons.mp ((ins_perm x l).mem_iff.mp hz) with rfl | hz
      · omega
      · exact h1.1 z hz
theorem isort_srt : ∀ l : List Int, srt l = isort l := by
  have perm : ∀ l : List Int, (isort l).Perm l := by
    intro l
    induction l with
    | nil => exact .refl _
    | cons x l ih => exact (ins_perm x _).trans (ih.cons x)
  have pw : ∀ l : List Int, (isort l).Pairwise (· ≤ ·) := by
    intro l
    induction l with
    | nil => exact .nil
    | cons x l ih => exact ins_pw x ih
  exact fun l => srt_eq (perm l) (pw l)
inductive Le2 : List Int → List Int → Prop
  | nil : Le2 [] []
  | cons {x y : Int} {a b : List Int} : x ≤ y → Le2 a b → Le2 (x :: a) (y :: b)
theorem Le2.ins {x y : Int} (h : x ≤ y) : ∀ {a b : List Int}, Le2 a b → a.Pairwise (· ≤ ·) → b.Pairwise (· ≤ ·) → Le2 (Sb.ins x a) (Sb.ins y b)
  | _, _, .nil, _, _ => .cons h .nil
  | x' :: a, y' :: b, .cons h' r, ha, hb => by
    have ha' := List.pairwise_cons.mp ha
    have hb' := List.pairwise_cons.mp hb
    unfold Sb.ins
    by_cases c1 : x ≤ x'
    · by_cases c2 : y ≤ y'
      · rw [if_pos c1, if_pos c2]
        exact .cons h (.cons h' r)
      · rw [if_pos c1, if_neg c2]
        refine .cons (by omega) ?_
        -- x' :: a against ins y b, y' < y
        have go : ∀ {a b : List Int} {x' y' : Int}, x' ≤ y' → Le2 a b → (x' :: a).Pairwise (· ≤ ·) → (y' :: b).Pairwise (· ≤ ·) → y' < y → Le2 (x' :: a) (Sb.ins y b) := by
          intro a
          induction a with
          | nil =>
            intro b x' y' h1 r _ _ h3
            cases r
            exact .cons (by omega) .nil
          | cons a1 a ih =>
            intro b x' y' h1 r pa pb h3
            cases r with
            | @cons _ b1 _ b h4 r =>
              have pa' := List.pairwise_cons.mp pa
              have pb' := List.pairwise_cons.mp pb
              unfold Sb.ins
              by_cases c : y ≤ b1
              · rw [if_pos c]
                exact .cons (by omega) (.cons (by omega) r)
              · rw [if_neg c]
                have h5 := pa'.1 a1 List.mem_cons_self
                exact .cons (by omega) (ih h4 r pa'.2 pb'.2 (by omega))
        exact go h' r ha hb (by omega)
    · by_cases c2 : y ≤ y'
      · rw [if_neg c1, if_pos c2]
        refine .cons (by omega) ?_
        have go : ∀ {a b : List Int} {x' y' : Int}, x' ≤ y' → Le2 a b → (x' :: a).Pairwise (· ≤ ·) → (y' :: b).Pairwise (· ≤ ·) → x' < x → x ≤ y' → Le2 (Sb.ins x a) (y' :: b) := by
          intro a
          induction a with
          | nil =>
            intro b x' y' h1 r _ _ h3 h4
            cases r
            exact .cons h4 .nil
          | cons a1 a ih =>
            intro b x' y' h1 r pa pb h3 h6
            cases r with
            | @cons _ b1 _ b h4 r =>
              have pa' := List.pairwise_cons.mp pa
              have pb' := List.pairwise_cons.mp pb
              have h5 := pb'.1 b1 List.mem_cons_self
              unfold Sb.ins
              by_cases c : x ≤ a1
              · rw [if_pos c]
                exact .cons h6 (.cons h4 r)
              · rw [if_neg c]
                exact .cons (by omega) (ih h4 r pa'.2 pb'.2 (by omega) (by omega))
        exact go h' r ha hb (by omega) (by omega)
      · rw [if_neg c1, if_neg c2]
        exact .cons h' (Le2.ins h r ha'.2 hb'.2)
theorem Le2.srt {a b : List Int} (h : Le2 a b) : Le2 (Sb.srt a) (Sb.srt b) := by
  rw [isort_srt, isort_srt]
  induction h with
  | nil => exact .nil
  | cons h r ih =>
    refine Le2.ins h ih ?_ ?_
    · rw [← isort_srt]; exact srt_pw _
    · rw [← isort_srt]; exact srt_pw _
theorem Le2.get {a b : List Int} (h : Le2 a b) : ∀ i, i < a.length → a.getD i 0 ≤ b.getD i 0 := by
  induction h with
  | nil => intro i h; simp at h
  | cons h r ih =>
    intro i hi
    cases i with
    | zero => simpa using h
    | succ i => simpa using ih i (by simpa using hi)
theorem Le2.of_map {α : Type} {f g : α → Int} : ∀ {xs : List α}, (∀ x ∈ xs, f x ≤ g x) → Le2 (xs.map f) (xs.map g)
  | [], _ => .nil
  | x :: xs, h => .cons (h x List.mem_cons_self) (Le2.of_map fun y hy => h y (List.mem_cons_of_mem _ hy))
/-- columns sorted, then rows: both are sorted -/
theorem both_colP {m n : Nat} {b : List (List Int)} (g : GB m n b) : bothB n ((colP n b).map srt) = true := by
  unfold bothB
  rw [Bool.and_eq_true, List.all_eq_true, List.all_eq_true]
  refine ⟨fun l hl => ?_, fun col hc => ?_⟩
  · obtain ⟨l0, _, rfl⟩ := List.mem_map.mp hl
    exact upB_iff.mpr (srt_pw _)
  · obtain ⟨c, hcn, rfl⟩ := List.mem_map.mp hc
    have hcn := List.mem_range.mp hcn
    unfold upB
    rw [List.all_eq_true]
    intro k hk
    have hk := List.mem_range.mp hk
    have hlen : (colAt ((colP n b).map srt) c).length = b.length := by rw [col_len, List.length_map]; unfold colP; rw [List.length_map, List.length_range]
    rw [hlen] at hk
    apply decide_eq_true
    have at_ : ∀ r, r < b.length → (colAt ((colP n b).map srt) c).getD r 0 = (srt ((colsOf n b).map fun col => (srt col).getD r 0)).getD c 0 := fun r hr => by
      unfold colAt colP
      rw [List.map_map, List.map_map, List.getD_eq_getElem?_getD, List.getElem?_map, List.getElem?_range hr]
      rfl
    rw [at_ k (by omega), at_ (k + 1) (by omega)]
    refine (Le2.srt (Le2.of_map fun col hcol => ?_)).get c ?_
    · obtain ⟨c', _, rfl⟩ := List.mem_map.mp hcol
      have hp := srt_pw (colAt b c')
      rw [← upB_iff] at hp
      unfold upB at hp
      rw [List.all_eq_true] at hp
      exact of_decide_eq_true (hp k (List.mem_range.mpr (by rw [srt_len, col_len]; omega)))
    · rw [srt_len, List.length_map]
      unfold colsOf
      rw [List.length_map, List.length_range]
      exact hcn
end Sb

set_option Elab.async false
set_option autoImplicit false
set_option linter.all false
set_option maxRecDepth 100000
set_option maxHeartbeats 4000000
namespace Sb
open PySem PySem.Spec PyProof.Rows L2
def irOne : ISs := (.cons (.set (.nm 15) (.cmp .eq (.call 16 (.cons (.var 5) .nil)) (.fn .sorted (.cons (.call 16 (.cons (.var 5) .nil)) .nil)))) (.cons (.iff (.cmp .ne (.fn .repr (.cons (.call 6 (.cons (.var 5) .nil)) .nil)) (.fn .repr (.cons (.var 15) .nil))) (.cons (.ret (.cst (.bool false))) .nil) .nil) (.cons (.set (.nm 16) (.bin .add (.comp [("line", 17)] (.nm 17) (.seq (.var 5)) .none (.fn .list (.cons (.var 17) .nil))) (.comp [("x", 18)] (.nm 18) (.rg .none (.var 10)) .none (.comp [("line", 17)] (.nm 17) (.seq (.var 5)) .none (.ix (.var 17) (.var 18)))))) (.cons (.iff (.cmp .ne (.fn .repr (.cons (.call 12 (.cons (.var 5) .nil)) .nil)) (.fn .repr (.cons (.cmp .eq (.comp [("line", 17)] (.nm 17) (.seq (.var 16)) (.some (.cmp .ne (.var 17) (.fn .sorted (.cons (.var 17) .nil)))) (.var 17)) (.lst .nil)) .nil))) (.cons (.ret (.cst (.bool false))) .nil) .nil) .nil))))
def irVal : ISs := (.cons (.set (.nm 15) (.an (.isa "tuple" (.var 8)) (.one (.cmp .ne (.var 8) (.tup .nil))))) (.cons (.set (.nm 15) (.an (.var 15) (.one (.cmp .eq (.comp [("line", 17)] (.nm 17) (.seq (.var 8)) (.some (.or (.nt (.isa "tuple" (.var 17))) (.one (.cmp .eq (.fn .len (.cons (.var 17) .nil)) (.cst (.int 0)))))) (.var 17)) (.lst .nil))))) (.cons (.set (.nm 15) (.an (.var 15) (.one (.cmp .eq (.comp [("line", 17)] (.nm 17) (.seq (.var 8)) (.some (.cmp .ne (.fn .len (.cons (.var 17) .nil)) (.fn .len (.cons (.ix (.var 8) (.cst (.int 0))) .nil)))) (.var 17)) (.lst .nil))))) (.cons (.iff (.var 15) (.cons (.for_ (.nm 17) (.seq (.var 8)) (.cons (.set (.nm 15) (.an (.var 15) (.one (.cmp .eq (.comp [("x", 18)] (.nm 18) (.seq (.var 17)) (.some (.or (.nt (.isa "int" (.var 18))) (.one (.isa "bool" (.var 18))))) (.var 18)) (.lst .nil))))) .nil)) .nil) .nil) (.cons (.iff (.cmp .ne (.fn .repr (.cons (.call 1 (.cons (.var 8) .nil)) .nil)) (.fn .repr (.cons (.var 15) .nil))) (.cons (.ret (.cst (.bool false))) .nil) .nil) .nil)))))
def irLap : ISs := (.cons (.set (.nm 3) (.call 15 (.cons (.var 1) (.cons (.ix (.lst (.cons (.cst (.int 2)) (.cons (.cst (.int 3)) (.cons (.cst (.int 4)) (.cons (.cst (.int 6)) (.cons (.cst (.int 8)) .nil)))))) (.var 2)) (.cons (.ix (.lst (.cons (.cst (.int 2)) (.cons (.cst (.int 3)) (.cons (.cst (.int 4)) (.cons (.cst (.int 6)) (.cons (.cst (.int 8)) .nil)))))) (.var 2)) .nil))))) (.cons (.par [9, 10, 11, 12] [.v (.fn .len (.cons (.var 3) .nil)), .v (.fn .len (.cons (.ix (.var 3) (.cst (.int 0))) .nil)), .v (.fn .repr (.cons (.var 3) .nil)), .v (.fn .tuple (.cons (.call 16 (.cons (.var 3) .nil)) .nil))]) (.cons (.iff (.or (.cmp .ne (.fn .repr (.cons (.call 4 (.cons (.var 3) .nil)) .nil)) (.fn .repr (.cons (.var 12) .nil))) (.one (.cmp .ne (.fn .repr (.cons (.call 5 (.cons (.var 9) (.cons (.var 10) (.cons (.var 12) .nil)))) .nil)) (.var 11)))) (.cons (.ret (.cst (.bool false))) .nil) .nil) (.cons (.par [13, 14] [.v (.call 14 (.cons (.var 1) (.cons (.var 9) .nil))), .v (.call 14 (.cons (.var 1) (.cons (.var 10) .nil)))]) (.cons (.set (.nm 4) (.bin .add (.bin .mul (.var 13) (.var 10)) (.ite (.cmp .eq (.bin .mod (.fn .int (.cons (.var 13) .nil)) (.cst (.int 2))) (.cst (.int 0))) (.var 14) (.bin .sub (.bin .sub (.var 10) (.cst (.int 1))) (.var 14))))) (.cons (.iff (.or (.cmp .ne (.fn .repr (.cons (.lst (.cons (.call 2 (.cons (.var 9) (.cons (.var 10) (.cons (.var 13) (.cons (.var 14) .nil))))) (.cons (.call 3 (.cons (.var 9) (.cons (.var 10) (.cons (.var 4) .nil)))) .nil))) .nil)) (.fn .repr (.cons (.lst (.cons (.var 4) (.cons (.tup (.cons (.var 13) (.cons (.var 14) .nil))) .nil))) .nil))) (.one (.cmp .ne (.ix (.var 12) (.var 4)) (.ix (.ix (.var 3) (.var 13)) (.var 14))))) (.cons (.ret (.cst (.bool false))) .nil) .nil) (.cons (.for_ (.nm 5) (.seq (.tup (.cons (.var 3) (.cons (.call 17 (.cons (.var 3) .nil)) (.cons (.call 19 (.cons (.var 3) (.cons (.cst (.int 4)) .nil))) (.cons (.fn .tuple (.cons (.comp [("line", 17)] (.nm 17) (.seq (.var 3)) .none (.fn .tuple (.cons (.fn .sorted (.cons (.var 17) .nil)) .nil))) .nil)) .nil)))))) irOne) (.cons (.iff (.cmp .ne (.fn .repr (.cons (.lst (.cons (.call 7 (.cons (.var 3) .nil)) (.cons (.call 9 (.cons (.var 3) .nil)) .nil))) .nil)) (.fn .repr (.cons (.lst (.cons (.call 17 (.cons (.var 3) .nil)) (.cons (.call 18 (.cons (.var 3) .nil)) .nil))) .nil))) (.cons (.ret (.cst (.bool false))) .nil) .nil) (.cons (.set (.nm 6) (.fn .tuple (.cons (.comp [("line", 17)] (.nm 17) (.seq (.var 3)) .none (.fn .tuple (.cons (.fn .sorted (.cons (.var 17) .nil)) .nil))) .nil))) (.cons (.iff (.or (.cmp .ne (.fn .repr (.cons (.call 10 (.cons (.var 3) .nil)) .nil)) (.fn .repr (.cons (.var 6) .nil))) (.one (.cmp .isn (.call 12 (.cons (.call 10 (.cons (.call 9 (.cons (.var 3) .nil)) .nil)) .nil)) (.cst (.bool true))))) (.cons (.ret (.cst (.bool false))) .nil) .nil) (.cons (.set (.nm 7) (.ix (.lst (.cons (.cst .none) (.cons (.tup .nil) (.cons (.tup (.cons (.tup .nil) .nil)) (.cons (.lst (.cons (.tup (.cons (.cst (.int 1)) .nil)) .nil)) (.cons (.tup (.cons (.tup (.cons (.cst (.int 1)) .nil)) (.cons (.tup (.cons (.cst (.int 1)) (.cons (.cst (.int 2)) .nil))) .nil))) (.cons (.tup (.cons (.tup (.cons (.cst (.bool true)) .nil)) .nil)) (.cons (.tup (.cons (.tup (.cons (.cst .none) .nil)) .nil)) (.cons (.cst (.int 0)) (.cons (.cst (.str ("1" : String))) (.cons (.tup (.cons (.lst (.cons (.cst (.int 1)) .nil)) .nil)) .nil))))))))))) (.call 14 (.cons (.var 1) (.cons (.cst (.int 10)) .nil))))) (.cons (.for_ (.nm 8) (.seq (.tup (.cons (.var 3) (.cons (.fn .list (.cons (.var 3) .nil)) (.cons (.var 7) (.cons (.bin .add (.var 3) (.tup (.cons (.bin .mul (.tup (.cons (.cst (.int 1)) .nil)) (.var 10)) .nil))) (.cons (.bin .add (.var 3) (.tup (.cons (.bin .mul (.tup (.cons (.cst (.int 1)) .nil)) (.bin .add (.var 10) (.cst (.int 1)))) .nil))) (.cons (.ix (.var 3) (.cst (.int 0))) .nil)))))))) irVal) (.cons (.iff (.cmp .ne (.fn .repr (.cons (.var 3) .nil)) (.var 11)) (.cons (.ret (.cst (.bool false))) .nil) .nil) .nil)))))))))))))
theorem ir_law_is : ir_law = .cons (.set (.nm 1) (.call 13 (.cons (.var 0) .nil))) (.cons (.for_ (.nm 2) (.rg .none (.cst (.int 5))) irLap) (.cons (.ret (.cst (.bool true))) .nil)) := rfl
def Vs (y : Option SV) : Prop := ∀ d, y ≠ some (.own d)
theorem Vs.none : Vs none := fun d h => by cases h
theorem Vs.val {d : PyData} : Vs (some (.val d)) := fun e h => by cases h
theorem back1 {ρ : Ev} {j : Nat} {y : Option SV} (h : ρ[j]? = some y) (hy : Vs y) : backE ρ (wipeE ρ [j]) [j] = ρ := by
  show ((ρ.set j none).set j (match ρ[j]? with | some (some (.val d)) => some (.val d) | _ => none)) = ρ
  rw [h, List.set_set]
  have e : (match some y with | some (some (SV.val d)) => some (SV.val d) | _ => none) = y := by
    cases y with
    | none => rfl
    | some s =>
      cases s with
      | val d => rfl
      | own d => exact absurd rfl (hy d)
  rw [e]
  apply List.ext_getElem?
  intro i
  by_cases hi : j = i
  · subst hi
    rw [h, List.getElem?_set_self (List.getElem?_eq_some_iff.mp h).1]
  · rw [List.getElem?_set_ne hi]
theorem both_filter {n : Nat} {o : List (List Int)} : bothB n o = (((o ++ colsOf n o).filter fun l => !decide (l = srt l)).map enL).isEmpty := by
  unfold bothB
  rw [List.isEmpty_map, ← List.all_append]
  have key : ∀ xs : List (List Int), xs.all upB = (xs.filter fun l => !decide (l = srt l)).isEmpty := by
    intro xs
    induction xs with
    | nil => rfl
    | cons l xs ih =>
      rw [List.all_cons, ih, upB_srt, List.filter_cons]
      by_cases h : l = srt l
      · rw [decide_eq_true h]; rfl
      · rw [decide_eq_false h]; rfl
  exact key _
section
variable {a0 a1 a2 a3 a4 a5 a6 a7 a8 a9 a10 a11 a12 a13 a14 a15 a16 a17 a18 : Option SV} {q : Sx}
theorem one_ok {m n : Nat} {o : List (List Int)} (g : GB m n o) (h17 : Vs a17) (h18 : Vs a18) :
    runSs fs_20 irOne [a0, a1, a2, a3, a4, some (.val (enB o)), a6, a7, a8, a9, some (.val (.int (n : Int))), a11, a12, a13, a14, a15, a16, a17, a18] q =
      some (.nx [a0, a1, a2, a3, a4, some (.val (enB o)), a6, a7, a8, a9, some (.val (.int (n : Int))), a11, a12, a13, a14, some (.val (.bool (upB (snk 0 o)))), some (.val (.list ((o ++ colsOf n o).map enL))), a17, a18] q) := by
  have hn8 := g.n8
  unfold irOne
  refine s_nx (ρ1 := [a0, a1, a2, a3, a4, some (.val (enB o)), a6, a7, a8, a9, some (.val (.int (n : Int))), a11, a12, a13, a14, some (.val (.bool (upB (snk 0 o)))), a16, a17, a18]) (q1 := q) (s_set (d := .bool (upB (snk 0 o))) (e_cmp (e_call (l_cons (e_var rfl) l_nil) (z_snake_eq g q)) (e_fn (l_cons (e_call (l_cons (e_var rfl) l_nil) (z_snake_eq g q)) l_nil) v_sortL) ?_) rfl) ?_
  · rw [v_eqL, upB_srt]
  refine s_nx (s_iffF (e_alike (d := .bool (upB (snk 0 o))) (n := 0) (c := 1) (e_call (l_cons (e_var rfl) l_nil) (is_snake_sorted_eq g q)) (e_var rfl) Sm.bool (by decide) (by decide)) s_nil) ?_
  have c2 : runE fs_20 (.comp [("x", 18)] (.nm 18) (.rg .none (.var 10)) .none (.comp [("line", 17)] (.nm 17) (.seq (.var 5)) .none (.ix (.var 17) (.var 18)))) [a0, a1, a2, a3, a4, some (.val (enB o)), a6, a7, a8, a9, some (.val (.int (n : Int))), a11, a12, a13, a14, some (.val (.bool (upB (snk 0 o)))), a16, a17, a18] q =
      some (.list ((colsOf n o).map enL), [a0, a1, a2, a3, a4, some (.val (enB o)), a6, a7, a8, a9, some (.val (.int (n : Int))), a11, a12, a13, a14, some (.val (.bool (upB (snk 0 o)))), a16, a17, a18], q) := by
    have e : (colsOf n o).map enL = (List.range n).map fun c => enL (colAt o c) := by unfold colsOf; rw [List.map_map]; rfl
    rw [e]
    refine e_map (xs := List.range n) (en := fun (k : Nat) => .int (k : Int)) (i_rg (n := n) (e_var rfl) (by omega)) (fun c hc => ⟨_, rfl, rfl, ?_⟩) (back1 (j := 18) rfl h18)
    rw [enL, ← col_int]
    exact e_map (xs := o) (en := enT) (i_tup (e_var rfl)) (fun l hl => ⟨_, rfl, rfl, e_ix (e_var rfl) (e_var rfl) (v_ixT (get_int (by rw [g.row l hl]; exact List.mem_range.mp hc)))⟩) (back1 (j := 17) rfl h17)
  have c3 : BO.sem .add (.list (o.map enL)) (.list ((colsOf n o).map enL)) = some (.list ((o ++ colsOf n o).map enL)) := by
    rw [v_addL, List.map_append]
    unfold colsOf
    rw [List.length_map, List.length_map, List.length_map, List.length_range, g.len]
    have := g.m8
    omega
  refine s_nx (ρ1 := [a0, a1, a2, a3, a4, some (.val (enB o)), a6, a7, a8, a9, some (.val (.int (n : Int))), a11, a12, a13, a14, some (.val (.bool (upB (snk 0 o)))), some (.val (.list ((o ++ colsOf n o).map enL))), a17, a18]) (q1 := q) (s_set (e_bin (e_map (xs := o) (en := enT) (g := enL) (i_tup (e_var rfl)) (fun l hl => ⟨_, rfl, rfl, e_fn (l_cons (e_var rfl) l_nil) rfl⟩) (back1 (j := 17) rfl h17)) c2 c3) rfl) ?_
  refine s_nx (s_iffF (e_alike (d := .bool (bothB n o)) (n := 0) (c := 1) (e_call (l_cons (e_var rfl) l_nil) (is_sorted_both_eq g q)) (e_cmp (e_filter (xs := o ++ colsOf n o) (en := enL) (g := enL) (p := fun l => !decide (l = srt l)) (i_lst (e_var rfl)) (fun l hl => ⟨_, rfl, rfl, e_cmp (e_var rfl) (e_fn (l_cons (e_var rfl) l_nil) v_sortL) v_neL, fun _ => e_var rfl⟩) (back1 (j := 17) rfl h17)) (e_lst l_nil (by decide)) ?_) Sm.bool (by decide) (by decide)) s_nil) s_nil
  rw [both_filter]
  exact v_eq_nil fun x hx => by
    obtain ⟨l, _, rfl⟩ := List.mem_map.mp hx
    exact okd_ints
end
end Sb

set_option Elab.async false
set_option autoImplicit false
set_option linter.all false
set_option maxRecDepth 100000
set_option maxHeartbeats 4000000
namespace Sb
open PySem PySem.Spec PyProof.Rows L2
theorem filter_not_empty {α : Type} {p : α → Bool} : ∀ {xs : List α}, ((xs.filter fun x => !p x).map id).isEmpty = xs.all p
  | [] => rfl
  | x :: xs => by
    rw [List.filter_cons, List.all_cons, ← filter_not_empty]
    cases p x <;> rfl
theorem plain_ne {l : PyData} (h : plainD l = true) : neTup l = true := by
  unfold plainD at h
  split at h
  · rfl
  · cases h
theorem all_imp {p r : PyData → Bool} (h : ∀ x, p x = true → r x = true) {xs : List PyData} (e : xs.all r = false) : xs.all p = false := by
  cases c : xs.all p with
  | false => rfl
  | true => rw [List.all_eq_true.mpr fun x hx => h x (List.all_eq_true.mp c x hx)] at e; cases e
section
variable {a0 a1 a2 a3 a4 a5 a6 a7 a8 a9 a10 a11 a12 a13 a14 a15 a16 a17 a18 : Option SV} {q : Sx}
/-- behind the test of a value, once due is there -/
theorem val_end {v : PyData} (h : okd 40 v = true) (rest : ISs) (hr : rest = .cons (.iff (.cmp .ne (.fn .repr (.cons (.call 1 (.cons (.var 8) .nil)) .nil)) (.fn .repr (.cons (.var 15) .nil))) (.cons (.ret (.cst (.bool false))) .nil) .nil) .nil) :
    runSs fs_20 rest [a0, a1, a2, a3, a4, a5, a6, a7, some (.val v), a9, a10, a11, a12, a13, a14, some (.val (.bool (boardD v))), a16, a17, a18] q = some (.nx [a0, a1, a2, a3, a4, a5, a6, a7, some (.val v), a9, a10, a11, a12, a13, a14, some (.val (.bool (boardD v))), a16, a17, a18] q) := by
  subst hr
  exact s_nx (s_iffF (e_alike (d := .bool (boardD v)) (n := 0) (c := 1) (e_call (l_cons (e_var rfl) l_nil) (is_board_eq v q h)) (e_var rfl) Sm.bool (by decide) (by decide)) s_nil) s_nil
/-- due is False already -/
theorem val_false {v : PyData} (h : okd 40 v = true) (hb : boardD v = false) {s1 s2 s3 : ISs} {x y z : IE} {w : ISs} {rest : ISs} (hr : rest = .cons (.iff (.cmp .ne (.fn .repr (.cons (.call 1 (.cons (.var 8) .nil)) .nil)) (.fn .repr (.cons (.var 15) .nil))) (.cons (.ret (.cst (.bool false))) .nil) .nil) .nil) :
    runSs fs_20 (.cons (.iff (.var 15) w .nil) rest) [a0, a1, a2, a3, a4, a5, a6, a7, some (.val v), a9, a10, a11, a12, a13, a14, some (.val (.bool false)), a16, a17, a18] q = some (.nx [a0, a1, a2, a3, a4, a5, a6, a7, some (.val v), a9, a10, a11, a12, a13, a14, some (.val (.bool false)), a16, a17, a18] q) := by
  have e := val_end (a0 := a0) (a1 := a1) (a2 := a2) (a3 := a3) (a4 := a4) (a5 := a5) (a6 := a6) (a7 := a7) (a9 := a9) (a10 := a10) (a11 := a11) (a12 := a12) (a13 := a13) (a14 := a14) (a16 := a16) (a17 := a17) (a18 := a18) (q := q) h rest hr
  rw [hb] at e
  exact s_nx (s_iffF (e_var rfl) s_nil) e
theorem val_ok {v : PyData} (h : okd 40 v = true) (h17 : Vs a17) (h18 : Vs a18) : ∃ b15 b17, Vs b17 ∧
    runSs fs_20 irVal [a0, a1, a2, a3, a4, a5, a6, a7, some (.val v), a9, a10, a11, a12, a13, a14, a15, a16, a17, a18] q = some (.nx [a0, a1, a2, a3, a4, a5, a6, a7, some (.val v), a9, a10, a11, a12, a13, a14, b15, a16, b17, a18] q) := by
  unfold irVal
  by_cases hn : neTup v = true
  · obtain ⟨x, xs, rfl⟩ : ∃ x xs, v = .tuple (x :: xs) := by
      unfold neTup at hn
      split at hn
      · exact ⟨_, _, rfl⟩
      · cases hn
    have hit : ∀ l ∈ x :: xs, okd 39 l = true := fun l hl => okd_items h hl
    have hB : boardD (.tuple (x :: xs)) = ((x :: xs).all plainD && (x :: xs).all fun l => decide ((lenD l : Int) = (lenD x : Int))) := rfl
    -- due1
    have d1 : runE fs_20 (.an (.isa "tuple" (.var 8)) (.one (.cmp .ne (.var 8) (.tup .nil)))) [a0, a1, a2, a3, a4, a5, a6, a7, some (.val (.tuple (x :: xs))), a9, a10, a11, a12, a13, a14, a15, a16, a17, a18] q = some (.bool true, [a0, a1, a2, a3, a4, a5, a6, a7, some (.val (.tuple (x :: xs))), a9, a10, a11, a12, a13, a14, a15, a16, a17, a18], q) :=
      e_anT (e_isa (e_var rfl) rfl) (e_one (e_cmp (e_var rfl) (e_tup l_nil (by decide)) (v_ne h rfl)))
    refine (?_ : ∃ b15 b17, Vs b17 ∧ _)
    -- due2
    have d2 : runE fs_20 (.an (.var 15) (.one (.cmp .eq (.comp [("line", 17)] (.nm 17) (.seq (.var 8)) (.some (.or (.nt (.isa "tuple" (.var 17))) (.one (.cmp .eq (.fn .len (.cons (.var 17) .nil)) (.cst (.int 0)))))) (.var 17)) (.lst .nil)))) [a0, a1, a2, a3, a4, a5, a6, a7, some (.val (.tuple (x :: xs))), a9, a10, a11, a12, a13, a14, some (.val (.bool true)), a16, a17, a18] q
        = some (.bool ((x :: xs).all neTup), [a0, a1, a2, a3, a4, a5, a6, a7, some (.val (.tuple (x :: xs))), a9, a10, a11, a12, a13, a14, some (.val (.bool true)), a16, a17, a18], q) := by
      refine e_anT (e_var rfl) (e_one (e_cmp (e_filter (xs := x :: xs) (en := id) (g := id) (p := fun l => !neTup l) (by rw [List.map_id]; exact i_tup (e_var rfl)) (fun l hl => ⟨_, rfl, rfl, ?_, fun _ => e_var rfl⟩) (back1 (j := 17) rfl h17)) (e_lst l_nil (by decide)) ?_))
      · have hl := okd_mono (hit l hl) (by decide : 39 ≤ 40)
        cases l with
        | tuple ys =>
          refine e_orF (e_ntT (e_isa (e_var rfl) rfl)) (e_one (e_cmp (e_fn (l_cons (e_var rfl) l_nil) v_lenT) e_cst (v_eq_int.trans ?_)))
          cases ys with
          | nil => rfl
          | cons y ys =>
            show some (PyData.bool (decide (((ys.length + 1 : Nat) : Int) = 0))) = some (.bool false)
            rw [decide_eq_false (by omega)]
        | dict z => cases hl
        | _ => exact e_orT (e_ntF (e_isa (e_var rfl) rfl))
      · rw [v_eq_nil fun y hy => ?_, filter_not_empty]
        rw [List.map_id] at hy
        exact hit y ((List.mem_filter.mp hy).1)
    refine (?_ : ∃ b15 b17, Vs b17 ∧ _)
    cases h2 : (x :: xs).all neTup with
    | false =>
      rw [h2] at d2
      have hb : boardD (.tuple (x :: xs)) = false := by rw [hB, all_imp (fun _ => plain_ne) h2]; rfl
      exact ⟨some (.val (.bool false)), a17, h17, s_nx (s_set d1 rfl) (s_nx (s_set d2 rfl) (s_nx (s_set (e_anF (e_var rfl)) rfl) (val_false (s1 := .nil) (s2 := .nil) (s3 := .nil) (x := .var 0) (y := .var 0) (z := .var 0) h hb rfl)))⟩
    | true =>
      rw [h2] at d2
      have tup : ∀ l ∈ x :: xs, ∃ y ys, l = .tuple (y :: ys) := fun l hl => by
        have := List.all_eq_true.mp h2 l hl
        unfold neTup at this
        split at this
        · exact ⟨_, _, rfl⟩
        · cases this
      -- due3
      have d3 : runE fs_20 (.an (.var 15) (.one (.cmp .eq (.comp [("line", 17)] (.nm 17) (.seq (.var 8)) (.some (.cmp .ne (.fn .len (.cons (.var 17) .nil)) (.fn .len (.cons (.ix (.var 8) (.cst (.int 0))) .nil)))) (.var 17)) (.lst .nil)))) [a0, a1, a2, a3, a4, a5, a6, a7, some (.val (.tuple (x :: xs))), a9, a10, a11, a12, a13, a14, some (.val (.bool true)), a16, a17, a18] q
          = some (.bool ((x :: xs).all fun l => decide ((lenD l : Int) = (lenD x : Int))), [a0, a1, a2, a3, a4, a5, a6, a7, some (.val (.tuple (x :: xs))), a9, a10, a11, a12, a13, a14, some (.val (.bool true)), a16, a17, a18], q) := by
        refine e_anT (e_var rfl) (e_one (e_cmp (e_filter (xs := x :: xs) (en := id) (g := id) (p := fun l => !decide ((lenD l : Int) = (lenD x : Int))) (by rw [List.map_id]; exact i_tup (e_var rfl)) (fun l hl => ⟨_, rfl, rfl, ?_, fun _ => e_var rfl⟩) (back1 (j := 17) rfl h17)) (e_lst l_nil (by decide)) ?_))
        · obtain ⟨y, ys, rfl⟩ := tup l hl
          obtain ⟨z, zs, rfl⟩ := tup x List.mem_cons_self
          exact e_cmp (e_fn (l_cons (e_var rfl) l_nil) v_lenT) (e_fn (l_cons (e_ix (e_var rfl) e_cst v_ix0) l_nil) v_lenT) v_ne_int
        · rw [v_eq_nil fun y hy => ?_, filter_not_empty]
          rw [List.map_id] at hy
          exact hit y ((List.mem_filter.mp hy).1)
      cases h3 : (x :: xs).all fun l => decide ((lenD l : Int) = (lenD x : Int)) with
      | false =>
        rw [h3] at d3
        have hb : boardD (.tuple (x :: xs)) = false := by rw [hB, h3, Bool.and_false]
        exact ⟨some (.val (.bool false)), a17, h17, s_nx (s_set d1 rfl) (s_nx (s_set d2 rfl) (s_nx (s_set d3 rfl) (val_false (s1 := .nil) (s2 := .nil) (s3 := .nil) (x := .var 0) (y := .var 0) (z := .var 0) h hb rfl)))⟩
      | true =>
        rw [h3] at d3
        have hb : boardD (.tuple (x :: xs)) = (x :: xs).all plainD := by rw [hB, h3, Bool.and_true]
        obtain ⟨ρ', q', e, y, hy, rfl, rfl⟩ := s_for (fs := fs_20) (ρ := [a0, a1, a2, a3, a4, a5, a6, a7, some (.val (.tuple (x :: xs))), a9, a10, a11, a12, a13, a14, some (.val (.bool true)), a16, a17, a18]) (q := q) (tg := .nm 17) (it := .seq (.var 8))
          (body := .cons (.set (.nm 15) (.an (.var 15) (.one (.cmp .eq (.comp [("x", 18)] (.nm 18) (.seq (.var 17)) (.some (.or (.nt (.isa "int" (.var 18))) (.one (.isa "bool" (.var 18))))) (.var 18)) (.lst .nil))))) .nil)
          (fun i ρ q' => ∃ y, Vs y ∧ ρ = [a0, a1, a2, a3, a4, a5, a6, a7, some (.val (.tuple (x :: xs))), a9, a10, a11, a12, a13, a14, some (.val (.bool (((x :: xs).take i).all plainD))), a16, y, a18] ∧ q' = q) (i_tup (e_var rfl)) ⟨a17, h17, rfl, rfl⟩ (fun i d ρ q' hd hI => by
            obtain ⟨y, _, rfl, rfl⟩ := hI
            have hm := List.mem_of_getElem? hd
            obtain ⟨z, zs, rfl⟩ := tup d hm
            refine ⟨[a0, a1, a2, a3, a4, a5, a6, a7, some (.val (.tuple (x :: xs))), a9, a10, a11, a12, a13, a14, some (.val (.bool (((x :: xs).take i).all plainD))), a16, some (.val (.tuple (z :: zs))), a18], _, _, rfl, s_nx (s_set (e_an' (u := (z :: zs).all isI) (e_var rfl) fun _ => e_one (e_cmp (e_filter (xs := z :: zs) (en := id) (g := id) (p := fun w => !isI w) (by rw [List.map_id]; exact i_tup (e_var rfl)) (fun w hw => ⟨_, rfl, rfl, ?_, fun _ => e_var rfl⟩) (back1 (j := 18) rfl h18)) (e_lst l_nil (by decide)) ?_)) rfl) s_nil, some (.val (.tuple (z :: zs))), Vs.val, ?_, rfl⟩
            · have hw := okd_mono (okd_items (n := 38) (hit _ hm) hw) (by decide : 38 ≤ 40)
              have e : (!isI w) = (!isIn w || isBo w) := by cases w <;> rfl
              rw [e]
              exact e_or' (e_nt (e_isa (e_var rfl) (v_isa_int hw))) fun _ => e_one (e_isa (e_var rfl) (v_isa_bool hw))
            · rw [v_eq_nil fun y hy => ?_, filter_not_empty]
              rw [List.map_id] at hy
              exact okd_mono (okd_items (n := 38) (hit _ hm) ((List.mem_filter.mp hy).1)) (by decide)
            · rw [take_next hd, List.all_append]
              have e : ([PyData.tuple (z :: zs)].all plainD) = (z :: zs).all isI := by
                show (plainD (.tuple (z :: zs)) && true) = _
                rw [Bool.and_true]
                rfl
              rw [e]
              rfl)
        rw [List.take_length, ← hb] at e
        exact ⟨_, y, hy, s_nx (s_set d1 rfl) (s_nx (s_set d2 rfl) (s_nx (s_set d3 rfl) (s_nx (s_iffT (e_var rfl) (s_nx e s_nil)) (val_end h _ rfl))))⟩
  · have hn : neTup v = false := by simpa using hn
    have hb : boardD v = false := by
      unfold boardD
      split
      · cases hn
      · rfl
    refine ⟨some (.val (.bool false)), a17, h17, s_nx (ρ1 := [a0, a1, a2, a3, a4, a5, a6, a7, some (.val v), a9, a10, a11, a12, a13, a14, some (.val (.bool false)), a16, a17, a18]) (q1 := q) (s_set (d := .bool false) (ρ1 := [a0, a1, a2, a3, a4, a5, a6, a7, some (.val v), a9, a10, a11, a12, a13, a14, a15, a16, a17, a18]) ?_ rfl) (s_nx (s_set (e_anF (e_var rfl)) rfl) (s_nx (s_set (e_anF (e_var rfl)) rfl) (val_false (s1 := .nil) (s2 := .nil) (s3 := .nil) (x := .var 0) (y := .var 0) (z := .var 0) h hb rfl)))⟩
    cases v with
    | tuple ys =>
      cases ys with
      | nil => exact e_anT (e_isa (e_var rfl) rfl) (e_one (e_cmp (e_var rfl) (e_tup l_nil (by decide)) (v_ne h rfl)))
      | cons y ys => cases hn
    | dict z => cases h
    | _ => exact e_anF (e_isa (e_var rfl) rfl)
end
end Sb

set_option Elab.async false
set_option autoImplicit false
set_option linter.all false
set_option maxRecDepth 100000
set_option maxHeartbeats 4000000
namespace Sb
open PySem PySem.Spec PyProof.Rows L2
def lapS0 : IS := .set (.nm 3) (.call 15 (.cons (.var 1) (.cons (.ix (.lst (.cons (.cst (.int 2)) (.cons (.cst (.int 3)) (.cons (.cst (.int 4)) (.cons (.cst (.int 6)) (.cons (.cst (.int 8)) .nil)))))) (.var 2)) (.cons (.ix (.lst (.cons (.cst (.int 2)) (.cons (.cst (.int 3)) (.cons (.cst (.int 4)) (.cons (.cst (.int 6)) (.cons (.cst (.int 8)) .nil)))))) (.var 2)) .nil))))
def lapS1 : IS := .par [9, 10, 11, 12] [.v (.fn .len (.cons (.var 3) .nil)), .v (.fn .len (.cons (.ix (.var 3) (.cst (.int 0))) .nil)), .v (.fn .repr (.cons (.var 3) .nil)), .v (.fn .tuple (.cons (.call 16 (.cons (.var 3) .nil)) .nil))]
def lapS2 : IS := .iff (.or (.cmp .ne (.fn .repr (.cons (.call 4 (.cons (.var 3) .nil)) .nil)) (.fn .repr (.cons (.var 12) .nil))) (.one (.cmp .ne (.fn .repr (.cons (.call 5 (.cons (.var 9) (.cons (.var 10) (.cons (.var 12) .nil)))) .nil)) (.var 11)))) (.cons (.ret (.cst (.bool false))) .nil) .nil
def lapS3 : IS := .par [13, 14] [.v (.call 14 (.cons (.var 1) (.cons (.var 9) .nil))), .v (.call 14 (.cons (.var 1) (.cons (.var 10) .nil)))]
def lapS4 : IS := .set (.nm 4) (.bin .add (.bin .mul (.var 13) (.var 10)) (.ite (.cmp .eq (.bin .mod (.fn .int (.cons (.var 13) .nil)) (.cst (.int 2))) (.cst (.int 0))) (.var 14) (.bin .sub (.bin .sub (.var 10) (.cst (.int 1))) (.var 14))))
def lapS5 : IS := .iff (.or (.cmp .ne (.fn .repr (.cons (.lst (.cons (.call 2 (.cons (.var 9) (.cons (.var 10) (.cons (.var 13) (.cons (.var 14) .nil))))) (.cons (.call 3 (.cons (.var 9) (.cons (.var 10) (.cons (.var 4) .nil)))) .nil))) .nil)) (.fn .repr (.cons (.lst (.cons (.var 4) (.cons (.tup (.cons (.var 13) (.cons (.var 14) .nil))) .nil))) .nil))) (.one (.cmp .ne (.ix (.var 12) (.var 4)) (.ix (.ix (.var 3) (.var 13)) (.var 14))))) (.cons (.ret (.cst (.bool false))) .nil) .nil
def lapS6 : IS := .for_ (.nm 5) (.seq (.tup (.cons (.var 3) (.cons (.call 17 (.cons (.var 3) .nil)) (.cons (.call 19 (.cons (.var 3) (.cons (.cst (.int 4)) .nil))) (.cons (.fn .tuple (.cons (.comp [("line", 17)] (.nm 17) (.seq (.var 3)) .none (.fn .tuple (.cons (.fn .sorted (.cons (.var 17) .nil)) .nil))) .nil)) .nil)))))) irOne
def lapS7 : IS := .iff (.cmp .ne (.fn .repr (.cons (.lst (.cons (.call 7 (.cons (.var 3) .nil)) (.cons (.call 9 (.cons (.var 3) .nil)) .nil))) .nil)) (.fn .repr (.cons (.lst (.cons (.call 17 (.cons (.var 3) .nil)) (.cons (.call 18 (.cons (.var 3) .nil)) .nil))) .nil))) (.cons (.ret (.cst (.bool false))) .nil) .nil
def lapS8 : IS := .set (.nm 6) (.fn .tuple (.cons (.comp [("line", 17)] (.nm 17) (.seq (.var 3)) .none (.fn .tuple (.cons (.fn .sorted (.cons (.var 17) .nil)) .nil))) .nil))
def lapS9 : IS := .iff (.or (.cmp .ne (.fn .repr (.cons (.call 10 (.cons (.var 3) .nil)) .nil)) (.fn .repr (.cons (.var 6) .nil))) (.one (.cmp .isn (.call 12 (.cons (.call 10 (.cons (.call 9 (.cons (.var 3) .nil)) .nil)) .nil)) (.cst (.bool true))))) (.cons (.ret (.cst (.bool false))) .nil) .nil
def lapS10 : IS := .set (.nm 7) (.ix (.lst (.cons (.cst .none) (.cons (.tup .nil) (.cons (.tup (.cons (.tup .nil) .nil)) (.cons (.lst (.cons (.tup (.cons (.cst (.int 1)) .nil)) .nil)) (.cons (.tup (.cons (.tup (.cons (.cst (.int 1)) .nil)) (.cons (.tup (.cons (.cst (.int 1)) (.cons (.cst (.int 2)) .nil))) .nil))) (.cons (.tup (.cons (.tup (.cons (.cst (.bool true)) .nil)) .nil)) (.cons (.tup (.cons (.tup (.cons (.cst .none) .nil)) .nil)) (.cons (.cst (.int 0)) (.cons (.cst (.str ("1" : String))) (.cons (.tup (.cons (.lst (.cons (.cst (.int 1)) .nil)) .nil)) .nil))))))))))) (.call 14 (.cons (.var 1) (.cons (.cst (.int 10)) .nil))))
def lapS11 : IS := .for_ (.nm 8) (.seq (.tup (.cons (.var 3) (.cons (.fn .list (.cons (.var 3) .nil)) (.cons (.var 7) (.cons (.bin .add (.var 3) (.tup (.cons (.bin .mul (.tup (.cons (.cst (.int 1)) .nil)) (.var 10)) .nil))) (.cons (.bin .add (.var 3) (.tup (.cons (.bin .mul (.tup (.cons (.cst (.int 1)) .nil)) (.bin .add (.var 10) (.cst (.int 1)))) .nil))) (.cons (.ix (.var 3) (.cst (.int 0))) .nil)))))))) irVal
def lapS12 : IS := .iff (.cmp .ne (.fn .repr (.cons (.var 3) .nil)) (.var 11)) (.cons (.ret (.cst (.bool false))) .nil) .nil
theorem lap_is : irLap = (.cons lapS0 (.cons lapS1 (.cons lapS2 (.cons lapS3 (.cons lapS4 (.cons lapS5 (.cons lapS6 (.cons lapS7 (.cons lapS8 (.cons lapS9 (.cons lapS10 (.cons lapS11 (.cons lapS12 .nil))))))))))))) := rfl
/-! ### sizes -/
theorem sm_T {l : List Int} {k : Nat} (h1 : l.length ≤ k) (h2 : ∀ x ∈ l, x.natAbs ≤ 2000) : Sm 1 (k + 1) (enT l) := by
  refine Sm.tup (c := 1) (fun x hx => ?_) (by rw [List.length_map]; omega)
  obtain ⟨i, hi, rfl⟩ := List.mem_map.mp hx
  exact Sm.int (Nat.lt_of_le_of_lt (h2 i hi) (by decide))
theorem GB.sm {m n : Nat} {b : List (List Int)} (g : GB m n b) : Sm 2 100 (enB b) := by
  have h1 := g.len; have h2 := g.m8
  refine Sm.tup (c := 9) (fun x hx => ?_) (by rw [List.length_map]; omega)
  obtain ⟨l, hl, rfl⟩ := List.mem_map.mp hx
  exact (sm_T (k := 8) (by rw [g.row l hl]; exact g.n8) (g.ent l hl))
theorem snk_ent {m n : Nat} {b : List (List Int)} (g : GB m n b) : ∀ x ∈ snk 0 b, x.natAbs ≤ 2000 := by
  have go : ∀ (b : List (List Int)) (k : Nat) (x : Int), x ∈ snk k b → ∃ l ∈ b, x ∈ l := by
    intro b
    induction b with
    | nil => intro k x h; cases h
    | cons l b ih =>
      intro k x h
      rw [snk] at h
      rcases List.mem_append.mp h with h | h
      · exact ⟨l, List.mem_cons_self, mem_turn.mp h⟩
      · obtain ⟨l', h1, h2⟩ := ih (k + 1) x h
        exact ⟨l', List.mem_cons_of_mem _ h1, h2⟩
  intro x hx
  obtain ⟨l, hl, h⟩ := go b 0 x hx
  exact g.ent l hl x h
theorem snk_at {n : Nat} : ∀ {b : List (List Int)} {k r i : Nat} {l : List Int}, (∀ l ∈ b, l.length = n) → b[r]? = some l → i < n → (snk k b)[r * n + i]? = (turn (k + r) l)[i]?
  | [], _, _, _, _, _, e, _ => by simp at e
  | x :: b, k, 0, i, l, h, e, hi => by
    simp at e
    subst e
    rw [snk, Nat.zero_mul, Nat.zero_add, List.getElem?_append_left (by rw [turn_len, h x List.mem_cons_self]; exact hi)]
    rfl
  | x :: b, k, r + 1, i, l, h, e, hi => by
    have hx := h x List.mem_cons_self
    rw [snk, List.getElem?_append_right (by rw [turn_len, hx, Nat.add_mul]; omega), turn_len, hx, show (r + 1) * n + i - n = r * n + i by rw [Nat.add_mul]; omega, snk_at (b := b) (k := k + 1) (r := r) (fun l hl => h l (List.mem_cons_of_mem _ hl)) (by simpa using e) hi, show k + 1 + r = k + (r + 1) by omega]
section
variable {a0 a1 a2 a3 a4 a5 a6 a7 a8 a9 a10 a11 a12 a13 a14 a15 a16 a17 a18 : Option SV} {q : Sx}
theorem lap0 {lap : Nat} (hl : lap < 5) (ht : 0 ≤ q.turn) : ∃ m n b q', GB m n b ∧ 0 ≤ q'.turn ∧
    runS fs_20 lapS0 [a0, some (.val srcD), some (.val (.int (lap : Int))), a3, a4, a5, a6, a7, a8, a9, a10, a11, a12, a13, a14, a15, a16, a17, a18] q =
      some (.nx [a0, some (.val srcD), some (.val (.int (lap : Int))), some (.val (enB b)), a4, a5, a6, a7, a8, a9, a10, a11, a12, a13, a14, a15, a16, a17, a18] q') := by
  obtain ⟨w, hw, w1, w8⟩ : ∃ w : Nat, ([PyData.int 2, .int 3, .int 4, .int 6, .int 8])[lap]? = some (.int (w : Int)) ∧ 1 ≤ w ∧ w ≤ 8 := by
    have : lap = 0 ∨ lap = 1 ∨ lap = 2 ∨ lap = 3 ∨ lap = 4 := by omega
    rcases this with rfl | rfl | rfl | rfl | rfl
    · exact ⟨2, rfl, by decide, by decide⟩
    · exact ⟨3, rfl, by decide, by decide⟩
    · exact ⟨4, rfl, by decide, by decide⟩
    · exact ⟨6, rfl, by decide, by decide⟩
    · exact ⟨8, rfl, by decide, by decide⟩
  obtain ⟨m, n, b, q', g, e, t⟩ := z_board_eq (most := w) (wide := w) w1 w8 w1 w8 q ht
  have hx : ∀ {ρ : Ev}, ρ[2]? = some (some (.val (.int (lap : Int)))) → runE fs_20 (.ix (.lst (.cons (.cst (.int 2)) (.cons (.cst (.int 3)) (.cons (.cst (.int 4)) (.cons (.cst (.int 6)) (.cons (.cst (.int 8)) .nil)))))) (.var 2)) ρ q = some (.int (w : Int), ρ, q) := fun {ρ} h =>
    e_ix (e_lst (l_cons e_cst (l_cons e_cst (l_cons e_cst (l_cons e_cst (l_cons e_cst l_nil))))) (by show 5 ≤ 1000000; decide)) (e_var h) (v_ixL hw)
  exact ⟨m, n, b, q', g, t, s_set (e_callF (F := F_z_board) rfl (l_cons (e_var (d := srcD) rfl) (l_cons (hx rfl) (l_cons (hx rfl) l_nil))) e) rfl⟩
variable {m n : Nat} {b : List (List Int)}
theorem lap1 (g : GB m n b) :
    runS fs_20 lapS1 [a0, some (.val srcD), a2, some (.val (enB b)), a4, a5, a6, a7, a8, a9, a10, a11, a12, a13, a14, a15, a16, a17, a18] q =
      some (.nx [a0, some (.val srcD), a2, some (.val (enB b)), a4, a5, a6, a7, a8, some (.val (.int (m : Int))), some (.val (.int (n : Int))), some (.val (.str (enB b).shown)), some (.val (enT (snk 0 b))), a13, a14, a15, a16, a17, a18] q) := by
  obtain ⟨l, r, rfl, hl⟩ := g.cons
  have hm : BF.sem .len [enB (l :: r)] = some (.int (m : Int)) := by
    rw [enB, v_lenT, List.length_map, g.len]
  have hn : BF.sem .len [enT l] = some (.int (n : Int)) := by
    rw [enT, v_lenT, List.length_map, hl]
  exact s_par (x_v (e_fn (l_cons (e_var rfl) l_nil) hm) (x_v (e_fn (l_cons (e_ix (e_var rfl) e_cst v_ix0) l_nil) hn) (x_v (e_repr (e_var rfl) g.sm (by decide) (by decide)) (x_v (e_fn (l_cons (e_call (l_cons (e_var rfl) l_nil) (z_snake_eq g q)) l_nil) rfl) x_nil)))) rfl
theorem lap2 (g : GB m n b) :
    runS fs_20 lapS2 [a0, some (.val srcD), a2, some (.val (enB b)), a4, a5, a6, a7, a8, some (.val (.int (m : Int))), some (.val (.int (n : Int))), some (.val (.str (enB b).shown)), some (.val (enT (snk 0 b))), a13, a14, a15, a16, a17, a18] q =
      some (.nx [a0, some (.val srcD), a2, some (.val (enB b)), a4, a5, a6, a7, a8, some (.val (.int (m : Int))), some (.val (.int (n : Int))), some (.val (.str (enB b).shown)), some (.val (enT (snk 0 b))), a13, a14, a15, a16, a17, a18] q) :=
  s_iffF (e_orF (e_alike (e_call (l_cons (e_var rfl) l_nil) (snake_row_eq g q)) (e_var rfl) (sm_T (k := 64) (snk_le g) (snk_ent g)) (by decide) (by decide)) (e_one (e_cmp (e_repr (e_call (l_cons (e_var rfl) (l_cons (e_var rfl) (l_cons (e_var rfl) l_nil))) (board_of_snake_eq g q)) g.sm (by decide) (by decide)) (e_var rfl) v_ne_str))) s_nil
theorem lap3 (g : GB m n b) (ht : 0 ≤ q.turn) : ∃ r c q', r < m ∧ c < n ∧ 0 ≤ q'.turn ∧
    runS fs_20 lapS3 [a0, some (.val srcD), a2, a3, a4, a5, a6, a7, a8, some (.val (.int (m : Int))), some (.val (.int (n : Int))), a11, a12, a13, a14, a15, a16, a17, a18] q =
      some (.nx [a0, some (.val srcD), a2, a3, a4, a5, a6, a7, a8, some (.val (.int (m : Int))), some (.val (.int (n : Int))), a11, a12, some (.val (.int ((r : Nat) : Int))), some (.val (.int ((c : Nat) : Int))), a15, a16, a17, a18] q') := by
  have h1 := g.m1; have h2 := g.n1; have h3 := g.m8; have h4 := g.n8
  obtain ⟨r, q1, e1, r0, r1, t1⟩ := e_pick (fs := fs_20) (ρ := [a0, some (.val srcD), a2, a3, a4, a5, a6, a7, a8, some (.val (.int (m : Int))), some (.val (.int (n : Int))), a11, a12, a13, a14, a15, a16, a17, a18]) (q := q) (e := .var 9) (k := 14) (i := 1) (most := (m : Int)) rfl rfl (e_var rfl) (by omega) ht
  obtain ⟨c, q2, e2, c0, c1, t2⟩ := e_pick (fs := fs_20) (ρ := [a0, some (.val srcD), a2, a3, a4, a5, a6, a7, a8, some (.val (.int (m : Int))), some (.val (.int (n : Int))), a11, a12, a13, a14, a15, a16, a17, a18]) (q := q1) (e := .var 10) (k := 14) (i := 1) (most := (n : Int)) rfl rfl (e_var rfl) (by omega) t1
  have r2 := r1 (by omega)
  have c2 := c1 (by omega)
  obtain ⟨r, rfl⟩ : ∃ k : Nat, r = (k : Int) := ⟨r.toNat, by omega⟩
  obtain ⟨c, rfl⟩ : ∃ k : Nat, c = (k : Int) := ⟨c.toNat, by omega⟩
  exact ⟨r, c, q2, by omega, by omega, t2, s_par (x_v e1 (x_v e2 x_nil)) rfl⟩
def innr (n r c : Nat) : Nat := if r % 2 = 0 then c else n - 1 - c
theorem innr_lt {n r c : Nat} (h : c < n) : innr n r c < n := by unfold innr; split <;> omega
theorem innr_int {n r c : Nat} (h : c < n) : (if r % 2 = 0 then (c : Int) else (n : Int) - 1 - c) = (innr n r c : Int) := by
  unfold innr
  split <;> omega
theorem lap4 {r c : Nat} (hr : r < 8) (hc : c < n) (hn : n ≤ 8) :
    runS fs_20 lapS4 [a0, a1, a2, a3, a4, a5, a6, a7, a8, a9, some (.val (.int (n : Int))), a11, a12, some (.val (.int ((r : Nat) : Int))), some (.val (.int ((c : Nat) : Int))), a15, a16, a17, a18] q =
      some (.nx [a0, a1, a2, a3, some (.val (.int ((r * n + innr n r c : Nat) : Int))), a5, a6, a7, a8, a9, some (.val (.int (n : Int))), a11, a12, some (.val (.int ((r : Nat) : Int))), some (.val (.int ((c : Nat) : Int))), a15, a16, a17, a18] q) := by
  have e : (((r * n + innr n r c : Nat) : Int)) = (r : Int) * n + (if r % 2 = 0 then (c : Int) else (n : Int) - 1 - c) := by
    rw [innr_int hc]; push_cast; rfl
  rw [e]
  refine s_set (e_bin (e_bin (e_var rfl) (e_var rfl) (v_mul (.inl (by omega)))) (e_iteP (t := decide ((r : Int) % 2 = 0)) (d := .int (if r % 2 = 0 then (c : Int) else (n : Int) - 1 - c)) (c_evenI (k := r) rfl) (fun ht => ?_) (fun ht => ?_)) rfl) rfl
  · have h := of_decide_eq_true ht
    rw [if_pos (by omega)]
    exact e_var rfl
  · have h := of_decide_eq_false ht
    rw [if_neg (by omega)]
    exact e_bin (e_bin (e_var rfl) e_cst rfl) (e_var rfl) rfl
theorem turn_at {l : List Int} {n r c : Nat} (hl : l.length = n) (hc : c < n) : (turn r l)[innr n r c]? = l[c]? := by
  unfold turn innr
  split
  · rfl
  · rw [List.getElem?_reverse (by omega), show l.length - 1 - (n - 1 - c) = c by omega]
theorem lap5 (g : GB m n b) {r c : Nat} (hr : r < m) (hc : c < n) :
    runS fs_20 lapS5 [a0, a1, a2, some (.val (enB b)), some (.val (.int ((r * n + innr n r c : Nat) : Int))), a5, a6, a7, a8, some (.val (.int (m : Int))), some (.val (.int (n : Int))), a11, some (.val (enT (snk 0 b))), some (.val (.int ((r : Nat) : Int))), some (.val (.int ((c : Nat) : Int))), a15, a16, a17, a18] q =
      some (.nx [a0, a1, a2, some (.val (enB b)), some (.val (.int ((r * n + innr n r c : Nat) : Int))), a5, a6, a7, a8, some (.val (.int (m : Int))), some (.val (.int (n : Int))), a11, some (.val (enT (snk 0 b))), some (.val (.int ((r : Nat) : Int))), some (.val (.int ((c : Nat) : Int))), a15, a16, a17, a18] q) := by
  have hm8 := g.m8; have hn8 := g.n8; have hn1 := g.n1
  have hi := innr_lt (r := r) hc
  have hrn : r * n ≤ 64 := Nat.le_trans (Nat.mul_le_mul (show r ≤ 8 by omega) hn8) (by decide)
  have num := snake_number_eq (m := m) (n := n) (r := r) (c := c) (by omega) (by omega) q
  rw [innr_int hc, show (r : Int) * n + (innr n r c : Int) = ((r * n + innr n r c : Nat) : Int) by push_cast; rfl] at num
  have plc := snake_place_eq (m := m) (n := n) (k := ((r * n + innr n r c : Nat) : Int)) hn1 (by omega) q
  have d1 : ((r * n + innr n r c : Nat) : Int) / (n : Int) = (r : Int) := by
    rw [← Int.natCast_ediv, Nat.mul_comm, Nat.mul_add_div (by omega), Nat.div_eq_of_lt hi, Nat.add_zero]
  have d2 : ((r * n + innr n r c : Nat) : Int) % (n : Int) = (innr n r c : Int) := by
    rw [← Int.natCast_emod, Nat.mul_comm, Nat.mul_add_mod, Nat.mod_eq_of_lt hi]
  rw [d1, d2] at plc
  have d3 : (if (r : Int) % 2 = 0 then (innr n r c : Int) else (n : Int) - 1 - (innr n r c : Int)) = (c : Int) := by
    unfold innr
    by_cases h : r % 2 = 0
    · rw [if_pos (by omega), if_pos h]
    · rw [if_neg (by omega), if_neg h]; omega
  rw [d3] at plc
  obtain ⟨l, hl⟩ : ∃ l, b[r]? = some l := ⟨_, List.getElem?_eq_getElem (by rw [g.len]; exact hr)⟩
  have hll := g.row l (List.mem_of_getElem? hl)
  obtain ⟨x, hx⟩ : ∃ x, l[c]? = some x := ⟨_, List.getElem?_eq_getElem (by omega)⟩
  have i1 : ixS (enT (snk 0 b)) (.int ((r * n + innr n r c : Nat) : Int)) = some (.int x) := v_ixT (by
    rw [List.getElem?_map, snk_at g.row hl hi, Nat.zero_add, turn_at hll hc, hx]; rfl)
  have i2 : ixS (enB b) (.int (r : Int)) = some (enT l) := v_ixT (by rw [List.getElem?_map, hl]; rfl)
  have i3 : ixS (enT l) (.int (c : Int)) = some (.int x) := v_ixT (by rw [List.getElem?_map, hx]; rfl)
  have sm : Sm 2 8 (.list [.int ((r * n + innr n r c : Nat) : Int), .tuple [.int (r : Int), .int (c : Int)]]) := by
    refine Sm.lst (c := 3) (fun y hy => ?_) (by show 2 * 3 + 1 ≤ 8; decide)
    rcases List.mem_cons.mp hy with rfl | hy
    · exact (Sm.int (n := 1) (by omega)).mono (Nat.le_refl _) (by decide)
    · rw [List.mem_singleton.mp hy]
      refine Sm.tup (c := 1) (fun y hy => ?_) (by show 2 * 1 + 1 ≤ 3; decide)
      rcases List.mem_cons.mp hy with rfl | hy
      · exact Sm.int (by omega)
      · rw [List.mem_singleton.mp hy]; exact Sm.int (by omega)
  refine s_iffF (e_orF (e_alike (e_lst (l_cons (e_callF (F := F_snake_number) rfl (l_cons (e_var rfl) (l_cons (e_var rfl) (l_cons (e_var rfl) (l_cons (e_var rfl) l_nil)))) num) (l_cons (e_callF (F := F_snake_place) rfl (l_cons (e_var rfl) (l_cons (e_var rfl) (l_cons (e_var rfl) l_nil))) plc) l_nil)) (by show 2 ≤ 1000000; decide))
    (e_lst (l_cons (e_var rfl) (l_cons (e_tup (l_cons (e_var rfl) (l_cons (e_var rfl) l_nil)) (by show 2 ≤ 1000000; decide)) l_nil)) (by show 2 ≤ 1000000; decide)) sm (by decide) (by decide)) (e_one (e_cmp (e_ix (e_var rfl) (e_var rfl) i1) (e_ix (e_ix (e_var rfl) (e_var rfl) i2) (e_var rfl) i3) ?_))) s_nil
  rw [v_ne_int]
  simp
theorem lap6 (g : GB m n b) (h17 : Vs a17) (h18 : Vs a18) : ∃ b5 b15 b16,
    runS fs_20 lapS6 [a0, a1, a2, some (.val (enB b)), a4, a5, a6, a7, a8, a9, some (.val (.int (n : Int))), a11, a12, a13, a14, a15, a16, a17, a18] q =
      some (.nx [a0, a1, a2, some (.val (enB b)), a4, b5, a6, a7, a8, a9, some (.val (.int (n : Int))), a11, a12, a13, a14, b15, b16, a17, a18] q) := by
  have hm8 := g.m8; have hlen := g.len
  obtain ⟨ρ', q', e, b5, b15, b16, rfl, rfl⟩ := s_for (fs := fs_20) (ρ := [a0, a1, a2, some (.val (enB b)), a4, a5, a6, a7, a8, a9, some (.val (.int (n : Int))), a11, a12, a13, a14, a15, a16, a17, a18]) (q := q) (tg := .nm 5)
    (it := .seq (.tup (.cons (.var 3) (.cons (.call 17 (.cons (.var 3) .nil)) (.cons (.call 19 (.cons (.var 3) (.cons (.cst (.int 4)) .nil))) (.cons (.fn .tuple (.cons (.comp [("line", 17)] (.nm 17) (.seq (.var 3)) .none (.fn .tuple (.cons (.fn .sorted (.cons (.var 17) .nil)) .nil))) .nil)) .nil)))))) (body := irOne)
    (ds := [enB b, enB (prow 0 b), enB (prow 0 (shear n 4 b)), enB (b.map srt)])
    (fun i ρ q' => ∃ b5 b15 b16, ρ = [a0, a1, a2, some (.val (enB b)), a4, b5, a6, a7, a8, a9, some (.val (.int (n : Int))), a11, a12, a13, a14, b15, b16, a17, a18] ∧ q' = q)
    (i_tup (e_tup (l_cons (e_var rfl) (l_cons (e_callF (F := F_z_rows) rfl (l_cons (e_var rfl) l_nil) (z_rows_eq g q)) (l_cons (e_callF (F := F_z_sheared) rfl (l_cons (e_var rfl) (l_cons e_cst l_nil)) (z_sheared_eq g 4 (by decide) q)) (l_cons (e_fn (l_cons (e_map (xs := b) (en := enT) (g := fun l => enT (srt l)) (i_tup (e_var rfl)) (fun y hy => ⟨_, rfl, rfl, e_fn (l_cons (e_fn (l_cons (e_var rfl) l_nil) v_sortT) l_nil) rfl⟩) (back1 (j := 17) rfl h17)) l_nil) (show BF.sem .tuple [.list (b.map fun l => enT (srt l))] = some (enB (b.map srt)) by rw [enB, List.map_map]; rfl)) l_nil)))) (by show 4 ≤ 1000000; decide)))
    ⟨a5, a15, a16, rfl, rfl⟩ (fun i d ρ q' hd hI => by
      obtain ⟨b5, b15, b16, rfl, rfl⟩ := hI
      have hm : d = enB b ∨ d = enB (prow 0 b) ∨ d = enB (prow 0 (shear n 4 b)) ∨ d = enB (b.map srt) := by simpa using List.mem_of_getElem? hd
      obtain ⟨o, go, rfl⟩ : ∃ o, GB m n o ∧ d = enB o := by
        rcases hm with rfl | rfl | rfl | rfl
        · exact ⟨b, g, rfl⟩
        · exact ⟨_, g.prow, rfl⟩
        · exact ⟨_, (g.shear 4).prow, rfl⟩
        · exact ⟨_, g.up, rfl⟩
      exact ⟨[a0, a1, a2, some (.val (enB b)), a4, some (.val (enB o)), a6, a7, a8, a9, some (.val (.int (n : Int))), a11, a12, a13, a14, b15, b16, a17, a18], _, _, rfl, one_ok go h17 h18, some (.val (enB o)), _, _, rfl, rfl⟩)
  exact ⟨b5, b15, b16, e⟩
theorem lap7 (g : GB m n b) :
    runS fs_20 lapS7 [a0, a1, a2, some (.val (enB b)), a4, a5, a6, a7, a8, a9, a10, a11, a12, a13, a14, a15, a16, a17, a18] q =
      some (.nx [a0, a1, a2, some (.val (enB b)), a4, a5, a6, a7, a8, a9, a10, a11, a12, a13, a14, a15, a16, a17, a18] q) := by
  have sm : Sm 3 201 (.list [enB (prow 0 b), enB (colP n b)]) := by
    refine Sm.lst (c := 100) (fun y hy => ?_) (by show 2 * 100 + 1 ≤ 201; decide)
    rcases List.mem_cons.mp hy with rfl | hy
    · exact g.prow.sm
    · rw [List.mem_singleton.mp hy]; exact g.colP.sm
  exact s_iffF (e_alike (e_lst (l_cons (e_callF (F := F_row_phase) rfl (l_cons (e_var rfl) l_nil) (row_phase_eq g q)) (l_cons (e_callF (F := F_column_phase) rfl (l_cons (e_var rfl) l_nil) (column_phase_eq g q)) l_nil)) (by show 2 ≤ 1000000; decide))
    (e_lst (l_cons (e_callF (F := F_z_rows) rfl (l_cons (e_var rfl) l_nil) (z_rows_eq g q)) (l_cons (e_callF (F := F_z_columns) rfl (l_cons (e_var rfl) l_nil) (z_columns_eq g q)) l_nil)) (by show 2 ≤ 1000000; decide)) sm (by decide) (by decide)) s_nil
theorem lap8 (g : GB m n b) (h17 : Vs a17) :
    runS fs_20 lapS8 [a0, a1, a2, some (.val (enB b)), a4, a5, a6, a7, a8, a9, a10, a11, a12, a13, a14, a15, a16, a17, a18] q =
      some (.nx [a0, a1, a2, some (.val (enB b)), a4, a5, some (.val (enB (b.map srt))), a7, a8, a9, a10, a11, a12, a13, a14, a15, a16, a17, a18] q) :=
  s_set (e_fn (l_cons (e_map (xs := b) (en := enT) (g := fun l => enT (srt l)) (i_tup (e_var rfl)) (fun y hy => ⟨_, rfl, rfl, e_fn (l_cons (e_fn (l_cons (e_var rfl) l_nil) v_sortT) l_nil) rfl⟩) (back1 (j := 17) rfl h17)) l_nil) (show BF.sem .tuple [.list (b.map fun l => enT (srt l))] = some (enB (b.map srt)) by rw [enB, List.map_map]; rfl)) rfl
theorem lap9 (g : GB m n b) :
    runS fs_20 lapS9 [a0, a1, a2, some (.val (enB b)), a4, a5, some (.val (enB (b.map srt))), a7, a8, a9, a10, a11, a12, a13, a14, a15, a16, a17, a18] q =
      some (.nx [a0, a1, a2, some (.val (enB b)), a4, a5, some (.val (enB (b.map srt))), a7, a8, a9, a10, a11, a12, a13, a14, a15, a16, a17, a18] q) := by
  have hb := is_sorted_both_eq g.colP.up q
  rw [both_colP g] at hb
  exact s_iffF (e_orF (e_alike (e_callF (F := F_rows_up) rfl (l_cons (e_var rfl) l_nil) (rows_up_eq g q)) (e_var rfl) g.up.sm (by decide) (by decide))
    (e_one (e_cmp (e_callF (F := F_is_sorted_both) rfl (l_cons (e_callF (F := F_rows_up) rfl (l_cons (e_callF (F := F_column_phase) rfl (l_cons (e_var rfl) l_nil) (column_phase_eq g q)) l_nil) (rows_up_eq g.colP q)) l_nil) hb) e_cst rfl))) s_nil
def odds : List PyData := [.none, .tuple [], .tuple [.tuple []], .list [.tuple [.int 1]], .tuple [.tuple [.int 1], .tuple [.int 1, .int 2]], .tuple [.tuple [.bool true]], .tuple [.tuple [.none]], .int 0, .str ("1" : String), .tuple [.list [.int 1]]]
theorem odds_ok : ∀ d ∈ odds, okd 40 d = true := by decide +kernel
theorem lap10 (ht : 0 ≤ q.turn) : ∃ d q', okd 40 d = true ∧ 0 ≤ q'.turn ∧
    runS fs_20 lapS10 [a0, some (.val srcD), a2, a3, a4, a5, a6, a7, a8, a9, a10, a11, a12, a13, a14, a15, a16, a17, a18] q =
      some (.nx [a0, some (.val srcD), a2, a3, a4, a5, a6, some (.val d), a8, a9, a10, a11, a12, a13, a14, a15, a16, a17, a18] q') := by
  obtain ⟨r, q1, e1, r0, r1, t1⟩ := e_pick (fs := fs_20) (ρ := [a0, some (.val srcD), a2, a3, a4, a5, a6, a7, a8, a9, a10, a11, a12, a13, a14, a15, a16, a17, a18]) (q := q) (e := .cst (.int 10)) (k := 14) (i := 1) (most := 10) rfl rfl e_cst (by decide) ht
  have r2 := r1 (by decide)
  obtain ⟨r, rfl⟩ : ∃ k : Nat, r = (k : Int) := ⟨r.toNat, by omega⟩
  have hlt : r < odds.length := by show r < 10; omega
  obtain ⟨d, hd⟩ : ∃ d, odds[r]? = some d := ⟨_, List.getElem?_eq_getElem hlt⟩
  refine ⟨d, q1, odds_ok d (List.mem_of_getElem? hd), t1, s_set (e_ix (x := .list odds) (e_lst ?_ (by show 10 ≤ 1000000; decide)) e1 (v_ixL hd)) rfl⟩
  exact l_cons e_cst (l_cons (e_tup l_nil (by decide)) (l_cons (e_tup (l_cons (e_tup l_nil (by decide)) l_nil) (by decide)) (l_cons (e_lst (l_cons (e_tup (l_cons e_cst l_nil) (by decide)) l_nil) (by decide)) (l_cons (e_tup (l_cons (e_tup (l_cons e_cst l_nil) (by decide)) (l_cons (e_tup (l_cons e_cst (l_cons e_cst l_nil)) (by decide)) l_nil)) (by decide)) (l_cons (e_tup (l_cons (e_tup (l_cons e_cst l_nil) (by decide)) l_nil) (by decide)) (l_cons (e_tup (l_cons (e_tup (l_cons e_cst l_nil) (by decide)) l_nil) (by decide)) (l_cons e_cst (l_cons e_cst (l_cons (e_tup (l_cons (e_lst (l_cons e_cst l_nil) (by decide)) l_nil) (by decide)) l_nil)))))))))
theorem v_ones {k : Nat} (hk : k ≤ 1000) : BO.sem .mul (.tuple [.int 1]) (.int (k : Int)) = some (enT (List.replicate k 1)) := by
  show mulS (.tuple [.int 1]) (.int (k : Int)) = _
  unfold mulS
  simp only []
  rw [if_pos ⟨by simp, by omega⟩]
  refine congrArg (fun x => some (PyData.tuple x)) ?_
  rw [Int.toNat_natCast]
  clear hk
  induction k with
  | zero => rfl
  | succ k ih => rw [List.replicate_succ, List.replicate_succ, List.flatten_cons, ih]; rfl
theorem lap11 (g : GB m n b) {odd : PyData} (ho : okd 40 odd = true) (h17 : Vs a17) (h18 : Vs a18) : ∃ b8 b15 b17, Vs b17 ∧
    runS fs_20 lapS11 [a0, a1, a2, some (.val (enB b)), a4, a5, a6, some (.val odd), a8, a9, some (.val (.int (n : Int))), a11, a12, a13, a14, a15, a16, a17, a18] q =
      some (.nx [a0, a1, a2, some (.val (enB b)), a4, a5, a6, some (.val odd), b8, a9, some (.val (.int (n : Int))), a11, a12, a13, a14, b15, a16, b17, a18] q) := by
  have hn8 := g.n8; have hm8 := g.m8; have hlen := g.len
  obtain ⟨l0, r0, hb0, hl0⟩ := g.cons
  have okB : ∀ x ∈ b.map enT, okd 39 x = true := fun x hx => by
    obtain ⟨l, _, rfl⟩ := List.mem_map.mp hx
    exact okd_intsT
  have okA : ∀ k, okd 40 (.tuple (b.map enT ++ [enT (List.replicate k 1)])) = true := fun k => List.all_eq_true.mpr fun x hx => by
    rcases List.mem_append.mp hx with hx | hx
    · exact okB x hx
    · rw [List.mem_singleton.mp hx]; exact okd_intsT
  have add : ∀ k, k ≤ 1000 → BO.sem .add (enB b) (.tuple [enT (List.replicate k 1)]) = some (.tuple (b.map enT ++ [enT (List.replicate k 1)])) := fun k _ => v_addT (by rw [List.length_map]; show b.length + 1 ≤ 1000000; omega)
  obtain ⟨ρ', q', e, b8, b15, b17, hv, rfl, rfl⟩ := s_for (fs := fs_20) (ρ := [a0, a1, a2, some (.val (enB b)), a4, a5, a6, some (.val odd), a8, a9, some (.val (.int (n : Int))), a11, a12, a13, a14, a15, a16, a17, a18]) (q := q) (tg := .nm 8)
    (it := .seq (.tup (.cons (.var 3) (.cons (.fn .list (.cons (.var 3) .nil)) (.cons (.var 7) (.cons (.bin .add (.var 3) (.tup (.cons (.bin .mul (.tup (.cons (.cst (.int 1)) .nil)) (.var 10)) .nil))) (.cons (.bin .add (.var 3) (.tup (.cons (.bin .mul (.tup (.cons (.cst (.int 1)) .nil)) (.bin .add (.var 10) (.cst (.int 1)))) .nil))) (.cons (.ix (.var 3) (.cst (.int 0))) .nil)))))))) (body := irVal)
    (ds := [enB b, .list (b.map enT), odd, .tuple (b.map enT ++ [enT (List.replicate n 1)]), .tuple (b.map enT ++ [enT (List.replicate (n + 1) 1)]), enT l0])
    (fun i ρ q' => ∃ b8 b15 b17, Vs b17 ∧ ρ = [a0, a1, a2, some (.val (enB b)), a4, a5, a6, some (.val odd), b8, a9, some (.val (.int (n : Int))), a11, a12, a13, a14, b15, a16, b17, a18] ∧ q' = q)
    (i_tup (e_tup (l_cons (e_var rfl) (l_cons (e_fn (l_cons (e_var rfl) l_nil) rfl) (l_cons (e_var rfl) (l_cons (e_bin (e_var rfl) (e_tup (l_cons (e_bin (e_tup (l_cons e_cst l_nil) (by decide)) (e_var rfl) (v_ones (by omega))) l_nil) (by show 1 ≤ 1000000; decide)) (add n (by omega))) (l_cons (e_bin (e_var rfl) (e_tup (l_cons (e_bin (e_tup (l_cons e_cst l_nil) (by decide)) (e_bin (d := .int ((n + 1 : Nat) : Int)) (e_var rfl) e_cst rfl) (v_ones (by omega))) l_nil) (by show 1 ≤ 1000000; decide)) (add (n + 1) (by omega))) (l_cons (e_ix (e_var (d := enB b) rfl) e_cst (by rw [hb0]; exact v_ix0)) l_nil)))))) (by show 6 ≤ 1000000; decide)))
    ⟨a8, a15, a17, h17, rfl, rfl⟩ (fun i d ρ q' hd hI => by
      obtain ⟨b8, b15, b17, hv, rfl, rfl⟩ := hI
      have hm : d = enB b ∨ d = .list (b.map enT) ∨ d = odd ∨ d = .tuple (b.map enT ++ [enT (List.replicate n 1)]) ∨ d = .tuple (b.map enT ++ [enT (List.replicate (n + 1) 1)]) ∨ d = enT l0 := by simpa using List.mem_of_getElem? hd
      have okd' : okd 40 d = true := by
        rcases hm with rfl | rfl | rfl | rfl | rfl | rfl
        · exact List.all_eq_true.mpr okB
        · exact List.all_eq_true.mpr okB
        · exact ho
        · exact okA _
        · exact okA _
        · exact okd_intsT
      obtain ⟨c15, c17, hc, e⟩ := val_ok (a0 := a0) (a1 := a1) (a2 := a2) (a3 := some (.val (enB b))) (a4 := a4) (a5 := a5) (a6 := a6) (a7 := some (.val odd)) (a9 := a9) (a10 := some (.val (.int (n : Int)))) (a11 := a11) (a12 := a12) (a13 := a13) (a14 := a14) (a15 := b15) (a16 := a16) (a17 := b17) (a18 := a18) (q := q') okd' hv h18
      exact ⟨[a0, a1, a2, some (.val (enB b)), a4, a5, a6, some (.val odd), some (.val d), a9, some (.val (.int (n : Int))), a11, a12, a13, a14, b15, a16, b17, a18], _, _, rfl, e, some (.val d), c15, c17, hc, rfl, rfl⟩)
  exact ⟨b8, b15, b17, hv, e⟩
theorem lap12 (g : GB m n b) :
    runS fs_20 lapS12 [a0, a1, a2, some (.val (enB b)), a4, a5, a6, a7, a8, a9, a10, some (.val (.str (enB b).shown)), a12, a13, a14, a15, a16, a17, a18] q =
      some (.nx [a0, a1, a2, some (.val (enB b)), a4, a5, a6, a7, a8, a9, a10, some (.val (.str (enB b).shown)), a12, a13, a14, a15, a16, a17, a18] q) :=
  s_iffF (e_cmp (e_repr (e_var rfl) g.sm (by decide) (by decide)) (e_var rfl) v_ne_str) s_nil
/-- one lap -/
theorem lap_ok {lap : Nat} (hl : lap < 5) (ht : 0 ≤ q.turn) (h17 : Vs a17) (h18 : Vs a18) : ∃ b3 b4 b5 b6 b7 b8 b9 b10 b11 b12 b13 b14 b15 b16 b17 q', Vs b17 ∧ 0 ≤ q'.turn ∧
    runSs fs_20 irLap [a0, some (.val srcD), some (.val (.int (lap : Int))), a3, a4, a5, a6, a7, a8, a9, a10, a11, a12, a13, a14, a15, a16, a17, a18] q =
      some (.nx [a0, some (.val srcD), some (.val (.int (lap : Int))), b3, b4, b5, b6, b7, b8, b9, b10, b11, b12, b13, b14, b15, b16, b17, a18] q') := by
  obtain ⟨m, n, b, q1, g, t1, e0⟩ := lap0 (a0 := a0) (a3 := a3) (a4 := a4) (a5 := a5) (a6 := a6) (a7 := a7) (a8 := a8) (a9 := a9) (a10 := a10) (a11 := a11) (a12 := a12) (a13 := a13) (a14 := a14) (a15 := a15) (a16 := a16) (a17 := a17) (a18 := a18) hl ht
  obtain ⟨r, c, q2, hr, hc, t2, e3⟩ := lap3 (a0 := a0) (a2 := some (.val (.int (lap : Int)))) (a3 := some (.val (enB b))) (a4 := a4) (a5 := a5) (a6 := a6) (a7 := a7) (a8 := a8) (a11 := some (.val (.str (enB b).shown))) (a12 := some (.val (enT (snk 0 b)))) (a13 := a13) (a14 := a14) (a15 := a15) (a16 := a16) (a17 := a17) (a18 := a18) g t1
  have hm8 := g.m8
  obtain ⟨b5, b15, b16, e6⟩ := lap6 (a0 := a0) (a1 := some (.val srcD)) (a2 := some (.val (.int (lap : Int)))) (a4 := some (.val (.int ((r * n + innr n r c : Nat) : Int)))) (a5 := a5) (a6 := a6) (a7 := a7) (a8 := a8) (a9 := some (.val (.int (m : Int)))) (a11 := some (.val (.str (enB b).shown))) (a12 := some (.val (enT (snk 0 b)))) (a13 := some (.val (.int (r : Int)))) (a14 := some (.val (.int (c : Int)))) (a15 := a15) (a16 := a16) (q := q2) g h17 h18
  obtain ⟨odd, q3, ho, t3, e10⟩ := lap10 (a0 := a0) (a2 := some (.val (.int (lap : Int)))) (a3 := some (.val (enB b))) (a4 := some (.val (.int ((r * n + innr n r c : Nat) : Int)))) (a5 := b5) (a6 := some (.val (enB (b.map srt)))) (a7 := a7) (a8 := a8) (a9 := some (.val (.int (m : Int)))) (a10 := some (.val (.int (n : Int)))) (a11 := some (.val (.str (enB b).shown))) (a12 := some (.val (enT (snk 0 b)))) (a13 := some (.val (.int (r : Int)))) (a14 := some (.val (.int (c : Int)))) (a15 := b15) (a16 := b16) (a17 := a17) (a18 := a18) t2
  obtain ⟨b8, c15, c17, hv, e11⟩ := lap11 (a0 := a0) (a1 := some (.val srcD)) (a2 := some (.val (.int (lap : Int)))) (a4 := some (.val (.int ((r * n + innr n r c : Nat) : Int)))) (a5 := b5) (a6 := some (.val (enB (b.map srt)))) (a8 := a8) (a9 := some (.val (.int (m : Int)))) (a11 := some (.val (.str (enB b).shown))) (a12 := some (.val (enT (snk 0 b)))) (a13 := some (.val (.int (r : Int)))) (a14 := some (.val (.int (c : Int)))) (a15 := b15) (a16 := b16) (q := q3) g ho h17 h18
  rw [lap_is]
  exact ⟨_, _, _, _, _, _, _, _, _, _, _, _, _, _, _, _, hv, t3, s_nx e0 (s_nx (lap1 g) (s_nx (lap2 g) (s_nx e3 (s_nx (lap4 (by omega) hc g.n8) (s_nx (lap5 g hr hc) (s_nx e6 (s_nx (lap7 g) (s_nx (lap8 g h17) (s_nx (lap9 g) (s_nx e10 (s_nx e11 (s_nx (lap12 g) s_nil))))))))))))⟩
end
theorem law_true (ns : List Int) (hl : ns.length ≤ 63) : ∃ q', F_law [scrD ns] ⟨[], 0, 0, -1⟩ = some (.bool true, q') := by
  obtain ⟨ρ', q', e, _, _⟩ := s_for (fs := fs_20) (ρ := [some (.val (scrD ns)), some (.val srcD), none, none, none, none, none, none, none, none, none, none, none, none, none, none, none, none, none]) (q := openM ns) (tg := .nm 2) (it := .rg .none (.cst (.int 5))) (body := irLap)
    (fun i ρ q' => (∃ b2 b3 b4 b5 b6 b7 b8 b9 b10 b11 b12 b13 b14 b15 b16 b17 b18, ρ = [some (.val (scrD ns)), some (.val srcD), b2, b3, b4, b5, b6, b7, b8, b9, b10, b11, b12, b13, b14, b15, b16, b17, b18] ∧ Vs b17 ∧ Vs b18) ∧ 0 ≤ q'.turn)
    (i_rg (n := 5) e_cst (by decide)) ⟨⟨none, none, none, none, none, none, none, none, none, none, none, none, none, none, none, none, none, rfl, .none, .none⟩, Int.le_refl _⟩ (fun i d ρ q' hd hI => by
      obtain ⟨⟨b2, b3, b4, b5, b6, b7, b8, b9, b10, b11, b12, b13, b14, b15, b16, b17, b18, rfl, h17, h18⟩, ht⟩ := hI
      rw [List.getElem?_map] at hd
      have hi : i < 5 := by
        by_cases h : i < 5
        · exact h
        · rw [List.getElem?_eq_none (by simpa using h)] at hd; cases hd
      rw [List.getElem?_range hi] at hd
      cases hd
      obtain ⟨c3, c4, c5, c6, c7, c8, c9, c10, c11, c12, c13, c14, c15, c16, c17, q2, hv, t2, e⟩ := lap_ok (lap := i) (a0 := some (.val (scrD ns))) (a3 := b3) (a4 := b4) (a5 := b5) (a6 := b6) (a7 := b7) (a8 := b8) (a9 := b9) (a10 := b10) (a11 := b11) (a12 := b12) (a13 := b13) (a14 := b14) (a15 := b15) (a16 := b16) hi ht h17 h18
      exact ⟨_, _, _, rfl, e, ⟨_, _, _, _, _, _, _, _, _, _, _, _, _, _, _, _, _, rfl, hv, h18⟩, t2⟩)
  refine ⟨q', fn_rt ?_⟩
  rw [ir_law_is]
  exact s_nx (s_set (e_callF (F := F_z_open_cells) rfl (l_cons (e_var (d := scrD ns) rfl) l_nil) (openF_eq (by omega) (by decide))) rfl) (s_nx e (s_retL e_cst))
end Sb

set_option Elab.async false
set_option autoImplicit false
set_option linter.all false
set_option maxRecDepth 100000
set_option maxHeartbeats 4000000
open PySem PySem.W PyProof.Rows
set_option maxHeartbeats 0 in
theorem PySem.Challenge.cw_sortedbynets_k66_snakes_and_phases_holds : PySem.Challenge.rw_sortedbynets_k66_snakes_and_phases.Holds := by
  w_on; o_law; k_head; (case hw => w_witness2)
  k_fill
  refine Sb.walkG (l := PySem.Challenge.rw_sortedbynets_k66_snakes_and_phases) (n := 63) (k := 21) (x := "script") (F := Sb.F_law) (q0 := ⟨[], 0, 0, -1⟩) rfl (by decide) rfl ⟨rfl, by decide, by decide⟩ (fun w h Y => PySem.W.kIn_of Y) ?F (fun ns hl => Sb.law_true ns hl)
  case F =>
    intro w mg fa h KX G hmg
    refine' Sb.all_mk KX G hmg (Sb.at_is_plain_row KX G ?a0 ?l0 ?c0 ?k0) (Sb.at_is_board KX G ?a1 ?l1 ?c1 ?k1) (Sb.at_snake_number KX G ?a2 ?l2 ?c2 ?k2) (Sb.at_snake_place KX G ?a3 ?l3 ?c3 ?k3) (Sb.at_snake_row KX G ?a4 ?l4 ?c4 ?k4) (Sb.at_board_of_snake KX G ?a5 ?l5 ?c5 ?k5) (Sb.at_is_snake_sorted KX G ?a6 ?l6 ?c6 ?k6) (Sb.at_row_phase KX G ?a7 ?l7 ?c7 ?k7) (Sb.at_columns_of KX G ?a8 ?l8 ?c8 ?k8) (Sb.at_column_phase KX G ?a9 ?l9 ?c9 ?k9) (Sb.at_rows_up KX G ?a10 ?l10 ?c10 ?k10) (Sb.at_is_up KX G ?a11 ?l11 ?c11 ?k11) (Sb.at_is_sorted_both KX G ?a12 ?l12 ?c12 ?k12) (Sb.at_z_open_cells KX G ?a13 ?l13 ?c13 ?k13) (Sb.at_z_pick KX G ?a14 ?l14 ?c14 ?k14) (Sb.at_z_board KX G ?a15 ?l15 ?c15 ?k15) (Sb.at_z_snake KX G ?a16 ?l16 ?c16 ?k16) (Sb.at_z_rows KX G ?a17 ?l17 ?c17 ?k17) (Sb.at_z_columns KX G ?a18 ?l18 ?c18 ?k18) (Sb.at_z_sheared KX G ?a19 ?l19 ?c19 ?k19) (Sb.at_law KX G ?a20 ?l20 ?c20 ?k20) ?z0 ?z1 ?z2 ?z3 ?z4 ?z5 ?z6 ?z7 ?z8 ?z9 ?z10 ?z11
    (case a0 => k_is); (case l0 => k_is); (case c0 => k_is); (case k0 => k_is); (case a1 => k_is); (case l1 => k_is); (case c1 => k_is); (case k1 => k_is); (case a2 => k_is); (case l2 => k_is); (case c2 => k_is); (case k2 => k_is); (case a3 => k_is); (case l3 => k_is); (case c3 => k_is); (case k3 => k_is); (case a4 => k_is); (case l4 => k_is); (case c4 => k_is); (case k4 => k_is); (case a5 => k_is); (case l5 => k_is); (case c5 => k_is); (case k5 => k_is); (case a6 => k_is); (case l6 => k_is); (case c6 => k_is); (case k6 => k_is); (case a7 => k_is); (case l7 => k_is); (case c7 => k_is); (case k7 => k_is); (case a8 => k_is); (case l8 => k_is); (case c8 => k_is); (case k8 => k_is); (case a9 => k_is); (case l9 => k_is); (case c9 => k_is); (case k9 => k_is); (case a10 => k_is); (case l10 => k_is); (case c10 => k_is); (case k10 => k_is); (case a11 => k_is); (case l11 => k_is); (case c11 => k_is); (case k11 => k_is); (case a12 => k_is); (case l12 => k_is); (case c12 => k_is); (case k12 => k_is); (case a13 => k_is); (case l13 => k_is); (case c13 => k_is); (case k13 => k_is); (case a14 => k_is); (case l14 => k_is); (case c14 => k_is); (case k14 => k_is); (case a15 => k_is); (case l15 => k_is); (case c15 => k_is); (case k15 => k_is); (case a16 => k_is); (case l16 => k_is); (case c16 => k_is); (case k16 => k_is); (case a17 => k_is); (case l17 => k_is); (case c17 => k_is); (case k17 => k_is); (case a18 => k_is); (case l18 => k_is); (case c18 => k_is); (case k18 => k_is); (case a19 => k_is); (case l19 => k_is); (case c19 => k_is); (case k19 => k_is); (case a20 => k_is); (case l20 => k_is); (case c20 => k_is); (case k20 => k_is); (case z0 => k_is); (case z1 => k_is); (case z2 => k_is); (case z3 => k_is); (case z4 => k_is); (case z5 => k_is); (case z6 => k_is); (case z7 => k_is); (case z8 => k_is); (case z9 => k_is); (case z10 => k_is); (case z11 => k_is)
