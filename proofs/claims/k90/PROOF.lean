import PyProof.Rows.All
import PySem.Challenge.RW_shelledlots_k90_whole_rows_and_right_ang
import HandS.ForMost
import HandS.Conv
import HandS.Zip
import HandS.IsInst
import HandS.SortInts
import HandS.SetFor
import HandS.Wide
import HandS.TupAny
import HandS.NoneIn
import HandS.More
import HandS.Style
import HandS.Deep
import HandS.Flow
import HandS.Exc
import HandS.Sort
import HandS.SortKw
import HandS.Dict
import HandS.Ends
import PyProof.EnumMake
import HandS.TupMul
import PyProof.ReprRoads
import PyProof.CallFns
import Wide.All
import OpenK.AllK
import Wide.FinOn
set_option Elab.async false
set_option linter.all false
set_option maxRecDepth 100000
set_option maxHeartbeats 1000000
set_option autoImplicit false
/-! DLa: values by data, frozen objects, own objects, the law's source. -/
namespace DL
open PySem PySem.Spec PyProof.Rows L2

inductive Sl where
  | sh (d : PyData) | ow (d : PyData) | src | fn (x : Str)
abbrev Nv := List (Option Sl)
def keyD : L2.Key → PyData
  | .inl i => .int i
  | .inr x => .str x

mutual
def Rp (F : Hp) : PyData → V → Prop
  | .none, v => v = .non
  | .bool b, v => v = .bl b
  | .int i, v => v = .int i
  | .str x, v => v = .str x
  | .list ds, v => ∃ a vs, v = .ref a ∧ F a = some (.lst vs) ∧ RpL F ds vs
  | .tuple ds, v => ∃ a vs, v = .ref a ∧ F a = some (.tup vs) ∧ RpL F ds vs
  | .dict kvs, v => ∃ a ks, v = .ref a ∧ F a = some (.dK ks) ∧ RpK F kvs ks
def RpL (F : Hp) : List PyData → List V → Prop
  | [], vs => vs = []
  | d :: ds, vs => ∃ v r, vs = v :: r ∧ Rp F d v ∧ RpL F ds r
def RpK (F : Hp) : List (PyData × PyData) → List (L2.Key × V) → Prop
  | [], ks => ks = []
  | (k, d) :: kr, ks => ∃ key v r, ks = (key, v) :: r ∧ k = keyD key ∧ Rp F d v ∧ RpK F kr r
end

mutual
theorem Rp.mono {F F' : Hp} (h : Same F F') : ∀ (d : PyData) (v : V), Rp F d v → Rp F' d v
  | .none, v, r => by simp only [Rp] at r ⊢; exact r
  | .bool b, v, r => by simp only [Rp] at r ⊢; exact r
  | .int i, v, r => by simp only [Rp] at r ⊢; exact r
  | .str x, v, r => by simp only [Rp] at r ⊢; exact r
  | .list ds, v, r => by
    simp only [Rp] at r ⊢
    obtain ⟨a, vs, e, f, g⟩ := r
    exact ⟨a, vs, e, h _ _ f, RpL.mono h ds vs g⟩
  | .tuple ds, v, r => by
    simp only [Rp] at r ⊢
    obtain ⟨a, vs, e, f, g⟩ := r
    exact ⟨a, vs, e, h _ _ f, RpL.mono h ds vs g⟩
  | .dict kvs, v, r => by
    simp only [Rp] at r ⊢
    obtain ⟨a, vs, e, f, g⟩ := r
    exact ⟨a, vs, e, h _ _ f, RpK.mono h kvs vs g⟩
theorem RpL.mono {F F' : Hp} (h : Same F F') : ∀ (ds : List PyData) (vs : List V), RpL F ds vs → RpL F' ds vs
  | [], vs, r => by simp only [RpL] at r ⊢; exact r
  | d :: ds, vs, r => by
    simp only [RpL] at r ⊢
    obtain ⟨v, q, e, f, g⟩ := r
    exact ⟨v, q, e, Rp.mono h d v f, RpL.mono h ds q g⟩
theorem RpK.mono {F F' : Hp} (h : Same F F') : ∀ (ds : List (PyData × PyData)) (vs : List (L2.Key × V)), RpK F ds vs → RpK F' ds vs
  | [], vs, r => by simp only [RpK] at r ⊢; exact r
  | (k, d) :: ds, vs, r => by
    simp only [RpK] at r ⊢
    obtain ⟨key, v, q, e, e2, f, g⟩ := r
    exact ⟨key, v, q, e, e2, Rp.mono h d v f, RpK.mono h ds q g⟩
end

section
variable {F : Hp}
theorem RpL.cons {d : PyData} {ds : List PyData} {v : V} {vs : List V} (h : Rp F d v) (t : RpL F ds vs) : RpL F (d :: ds) (v :: vs) := by
  simp only [RpL]; exact ⟨v, vs, rfl, h, t⟩
theorem RpL.nil : RpL F [] [] := by simp only [RpL]
theorem RpL.len : ∀ {ds : List PyData} {vs : List V}, RpL F ds vs → vs.length = ds.length
  | [], vs, r => by simp only [RpL] at r; subst r; rfl
  | d :: ds, vs, r => by
    simp only [RpL] at r
    obtain ⟨v, q, e, _, g⟩ := r
    subst e
    simp only [List.length_cons, RpL.len g]
theorem RpL.get : ∀ {ds : List PyData} {vs : List V} {i : Nat} {d : PyData}, RpL F ds vs → ds[i]? = some d → ∃ v, vs[i]? = some v ∧ Rp F d v
  | [], vs, i, d, r, e => by simp at e
  | d' :: ds, vs, 0, d, r, e => by
    simp only [RpL] at r
    obtain ⟨v, q, e2, f, g⟩ := r
    subst e2
    simp at e; subst e
    exact ⟨v, rfl, f⟩
  | d' :: ds, vs, i + 1, d, r, e => by
    simp only [RpL] at r
    obtain ⟨v, q, e2, f, g⟩ := r
    subst e2
    obtain ⟨v', h1, h2⟩ := RpL.get (i := i) (d := d) g (by simpa using e)
    exact ⟨v', by simpa using h1, h2⟩
theorem RpL.app : ∀ {ds es : List PyData} {vs ws : List V}, RpL F ds vs → RpL F es ws → RpL F (ds ++ es) (vs ++ ws)
  | [], es, vs, ws, r, t => by simp only [RpL] at r; subst r; exact t
  | d :: ds, es, vs, ws, r, t => by
    simp only [RpL] at r
    obtain ⟨v, q, e, f, g⟩ := r
    subst e
    exact RpL.cons f (RpL.app g t)
theorem RpL.take : ∀ {ds : List PyData} {vs : List V} (n : Nat), RpL F ds vs → RpL F (ds.take n) (vs.take n)
  | ds, vs, 0, r => by simp only [List.take_zero]; exact RpL.nil
  | [], vs, n + 1, r => by simp only [RpL] at r; subst r; exact RpL.nil
  | d :: ds, vs, n + 1, r => by
    simp only [RpL] at r
    obtain ⟨v, q, e, f, g⟩ := r
    subst e
    exact RpL.cons f (RpL.take n g)
theorem RpL.drop : ∀ {ds : List PyData} {vs : List V} (n : Nat), RpL F ds vs → RpL F (ds.drop n) (vs.drop n)
  | ds, vs, 0, r => r
  | [], vs, n + 1, r => by simp only [RpL] at r; subst r; exact RpL.nil
  | d :: ds, vs, n + 1, r => by
    simp only [RpL] at r
    obtain ⟨v, q, e, f, g⟩ := r
    subst e
    exact RpL.drop n g
theorem RpL.set : ∀ {ds : List PyData} {vs : List V} (i : Nat) {d : PyData} {v : V}, RpL F ds vs → Rp F d v → RpL F (ds.set i d) (vs.set i v)
  | [], vs, i, d, v, r, h => by simp only [RpL] at r; subst r; exact RpL.nil
  | d' :: ds, vs, 0, d, v, r, h => by
    simp only [RpL] at r
    obtain ⟨v', q, e, f, g⟩ := r
    subst e
    exact RpL.cons h g
  | d' :: ds, vs, i + 1, d, v, r, h => by
    simp only [RpL] at r
    obtain ⟨v', q, e, f, g⟩ := r
    subst e
    exact RpL.cons f (RpL.set i g h)
theorem RpL.erase : ∀ {ds : List PyData} {vs : List V} (i : Nat), RpL F ds vs → RpL F (ds.eraseIdx i) (vs.eraseIdx i)
  | [], vs, i, r => by simp only [RpL] at r; subst r; exact RpL.nil
  | d' :: ds, vs, 0, r => by
    simp only [RpL] at r
    obtain ⟨v', q, e, f, g⟩ := r
    subst e
    exact g
  | d' :: ds, vs, i + 1, r => by
    simp only [RpL] at r
    obtain ⟨v', q, e, f, g⟩ := r
    subst e
    exact RpL.cons f (RpL.erase i g)
theorem RpL.rev : ∀ {ds : List PyData} {vs : List V}, RpL F ds vs → RpL F ds.reverse vs.reverse
  | [], vs, r => by simp only [RpL] at r; subst r; exact RpL.nil
  | d :: ds, vs, r => by
    simp only [RpL] at r
    obtain ⟨v, q, e, f, g⟩ := r
    subst e
    simp only [List.reverse_cons]
    exact RpL.app (RpL.rev g) (RpL.cons f RpL.nil)
theorem RpL.rep {ds : List PyData} {vs : List V} (r : RpL F ds vs) : ∀ k : Nat, RpL F (List.replicate k ds).flatten (List.replicate k vs).flatten
  | 0 => RpL.nil
  | k + 1 => by
    simp only [List.replicate_succ, List.flatten_cons]
    exact RpL.app r (RpL.rep r k)
theorem RpL.int : ∀ {ns : List Int} {vs : List V}, RpL F (ns.map .int) vs → vs = ns.map V.int
  | [], vs, r => by simp only [List.map_nil, RpL] at r; subst r; rfl
  | n :: ns, vs, r => by
    simp only [List.map_cons, RpL, Rp] at r
    obtain ⟨v, q, e, f, g⟩ := r
    subst e f
    simp only [List.map_cons, RpL.int g]
theorem RpL.ofInt : ∀ (ns : List Int), RpL F (ns.map .int) (ns.map V.int)
  | [] => RpL.nil
  | n :: ns => RpL.cons (by simp only [Rp]) (RpL.ofInt ns)
theorem RpL.bls : ∀ {ns : List Bool} {vs : List V}, RpL F (ns.map .bool) vs → vs = ns.map V.bl
  | [], vs, r => by simp only [List.map_nil, RpL] at r; subst r; rfl
  | n :: ns, vs, r => by
    simp only [List.map_cons, RpL, Rp] at r
    obtain ⟨v, q, e, f, g⟩ := r
    subst e f
    simp only [List.map_cons, RpL.bls g]
theorem Rp.int_iff {i : Int} {v : V} : Rp F (.int i) v ↔ v = .int i := by simp only [Rp]
theorem Rp.bool_iff {i : Bool} {v : V} : Rp F (.bool i) v ↔ v = .bl i := by simp only [Rp]
theorem Rp.str_iff {i : Str} {v : V} : Rp F (.str i) v ↔ v = .str i := by simp only [Rp]
theorem Rp.none_iff {v : V} : Rp F .none v ↔ v = .non := by simp only [Rp]
theorem Rp.lst {a : Addr} {vs : List V} {ds : List PyData} (h : F a = some (.lst vs)) (r : RpL F ds vs) : Rp F (.list ds) (.ref a) := by
  simp only [Rp]; exact ⟨a, vs, rfl, h, r⟩
theorem Rp.tup {a : Addr} {vs : List V} {ds : List PyData} (h : F a = some (.tup vs)) (r : RpL F ds vs) : Rp F (.tuple ds) (.ref a) := by
  simp only [Rp]; exact ⟨a, vs, rfl, h, r⟩
end

/-- the source: a dict, its list of cells -/
def SrcAt (H : Hp) (p c : Addr) : Prop := ∃ (cells : List Int) (left mixed turn : Int), 0 ≤ left ∧
  H p = some (.dK [(.inr "cells", .ref c), (.inr "left", .int left), (.inr "mixed", .int mixed), (.inr "turn", .int turn)]) ∧
  H c = some (.lst (cells.map V.int)) ∧ (∀ x ∈ cells, 0 ≤ x) ∧ mixed.natAbs < 2 ^ 100 ∧ 0 ≤ turn ∧ cells.length ≤ 63

abbrev Pc := Option (Addr × Addr)
/-- F: what is known and stays; G: what stays besides; pc: the source -/
structure RelC (G F : Hp) (pc : Pc) (H : Hp) : Prop where
  g : Same G H
  f : Same F H
  fg : ∀ a o, F a = some o → G a = none
  src : ∀ p c, pc = some (p, c) → SrcAt H p c ∧ G p = none ∧ G c = none ∧ F p = none ∧ F c = none
/-- an own object's content -/
def Cnt (F H : Hp) (a : Addr) : PyData → Prop
  | .list ds => ∃ vs, H a = some (.lst vs) ∧ RpL F ds vs
  | .dict kvs => ∃ ks, H a = some (.dK ks) ∧ RpK F kvs ks
  | _ => False
structure OwnAt (G F : Hp) (pc : Pc) (H : Hp) (a : Addr) (d : PyData) : Prop where
  f : F a = none
  g : G a = none
  s : ∀ p c, pc = some (p, c) → a ≠ p ∧ a ≠ c
  cnt : Cnt F H a d
/-- a global def as a value -/
def FnV (M : Str → Option Value) (x : Str) (v : V) : Prop := ∃ a, M x = some (.ref a) ∧ v = .ref a
def SlOk (M : Str → Option Value) (G F : Hp) (pc : Pc) (H : Hp) (v : V) : Sl → Prop
  | .sh d => Rp F d v
  | .ow d => ∃ a, v = .ref a ∧ OwnAt G F pc H a d
  | .src => ∃ p c, pc = some (p, c) ∧ v = .ref p
  | .fn x => FnV M x v
structure Rel (M : Str → Option Value) (G F : Hp) (pc : Pc) (env : Nv) (σ : L2.St) (H : Hp) : Prop where
  base : RelC G F pc H
  len : env.length = σ.length
  cell : ∀ (i : Nat) (c : Sl), env[i]? = some (some c) → ∃ v, σ[i]? = some (some v) ∧ SlOk M G F pc H v c
  dis : ∀ (i j : Nat) (a : Addr) (d e : PyData), i ≠ j → env[i]? = some (some (.ow d)) → env[j]? = some (some (.ow e)) → σ[i]? = some (some (.ref a)) → σ[j]? ≠ some (some (.ref a))
/-- a fresh own object -/
structure Frs (G F : Hp) (pc : Pc) (env : Nv) (σ : L2.St) (H : Hp) (a : Addr) (d : PyData) : Prop where
  own : OwnAt G F pc H a d
  dis : ∀ (i : Nat) (e : PyData), env[i]? = some (some (.ow e)) → σ[i]? ≠ some (some (.ref a))

section
variable {M : Str → Option Value} {G F F' H H' : Hp} {pc : Pc} {env : Nv} {σ : L2.St} {a p : Addr} {o : HO} {d : PyData}
theorem same_new (h : H p = none) : Same H (upd H p o) := fun b x e => by
  rw [upd_ne (ne_of_none e h)]; exact e
theorem Cnt.grow (c : Cnt F H a d) (hF : Same F F') (k : ∀ o, H a = some o → H' a = some o) : Cnt F' H' a d := by
  cases d with
  | list ds => obtain ⟨vs, h, r⟩ := c; exact ⟨vs, k _ h, RpL.mono hF _ _ r⟩
  | dict ds => obtain ⟨vs, h, r⟩ := c; exact ⟨vs, k _ h, RpK.mono hF _ _ r⟩
  | _ => exact False.elim c
theorem Cnt.ex (c : Cnt F H a d) : ∃ o, H a = some o := by
  cases d with
  | list ds => obtain ⟨vs, h, r⟩ := c; exact ⟨_, h⟩
  | dict ds => obtain ⟨vs, h, r⟩ := c; exact ⟨_, h⟩
  | _ => exact False.elim c
theorem SrcAt.grow {c : Addr} (s : SrcAt H p c) (k1 : ∀ o, H p = some o → H' p = some o) (k2 : ∀ o, H c = some o → H' c = some o) : SrcAt H' p c := by
  obtain ⟨cells, l, m, t, h0, h1, h2, h3⟩ := s
  exact ⟨cells, l, m, t, h0, k1 _ h1, k2 _ h2, h3⟩
theorem RelC.free (r : RelC G F pc H) (h : H p = none) : F p = none ∧ G p = none ∧ ∀ q c, pc = some (q, c) → p ≠ q ∧ p ≠ c := by
  refine ⟨?_, ?_, fun q c e => ?_⟩
  · cases x : F p with
    | none => rfl
    | some o => have := r.f _ _ x; rw [h] at this; cases this
  · cases x : G p with
    | none => rfl
    | some o => have := r.g _ _ x; rw [h] at this; cases this
  · obtain ⟨⟨_, _, _, _, _, h1, h2, _⟩, _⟩ := r.src q c e
    exact ⟨Ne.symm (ne_of_none h1 h), Ne.symm (ne_of_none h2 h)⟩
/-- the heap grows -/
theorem RelC.step (r : RelC G F pc H) (hs : Same H H') (hF : Same F F') (hF' : Same F' H') (hn : ∀ a o, F' a = some o → F a = some o ∨ H a = none) : RelC G F' pc H' := by
  refine ⟨fun b o e => hs _ _ (r.g _ _ e), hF', fun b o e => ?_, fun q c e => ?_⟩
  · rcases hn b o e with x | x
    · exact r.fg _ _ x
    · exact (r.free x).2.1
  · obtain ⟨s, g1, g2, f1, f2⟩ := r.src q c e
    obtain ⟨_, _, _, _, _, h1, h2, _⟩ := id s
    have nn : ∀ b o, H b = some o → F b = none → F' b = none := fun b o h f => by
      cases x : F' b with
      | none => rfl
      | some y =>
        rcases hn b y x with z | z
        · rw [f] at z; cases z
        · rw [h] at z; cases z
    exact ⟨s.grow (fun o h => hs _ _ h) (fun o h => hs _ _ h), g1, g2, nn _ _ h1 f1, nn _ _ h2 f2⟩
theorem OwnAt.step (r : OwnAt G F pc H a d) (hs : Same H H') (hF : Same F F') (hn : ∀ a o, F' a = some o → F a = some o ∨ H a = none) : OwnAt G F' pc H' a d := by
  refine ⟨?_, r.g, r.s, r.cnt.grow hF (fun o h => hs _ _ h)⟩
  cases x : F' a with
  | none => rfl
  | some y =>
    obtain ⟨o, h⟩ := r.cnt.ex
    rcases hn a y x with z | z
    · rw [r.f] at z; cases z
    · rw [h] at z; cases z
theorem Rel.step (r : Rel M G F pc env σ H) (hs : Same H H') (hF : Same F F') (hF' : Same F' H') (hn : ∀ a o, F' a = some o → F a = some o ∨ H a = none) : Rel M G F' pc env σ H' := by
  refine ⟨r.base.step hs hF hF' hn, r.len, fun i c e => ?_, r.dis⟩
  obtain ⟨v, h1, h2⟩ := r.cell i c e
  refine ⟨v, h1, ?_⟩
  cases c with
  | sh d => exact Rp.mono hF _ _ h2
  | ow d => obtain ⟨a, e1, w⟩ := h2; exact ⟨a, e1, w.step hs hF hn⟩
  | src => exact h2
  | fn x => exact h2
theorem Frs.step (r : Frs G F pc env σ H a d) (hs : Same H H') (hF : Same F F') (hn : ∀ a o, F' a = some o → F a = some o ∨ H a = none) : Frs G F' pc env σ H' a d :=
  ⟨r.own.step hs hF hn, r.dis⟩
/-- an object is laid that nobody knows -/
theorem Rel.lay (r : Rel M G F pc env σ H) (h : H p = none) : Rel M G F pc env σ (upd H p o) :=
  r.step (same_new h) (Same.refl _) (fun b x e => same_new h _ _ (r.base.f _ _ e)) fun a o e => .inl e
/-- a new object is laid and frozen -/
theorem Rel.layF (r : Rel M G F pc env σ H) (h : H p = none) : Rel M G (upd F p o) pc env σ (upd H p o) := by
  have hf := (r.base.free h).1
  refine r.step (same_new h) (same_new hf) (fun b x e => ?_) fun b x e => ?_
  · by_cases hb : b = p
    · subst hb; rw [upd_same] at e ⊢; exact e
    · rw [upd_ne hb] at e ⊢; exact r.base.f _ _ e
  · by_cases hb : b = p
    · subst hb; exact .inr h
    · rw [upd_ne hb] at e; exact .inl e
theorem Rel.layO (r : Rel M G F pc env σ H) (h : H p = none) (c : Cnt F (upd H p o) p d) : Rel M G F pc env σ (upd H p o) ∧ Frs G F pc env σ (upd H p o) p d := by
  obtain ⟨h1, h2, h3⟩ := r.base.free h
  refine ⟨r.lay h, ⟨h1, h2, h3, c⟩, fun i e he hs => ?_⟩
  obtain ⟨v, e1, a, e2, w⟩ := r.cell i _ he
  rw [hs] at e1
  cases e1
  cases e2
  obtain ⟨o', ho⟩ := w.cnt.ex
  rw [h] at ho; cases ho
/-- a fresh own object is frozen -/
theorem Cnt.rp (c : Cnt F H a d) (h : F a = none) : ∃ o, H a = some o ∧ Rp (upd F a o) d (.ref a) := by
  cases d with
  | list ds => obtain ⟨vs, e, r⟩ := c; exact ⟨_, e, Rp.lst upd_same (RpL.mono (same_new h) _ _ r)⟩
  | dict ds =>
    obtain ⟨vs, e, r⟩ := c
    refine ⟨_, e, ?_⟩
    simp only [Rp]
    exact ⟨a, vs, rfl, upd_same, RpK.mono (same_new h) _ _ r⟩
  | _ => exact False.elim c
theorem RelC.freeze (r : RelC G F pc H) (w : OwnAt G F pc H a d) (e : H a = some o) : RelC G (upd F a o) pc H := by
  refine ⟨r.g, fun b x q => ?_, fun b x q => ?_, fun q c ep => ?_⟩
  · by_cases hb : b = a
    · subst hb; rw [upd_same] at q; cases q; exact e
    · rw [upd_ne hb] at q; exact r.f _ _ q
  · by_cases hb : b = a
    · subst hb; exact w.g
    · rw [upd_ne hb] at q; exact r.fg _ _ q
  · obtain ⟨s, g1, g2, f1, f2⟩ := r.src q c ep
    obtain ⟨n1, n2⟩ := w.s q c ep
    exact ⟨s, g1, g2, by rw [upd_ne n1.symm]; exact f1, by rw [upd_ne n2.symm]; exact f2⟩
theorem OwnAt.freeze {b : Addr} {e : PyData} (w : OwnAt G F pc H b e) (hb : b ≠ a) (hn : F a = none) : OwnAt G (upd F a o) pc H b e :=
  ⟨by rw [upd_ne hb]; exact w.f, w.g, w.s, w.cnt.grow (same_new hn) fun _ h => h⟩
theorem Rel.freeze (r : Rel M G F pc env σ H) (w : Frs G F pc env σ H a d) : ∃ o, H a = some o ∧ Rel M G (upd F a o) pc env σ H ∧ Rp (upd F a o) d (.ref a) ∧ Same F (upd F a o) := by
  obtain ⟨o, e, rp⟩ := w.own.cnt.rp w.own.f
  refine ⟨o, e, ⟨r.base.freeze w.own e, r.len, fun i c ec => ?_, r.dis⟩, rp, same_new w.own.f⟩
  obtain ⟨v, h1, h2⟩ := r.cell i c ec
  refine ⟨v, h1, ?_⟩
  cases c with
  | sh d => exact Rp.mono (same_new w.own.f) _ _ h2
  | ow d =>
    obtain ⟨b, e1, w'⟩ := h2
    refine ⟨b, e1, w'.freeze (fun z => ?_) w.own.f⟩
    subst z; subst e1
    exact w.dis i d ec h1
  | src => exact h2
  | fn x => exact h2
/-- an own slot is frozen -/
theorem Rel.freezeAt {i : Nat} (r : Rel M G F pc env σ H) (e : env[i]? = some (some (.ow d))) : ∃ F' v, Rel M G F' pc (env.set i (some (.sh d))) σ H ∧ Rp F' d v ∧ Same F F' ∧ σ[i]? = some (some v) := by
  obtain ⟨v, h1, a, h2, w⟩ := r.cell i _ e
  subst h2
  obtain ⟨o, eo, rp⟩ := w.cnt.rp w.f
  have hi : i < env.length := (List.getElem?_eq_some_iff.mp e).1
  refine ⟨upd F a o, _, ⟨r.base.freeze w eo, by rw [List.length_set]; exact r.len, fun j c ec => ?_, fun j k b d1 d2 hjk e1 e2 => ?_⟩, rp, same_new w.f, h1⟩
  · by_cases hj : j = i
    · subst hj
      rw [List.getElem?_set_self hi] at ec
      cases ec
      exact ⟨_, h1, rp⟩
    · rw [List.getElem?_set_ne (Ne.symm hj)] at ec
      obtain ⟨v, g1, g2⟩ := r.cell j c ec
      refine ⟨v, g1, ?_⟩
      cases c with
      | sh d => exact Rp.mono (same_new w.f) _ _ g2
      | ow d2 =>
        obtain ⟨b, e1, w'⟩ := g2
        refine ⟨b, e1, w'.freeze (fun z => ?_) w.f⟩
        subst z; subst e1
        exact r.dis j i b d2 d hj ec e g1 h1
      | src => exact g2
      | fn x => exact g2
  · have nj : j ≠ i := fun z => by subst z; rw [List.getElem?_set_self hi] at e1; cases e1
    have nk : k ≠ i := fun z => by subst z; rw [List.getElem?_set_self hi] at e2; cases e2
    rw [List.getElem?_set_ne (Ne.symm nj)] at e1
    rw [List.getElem?_set_ne (Ne.symm nk)] at e2
    exact r.dis j k b d1 d2 hjk e1 e2
/-- an own slot's object is written -/
theorem Rel.write {i : Nat} {d' : PyData} (r : Rel M G F pc env σ H) (e : env[i]? = some (some (.ow d))) (hs : σ[i]? = some (some (.ref a))) (c : Cnt F (upd H a o) a d') : Rel M G F pc (env.set i (some (.ow d'))) σ (upd H a o) := by
  obtain ⟨v, h1, a', h2, w⟩ := r.cell i _ e
  rw [hs] at h1; cases h1; cases h2
  have hi : i < env.length := (List.getElem?_eq_some_iff.mp e).1
  refine ⟨⟨fun b x q => ?_, fun b x q => ?_, r.base.fg, fun q c' ep => ?_⟩, by rw [List.length_set]; exact r.len, fun j c' ec => ?_, fun j k b d1 d2 hjk e1 e2 => ?_⟩
  · have hb : b ≠ a := fun z => by subst z; rw [w.g] at q; cases q
    rw [upd_ne hb]; exact r.base.g _ _ q
  · have hb : b ≠ a := fun z => by subst z; rw [w.f] at q; cases q
    rw [upd_ne hb]; exact r.base.f _ _ q
  · obtain ⟨s, rest⟩ := r.base.src q c' ep
    obtain ⟨n1, n2⟩ := w.s q c' ep
    exact ⟨s.grow (fun o h => by rw [upd_ne n1.symm]; exact h) (fun o h => by rw [upd_ne n2.symm]; exact h), rest⟩
  · by_cases hj : j = i
    · subst hj
      rw [List.getElem?_set_self hi] at ec
      cases ec
      exact ⟨_, hs, a, rfl, w.f, w.g, w.s, c⟩
    · rw [List.getElem?_set_ne (Ne.symm hj)] at ec
      obtain ⟨v, g1, g2⟩ := r.cell j c' ec
      refine ⟨v, g1, ?_⟩
      cases c' with
      | sh d => exact g2
      | ow d2 =>
        obtain ⟨b, e1, w'⟩ := g2
        subst e1
        have hb : b ≠ a := fun z => by subst z; exact r.dis j i b d2 d hj ec e g1 hs
        exact ⟨b, rfl, w'.f, w'.g, w'.s, w'.cnt.grow (Same.refl _) fun o h => by rw [upd_ne hb]; exact h⟩
      | src => exact g2
      | fn x => exact g2
  · by_cases hj : j = i
    · subst hj
      rw [List.getElem?_set_ne hjk] at e2
      exact r.dis j k b d d2 hjk e e2
    · rw [List.getElem?_set_ne (Ne.symm hj)] at e1
      by_cases hk : k = i
      · subst hk
        exact r.dis j k b d1 d hjk e1 e
      · rw [List.getElem?_set_ne (Ne.symm hk)] at e2
        exact r.dis j k b d1 d2 hjk e1 e2
/-- a slot is stored -/
theorem Rel.setSh {i : Nat} {v : V} (r : Rel M G F pc env σ H) (h : Rp F d v) : Rel M G F pc (env.set i (some (.sh d))) (σ.set i (some v)) H := by
  refine ⟨r.base, by rw [List.length_set, List.length_set]; exact r.len, fun j c ec => ?_, fun j k b d1 d2 hjk e1 e2 => ?_⟩
  · by_cases hj : j = i
    · subst hj
      by_cases hi : j < env.length
      · rw [List.getElem?_set_self hi] at ec
        cases ec
        exact ⟨v, List.getElem?_set_self (by rw [← r.len]; exact hi), h⟩
      · rw [List.getElem?_eq_none (by simpa using hi)] at ec; cases ec
    · rw [List.getElem?_set_ne (Ne.symm hj)] at ec ⊢
      exact r.cell j c ec
  · by_cases hi : i < env.length
    · have nj : j ≠ i := fun z => by subst z; rw [List.getElem?_set_self hi] at e1; cases e1
      have nk : k ≠ i := fun z => by subst z; rw [List.getElem?_set_self hi] at e2; cases e2
      rw [List.getElem?_set_ne (Ne.symm nj)] at e1 ⊢
      rw [List.getElem?_set_ne (Ne.symm nk)] at e2 ⊢
      exact r.dis j k b d1 d2 hjk e1 e2
    · rw [List.set_eq_of_length_le (by omega)] at e1 e2
      rw [List.set_eq_of_length_le (by have := r.len; omega)]
      exact r.dis j k b d1 d2 hjk e1 e2
theorem Rel.setOw {i : Nat} (r : Rel M G F pc env σ H) (h : Frs G F pc env σ H a d) : Rel M G F pc (env.set i (some (.ow d))) (σ.set i (some (.ref a))) H := by
  refine ⟨r.base, by rw [List.length_set, List.length_set]; exact r.len, fun j c ec => ?_, fun j k b d1 d2 hjk e1 e2 => ?_⟩
  · by_cases hj : j = i
    · subst hj
      by_cases hi : j < env.length
      · rw [List.getElem?_set_self hi] at ec
        cases ec
        exact ⟨_, List.getElem?_set_self (by rw [← r.len]; exact hi), a, rfl, h.own⟩
      · rw [List.getElem?_eq_none (by simpa using hi)] at ec; cases ec
    · rw [List.getElem?_set_ne (Ne.symm hj)] at ec ⊢
      exact r.cell j c ec
  · by_cases hi : i < env.length
    · by_cases nj : j = i
      · subst nj
        rw [List.getElem?_set_ne hjk] at e2
        rw [List.getElem?_set_self (by rw [← r.len]; exact hi), List.getElem?_set_ne hjk]
        intro z; cases z
        exact h.dis k d2 e2
      · rw [List.getElem?_set_ne (Ne.symm nj)] at e1 ⊢
        by_cases nk : k = i
        · subst nk
          rw [List.getElem?_set_self (by rw [← r.len]; exact hi)]
          intro z q; cases q
          exact h.dis j d1 e1 z
        · rw [List.getElem?_set_ne (Ne.symm nk)] at e2 ⊢
          exact r.dis j k b d1 d2 hjk e1 e2
    · rw [List.set_eq_of_length_le (by omega)] at e1 e2
      rw [List.set_eq_of_length_le (by have := r.len; omega)]
      exact r.dis j k b d1 d2 hjk e1 e2
/-- less is known of the slots -/
theorem Rel.weak {env' : Nv} {σ' : L2.St} (r : Rel M G F pc env σ H) (hl : env'.length = env.length) (hl2 : σ'.length = σ.length)
    (h : ∀ (i : Nat) (c : Sl), env'[i]? = some (some c) → env[i]? = some (some c) ∧ σ'[i]? = σ[i]?) : Rel M G F pc env' σ' H := by
  refine ⟨r.base, by rw [hl, hl2]; exact r.len, fun j c ec => ?_, fun j k b d1 d2 hjk e1 e2 => ?_⟩
  · obtain ⟨h1, h2⟩ := h j c ec
    rw [h2]; exact r.cell j c h1
  · obtain ⟨h1, h2⟩ := h j _ e1
    obtain ⟨h3, h4⟩ := h k _ e2
    rw [h2, h4]
    exact r.dis j k b d1 d2 hjk h1 h3
end
end DL
set_option Elab.async false
set_option linter.all false
set_option maxRecDepth 100000
set_option maxHeartbeats 1000000
set_option autoImplicit false
/-! DLb: judgements over data; expressions. -/
namespace DL
open PySem PySem.Spec PyProof.Rows L2

abbrev WE := Nv → (PyData → Nv → Prop) → Prop
abbrev WT := Nv → (Bool → Nv → Prop) → Prop
abbrev WA := Nv → (List PyData → Nv → Prop) → Prop
def MoE (w : WE) : Prop := ∀ env P P', (∀ d e, P d e → P' d e) → w env P → w env P'
def MoT (w : WT) : Prop := ∀ env P P', (∀ d e, P d e → P' d e) → w env P → w env P'
def MoA (w : WA) : Prop := ∀ env P P', (∀ d e, P d e → P' d e) → w env P → w env P'
def PcLe (pc pc' : Pc) : Prop := pc = none ∨ pc' = pc
theorem PcLe.refl {pc : Pc} : PcLe pc pc := .inr rfl
theorem PcLe.trans {a b c : Pc} (h : PcLe a b) (g : PcLe b c) : PcLe a c := by
  rcases h with h | h
  · exact .inl h
  · rw [h] at g
    rcases g with g | g
    · exact .inl g
    · exact .inr g
def tW (M : Str → Option Value) (w : WE) : TE := fun σ H Q => ∃ G F pc env, Rel M G F pc env σ H ∧ w env fun d env' => ∀ v F' pc' H', Same F F' → PcLe pc pc' → Rel M G F' pc' env' σ H' → Rp F' d v → Q v H'
def tO (M : Str → Option Value) (w : WE) : TE := fun σ H Q => ∃ G F pc env, Rel M G F pc env σ H ∧ w env fun d env' => ∀ a F' pc' H', Same F F' → PcLe pc pc' → Rel M G F' pc' env' σ H' → Frs G F' pc' env' σ H' a d → Q (.ref a) H'
def tT (M : Str → Option Value) (w : WT) : TT := fun σ H Q => ∃ G F pc env, Rel M G F pc env σ H ∧ w env fun b env' => ∀ F' pc' H', Same F F' → PcLe pc pc' → Rel M G F' pc' env' σ H' → Q b H'
def tA (M : Str → Option Value) (w : WA) : TA := fun σ H Q => ∃ G F pc env, Rel M G F pc env σ H ∧ w env fun ds env' => ∀ vs F' pc' H', Same F F' → PcLe pc pc' → Rel M G F' pc' env' σ H' → RpL F' ds vs → Q vs H'
/-- an expression by its data -/
structure ED (X : Cx) (e : Expr) (w : WE) : Prop where
  mo : MoE w
  pe : PE X e (tW X.mg w)
/-- .. whose value is a new list or dict -/
structure OD (X : Cx) (e : Expr) (w : WE) : Prop where
  mo : MoE w
  pe : PE X e (tO X.mg w)
structure TD (X : Cx) (e : Expr) (w : WT) : Prop where
  mo : MoT w
  pt : PT X e (tT X.mg w)
structure AD (X : Cx) (es : List Expr) (w : WA) : Prop where
  mo : MoA w
  pa : PA X es (tA X.mg w)
theorem pe_conv {X : Cx} {e : Expr} {t t' : TE} (h : PE X e t) (k : ∀ σ H Q, t' σ H Q → t σ H Q) : PE X e t' := ⟨fun pins s σ H Q I q => h.run pins s σ H Q I (k σ H Q q)⟩
theorem pt_conv {X : Cx} {e : Expr} {t t' : TT} (h : PT X e t) (k : ∀ σ H Q, t' σ H Q → t σ H Q) : PT X e t' := ⟨fun pins s σ H Q I q => h.run pins s σ H Q I (k σ H Q q)⟩
theorem pa_conv {X : Cx} {e : List Expr} {t t' : TA} (h : PA X e t) (k : ∀ σ H Q, t' σ H Q → t σ H Q) : PA X e t' := ⟨fun pos pins s σ H Q I q => h.run pos pins s σ H Q I (k σ H Q q)⟩

section
variable {X : Cx} {e a b c : Expr} {w w1 w2 w3 : WE} {pos : Pos}
theorem OD.ed (h : OD X e w) : ED X e w := ⟨h.mo, pe_conv h.pe fun σ H Q ⟨G, F, pc, env, r, q⟩ => ⟨G, F, pc, env, r, h.mo _ _ _ (fun d env' k a F' pc' H' s p r' f => by
  obtain ⟨o, e, r2, rp, s2⟩ := r'.freeze f
  exact k _ _ pc' H' (s.trans s2) p r2 rp) q⟩⟩
/-- steps on readings -/
theorem tW_mono {M : Str → Option Value} {w : WE} (mo : MoE w) {σ : L2.St} {H : Hp} {Q Q' : VK} (h : tW M w σ H Q) (k : ∀ v H, Q v H → Q' v H) : tW M w σ H Q' := by
  obtain ⟨G, F, pc, env, r, q⟩ := h
  exact ⟨G, F, pc, env, r, mo _ _ _ (fun d env' k2 v F' pc' H' s p r' rp => k _ _ (k2 v F' pc' H' s p r' rp)) q⟩

/-! names, constants -/
def wVar (i : Nat) : WE := fun env P => match env[i]? with
  | some (some (.sh d)) => P d env
  | some (some (.ow d)) => P d (env.set i (some (.sh d)))
  | _ => False
theorem ed_var (i : Nat) {x : Str} (h : PE X (.Name x pos) (tVar i)) : ED X (.Name x pos) (wVar i) := by
  refine ⟨fun env P P' k q => ?_, pe_conv h fun σ H Q ⟨G, F, pc, env, r, q⟩ => ?_⟩
  · unfold wVar at q ⊢
    split at q
    · exact k _ _ q
    · exact k _ _ q
    · exact q
  · unfold wVar at q
    split at q
    · rename_i d e
      obtain ⟨v, h1, h2⟩ := r.cell i _ e
      exact ⟨v, h1, q v F pc H (Same.refl _) .refl r h2⟩
    · rename_i d e
      obtain ⟨F', v, r2, rp, s, h1⟩ := r.freezeAt e
      exact ⟨v, h1, q v F' pc H s .refl r2 rp⟩
    · exact q.elim
def wC (d : PyData) : WE := fun env P => P d env
theorem moC (d : PyData) : MoE (wC d) := fun _ _ _ k q => k _ _ q
theorem ed_const {d : PyData} {v : V} (h : PE X e (tC v)) (hd : ∀ F, Rp F d v) : ED X e (wC d) :=
  ⟨moC d, pe_conv h fun σ H Q ⟨G, F, pc, env, r, q⟩ => q v F pc H (Same.refl _) .refl r (hd F)⟩
theorem ed_int {i : Int} {j : Nat} : ED X (.Constant (.int i) j pos) (wC (.int i)) := ed_const pe_int fun F => by simp only [Rp]
theorem ed_bl {i : Bool} {j : Nat} : ED X (.Constant (.bool i) j pos) (wC (.bool i)) := ed_const pe_bl fun F => by simp only [Rp]
theorem ed_non {j : Nat} : ED X (.Constant .none j pos) (wC .none) := ed_const pe_non fun F => by simp only [Rp]
theorem ed_str {x : Str} {j : Nat} : ED X (.Constant (.str x) j pos) (wC (.str x)) := ed_const pe_str fun F => by simp only [Rp]
theorem ed_glob {x : Str} {i : Int} {t : Tok} (hg : Gl X x) (hm : X.mg x = some (.int i t)) (hd : (x == ("__debug__" : Str)) = false := by decide) : ED X (.Name x pos) (wC (.int i)) :=
  ed_const (pe_glob (v := .int i) hg hm ⟨t, rfl⟩ hd) fun F => by simp only [Rp]

/-! operators -/
abbrev B2 := PyData → PyData → (PyData → Prop) → Prop
def MoB (B : B2) : Prop := ∀ d e P P', (∀ z, P z → P' z) → B d e P → B d e P'
def wBin (B : B2) (w1 w2 : WE) : WE := fun env P => w1 env fun d e1 => w2 e1 fun e e2 => B d e fun z => P z e2
theorem moBin {B : B2} (hB : MoB B) (h1 : MoE w1) (h2 : MoE w2) : MoE (wBin B w1 w2) := fun env P P' k q =>
  h1 _ _ _ (fun d e1 q1 => h2 _ _ _ (fun e e2 q2 => hB _ _ _ _ (fun z p => k _ _ p) q2) q1) q
/-- what an operation's rule must show -/
def BOk (X : Cx) (B : B2) (r : R2) : Prop := ∀ (G F : Hp) (pc : Pc) (env : Nv) (σ : L2.St) (H : Hp) (x y : V) (d e : PyData) (P : PyData → Prop) (Q : VK), Rel X.mg G F pc env σ H → Rp F d x → Rp F e y → B d e P →
  (∀ z v F' H', P z → Same F F' → Rel X.mg G F' pc env σ H' → Rp F' z v → Q v H') → r x y H Q
theorem tW_bin {B : B2} {r : R2} (ok : BOk X B r) (hB : MoB B) (h1 : MoE w1) (h2 : MoE w2) {σ : L2.St} {H : Hp} {Q : VK} (h : tW X.mg (wBin B w1 w2) σ H Q) : tOp r (tW X.mg w1) (tW X.mg w2) σ H Q := by
  obtain ⟨G, F, pc, env, r0, q⟩ := h
  refine ⟨G, F, pc, env, r0, h1 _ _ _ (fun d e1 q1 v1 F1 pc1 H1 s1 p1 r1 rp1 => ?_) q⟩
  refine ⟨G, F1, pc1, e1, r1, h2 _ _ _ (fun e e2 q2 v2 F2 pc2 H2 s2 p2 r2 rp2 => ?_) q1⟩
  exact ok G F2 pc2 e2 σ H2 v1 v2 d e _ Q r2 (Rp.mono s2 _ _ rp1) rp2 q2 fun z v F' H' pz s r' rp => pz v F' pc2 H' ((s1.trans s2).trans s) (p1.trans p2) r' rp
theorem ed_bin {op : Operator} {B : B2} {r : R2} (ho : OpR X (binaryOp op) r) (ok : BOk X B r) (hB : MoB B) (h1 : ED X a w1) (h2 : ED X b w2) : ED X (.BinOp a op b pos) (wBin B w1 w2) :=
  ⟨moBin hB h1.mo h2.mo, pe_conv (pe_op ho h1.pe h2.pe) fun σ H Q h => tW_bin ok hB h1.mo h2.mo h⟩
theorem ed_cmp {op : CmpOp} {B : B2} {r : R2} (ho : OpR X (compareOp op) r) (ok : BOk X B r) (hB : MoB B) (h1 : ED X a w1) (h2 : ED X b w2) (hm : behindInMarks op b = false) : ED X (.Compare a [op] [b] pos) (wBin B w1 w2) :=
  ⟨moBin hB h1.mo h2.mo, pe_conv (pe_cmpR ho h1.pe h2.pe hm) fun σ H Q h => tW_bin ok hB h1.mo h2.mo h⟩
/-- a value as a test, by its bool -/
def wTest (w : WE) : WT := fun env P => w env fun d e => ∃ k, d = .bool k ∧ P k e
theorem moTest (h : MoE w) : MoT (wTest w) := fun env P P' k q => h _ _ _ (fun d e ⟨b, x, y⟩ => ⟨b, x, k _ _ y⟩) q
theorem tW_test {σ : L2.St} {H : Hp} {Q : Bool → Hp → Prop} (h1 : MoE w) (h : tT X.mg (wTest w) σ H Q) : tW X.mg w σ H fun x H' => ∃ k, x = .bl k ∧ Q k H' := by
  obtain ⟨G, F, pc, env, r0, q⟩ := h
  refine ⟨G, F, pc, env, r0, h1 _ _ _ (fun d e1 q1 v1 F1 pc1 H1 s1 p1 r1 rp1 => ?_) q⟩
  obtain ⟨k, e, q2⟩ := q1
  subst e
  exact ⟨k, Rp.bool_iff.mp rp1, q2 F1 pc1 H1 s1 p1 r1⟩
theorem td_cmp {op : CmpOp} {B : B2} {r : R2} (ho : OpR X (compareOp op) r) (ok : BOk X B r) (hB : MoB B) (h1 : ED X a w1) (h2 : ED X b w2) (hm : behindInMarks op b = false) : TD X (.Compare a [op] [b] pos) (wTest (wBin B w1 w2)) :=
  ⟨moTest (moBin hB h1.mo h2.mo), pt_conv (pt_cmpR ho h1.pe h2.pe hm) fun σ H Q h => tW_bin ok hB h1.mo h2.mo (tW_test (X := X) (moBin hB h1.mo h2.mo) h)⟩
theorem td_val (h : ED X e w) (he : ∀ whole, isTrue e X.env whole = (do let v ← whole; standAt e.pos; holding [v] (truthy v)) := by intro _; rfl) : TD X e (wTest w) :=
  ⟨moTest h.mo, pt_conv (pt_val h.pe he) fun σ H Q q => tW_test (X := X) h.mo q⟩

/-! scalars -/
def iiB (C : Int → Int → Prop) (g : Int → Int → PyData) : B2 := fun d e P => ∃ i j, d = .int i ∧ e = .int j ∧ C i j ∧ P (g i j)
theorem moii {C : Int → Int → Prop} {g : Int → Int → PyData} : MoB (iiB C g) := fun d e P P' k ⟨i, j, x, y, z, q⟩ => ⟨i, j, x, y, z, k _ q⟩
theorem ok_ii {C : Int → Int → Prop} {g : Int → Int → Int} {C' : Int → Int → Prop} (h : ∀ i j, C i j → C' i j) : BOk X (iiB C fun i j => .int (g i j)) (rI C' fun i j => .int (g i j)) := by
  intro G F pc env σ H x y d e P Q r hx hy ⟨i, j, e1, e2, c, p⟩ k
  subst e1 e2
  exact ⟨i, j, Rp.int_iff.mp hx, Rp.int_iff.mp hy, h _ _ c, k _ _ F H p (Same.refl _) r (by simp only [Rp])⟩
theorem ok_ii0 {g : Int → Int → Int} : BOk X (iiB (fun _ _ => True) fun i j => .int (g i j)) (rI0 fun i j => .int (g i j)) := by
  intro G F pc env σ H x y d e P Q r hx hy ⟨i, j, e1, e2, c, p⟩ k
  subst e1 e2
  exact ⟨i, j, Rp.int_iff.mp hx, Rp.int_iff.mp hy, k _ _ F H p (Same.refl _) r (by simp only [Rp])⟩
theorem ok_iib {g : Int → Int → Bool} : BOk X (iiB (fun _ _ => True) fun i j => .bool (g i j)) (rI0 fun i j => .bl (g i j)) := by
  intro G F pc env σ H x y d e P Q r hx hy ⟨i, j, e1, e2, c, p⟩ k
  subst e1 e2
  exact ⟨i, j, Rp.int_iff.mp hx, Rp.int_iff.mp hy, k _ _ F H p (Same.refl _) r (by simp only [Rp])⟩
abbrev subB : B2 := iiB (fun _ _ => True) fun i j => .int (i - j)
abbrev ltB : B2 := iiB (fun _ _ => True) fun i j => .bool (decide (i < j))
abbrev leB : B2 := iiB (fun _ _ => True) fun i j => .bool (decide (i ≤ j))
abbrev gtB : B2 := iiB (fun _ _ => True) fun i j => .bool (decide (j < i))
abbrev geB : B2 := iiB (fun _ _ => True) fun i j => .bool (decide (j ≤ i))
abbrev modB : B2 := iiB (fun _ j => 0 < j) fun i j => .int (i % j)
abbrev fdivB : B2 := iiB CDivN fun i j => .int (i.fdiv j)
abbrev powB : B2 := iiB CPow fun i j => .int (i ^ j.toNat)
abbrev shlB : B2 := iiB CPow fun i j => .int (i * 2 ^ j.toNat)
theorem ed_sub (h1 : ED X a w1) (h2 : ED X b w2) : ED X (.BinOp a .Sub b pos) (wBin subB w1 w2) := ed_bin op_sub ok_ii0 moii h1 h2
theorem ed_mod (h1 : ED X a w1) (h2 : ED X b w2) : ED X (.BinOp a .Mod b pos) (wBin modB w1 w2) := ed_bin op_mod (ok_ii fun _ _ h => h) moii h1 h2
theorem ed_fdiv (h1 : ED X a w1) (h2 : ED X b w2) : ED X (.BinOp a .FloorDiv b pos) (wBin fdivB w1 w2) := ed_bin op_fdivN (ok_ii fun _ _ h => h) moii h1 h2
theorem ed_pow (h1 : ED X a w1) (h2 : ED X b w2) : ED X (.BinOp a .Pow b pos) (wBin powB w1 w2) := ed_bin op_pow (ok_ii fun _ _ h => h) moii h1 h2
theorem ed_shl (h1 : ED X a w1) (h2 : ED X b w2) : ED X (.BinOp a .LShift b pos) (wBin shlB w1 w2) := ed_bin op_shl (ok_ii fun _ _ h => h) moii h1 h2
theorem ed_lt (h1 : ED X a w1) (h2 : ED X b w2) : ED X (.Compare a [.Lt] [b] pos) (wBin ltB w1 w2) := ed_cmp op_lt ok_iib moii h1 h2 (nomark _)
theorem ed_le (h1 : ED X a w1) (h2 : ED X b w2) : ED X (.Compare a [.LtE] [b] pos) (wBin leB w1 w2) := ed_cmp op_le ok_iib moii h1 h2 (nomark _)
theorem ed_gt (h1 : ED X a w1) (h2 : ED X b w2) : ED X (.Compare a [.Gt] [b] pos) (wBin gtB w1 w2) := ed_cmp op_gt ok_iib moii h1 h2 (nomark _)
theorem ed_ge (h1 : ED X a w1) (h2 : ED X b w2) : ED X (.Compare a [.GtE] [b] pos) (wBin geB w1 w2) := ed_cmp op_ge ok_iib moii h1 h2 (nomark _)
theorem td_lt (h1 : ED X a w1) (h2 : ED X b w2) : TD X (.Compare a [.Lt] [b] pos) (wTest (wBin ltB w1 w2)) := td_cmp op_lt ok_iib moii h1 h2 (nomark _)
theorem td_le (h1 : ED X a w1) (h2 : ED X b w2) : TD X (.Compare a [.LtE] [b] pos) (wTest (wBin leB w1 w2)) := td_cmp op_le ok_iib moii h1 h2 (nomark _)
theorem td_gt (h1 : ED X a w1) (h2 : ED X b w2) : TD X (.Compare a [.Gt] [b] pos) (wTest (wBin gtB w1 w2)) := td_cmp op_gt ok_iib moii h1 h2 (nomark _)
theorem td_ge (h1 : ED X a w1) (h2 : ED X b w2) : TD X (.Compare a [.GtE] [b] pos) (wTest (wBin geB w1 w2)) := td_cmp op_ge ok_iib moii h1 h2 (nomark _)

/-! + -/
def addB : B2 := fun d e P => match d, e with
  | .int i, .int j => P (.int (i + j))
  | .list xs, .list ys => xs.length + ys.length ≤ sizeLine ∧ P (.list (xs ++ ys))
  | .tuple xs, .tuple ys => xs.length + ys.length ≤ sizeLine ∧ P (.tuple (xs ++ ys))
  | _, _ => False
theorem moAdd : MoB addB := fun d e P P' k q => by
  unfold addB at q ⊢
  split at q
  · exact k _ q
  · exact ⟨q.1, k _ q.2⟩
  · exact ⟨q.1, k _ q.2⟩
  · exact q.elim
theorem Rp.list {F : Hp} {ds : List PyData} {v : V} (h : Rp F (.list ds) v) : ∃ a vs, v = .ref a ∧ F a = some (.lst vs) ∧ RpL F ds vs := by simpa only [Rp] using h
theorem Rp.tuple {F : Hp} {ds : List PyData} {v : V} (h : Rp F (.tuple ds) v) : ∃ a vs, v = .ref a ∧ F a = some (.tup vs) ∧ RpL F ds vs := by simpa only [Rp] using h
theorem Rp.dict {F : Hp} {ds : List (PyData × PyData)} {v : V} (h : Rp F (.dict ds) v) : ∃ a vs, v = .ref a ∧ F a = some (.dK vs) ∧ RpK F ds vs := by simpa only [Rp] using h
/-- a new frozen list, tuple -/
theorem Rel.newLst {M : Str → Option Value} {G F H : Hp} {pc : Pc} {env : Nv} {σ : L2.St} {p : Addr} {ds : List PyData} {vs : List V} (r : Rel M G F pc env σ H) (h : H p = none) (q : RpL F ds vs) :
    Rel M G (upd F p (.lst vs)) pc env σ (upd H p (.lst vs)) ∧ Same F (upd F p (.lst vs)) ∧ Rp (upd F p (.lst vs)) (.list ds) (.ref p) :=
  have s : Same F (upd F p (.lst vs)) := same_new (r.base.free h).1
  ⟨r.layF h, s, Rp.lst upd_same (RpL.mono s _ _ q)⟩
theorem Rel.newTup {M : Str → Option Value} {G F H : Hp} {pc : Pc} {env : Nv} {σ : L2.St} {p : Addr} {ds : List PyData} {vs : List V} (r : Rel M G F pc env σ H) (h : H p = none) (q : RpL F ds vs) :
    Rel M G (upd F p (.tup vs)) pc env σ (upd H p (.tup vs)) ∧ Same F (upd F p (.tup vs)) ∧ Rp (upd F p (.tup vs)) (.tuple ds) (.ref p) :=
  have s : Same F (upd F p (.tup vs)) := same_new (r.base.free h).1
  ⟨r.layF h, s, Rp.tup upd_same (RpL.mono s _ _ q)⟩
theorem Rel.newLstO {M : Str → Option Value} {G F H : Hp} {pc : Pc} {env : Nv} {σ : L2.St} {p : Addr} {ds : List PyData} {vs : List V} (r : Rel M G F pc env σ H) (h : H p = none) (q : RpL F ds vs) :
    Rel M G F pc env σ (upd H p (.lst vs)) ∧ Frs G F pc env σ (upd H p (.lst vs)) p (.list ds) := r.layO h ⟨vs, upd_same, q⟩
theorem op_addA : OpR X (binaryOp .Add) (fun x y H Q => (∃ i j, x = .int i ∧ y = .int j ∧ Q (.int (i + j)) H) ∨ rCat x y H Q ∨ rCatA X.K x y H Q) := OpR.or op_add (OpR.or op_cat op_catA)
theorem ok_add : BOk X addB (fun x y H Q => (∃ i j, x = .int i ∧ y = .int j ∧ Q (.int (i + j)) H) ∨ rCat x y H Q ∨ rCatA X.K x y H Q) := by
  intro G F pc env σ H x y d e P Q r hx hy q k
  unfold addB at q
  split at q
  · exact .inl ⟨_, _, Rp.int_iff.mp hx, Rp.int_iff.mp hy, k _ _ F H q (Same.refl _) r (by simp only [Rp])⟩
  · obtain ⟨l, vs, ex, fx, rx⟩ := hx.list
    obtain ⟨l', vs', ey, fy, ry⟩ := hy.list
    refine .inr (.inl ⟨l, l', vs, vs', ex, ey, r.base.f _ _ fx, r.base.f _ _ fy, by rw [rx.len, ry.len]; exact q.1, fun p hp => ?_⟩)
    obtain ⟨r2, s2, rp⟩ := r.newLst hp (rx.app ry)
    exact k _ _ _ _ q.2 s2 r2 rp
  · rename_i xs ys
    obtain ⟨l, vs, ex, fx, rx⟩ := hx.tuple
    obtain ⟨l', vs', ey, fy, ry⟩ := hy.tuple
    have lx := rx.len
    have ly := ry.len
    refine .inr (.inr ⟨l, l', vs, vs', ex, ey, SqT.of (r.base.f _ _ fx), SqT.of (r.base.f _ _ fy), by rw [lx, ly]; exact q.1, fun z => ?_, fun z z2 => ?_, fun z z2 p hp => ?_⟩)
    · have : xs = [] := List.eq_nil_of_length_eq_zero (by rw [← lx, z]; rfl)
      subst this
      exact k _ _ F H q.2 (Same.refl _) r (by subst ey; exact hy)
    · have : ys = [] := List.eq_nil_of_length_eq_zero (by rw [← ly, z2]; rfl)
      subst this
      exact k _ _ F H q.2 (Same.refl _) r (by subst ex; rw [List.append_nil]; exact hx)
    · obtain ⟨r2, s2, rp⟩ := r.newTup hp (rx.app ry)
      exact k _ _ _ _ q.2 s2 r2 rp
  · exact q.elim
theorem ed_add (h1 : ED X a w1) (h2 : ED X b w2) : ED X (.BinOp a .Add b pos) (wBin addB w1 w2) := ed_bin op_addA ok_add moAdd h1 h2

/-! * -/
def mulB : B2 := fun d e P => match d, e with
  | .int i, .int j => (i.natAbs < 2 ^ 64 ∨ j.natAbs < 2 ^ 64) ∧ P (.int (i * j))
  | .list xs, .int k => xs.length * k.toNat ≤ sizeLine ∧ k < 2 ^ 63 ∧ -(2 ^ 63) ≤ k ∧ P (.list (List.replicate k.toNat xs).flatten)
  | _, _ => False
theorem moMul : MoB mulB := fun d e P P' k q => by
  unfold mulB at q ⊢
  split at q
  · exact ⟨q.1, k _ q.2⟩
  · exact ⟨q.1, q.2.1, q.2.2.1, k _ q.2.2.2⟩
  · exact q.elim
theorem op_mulA : OpR X (binaryOp .Mult) (fun x y H Q => rI CMul (fun i j => .int (i * j)) x y H Q ∨ rRep x y H Q) := OpR.or op_mul op_rep
theorem ok_mul : BOk X mulB (fun x y H Q => rI CMul (fun i j => .int (i * j)) x y H Q ∨ rRep x y H Q) := by
  intro G F pc env σ H x y d e P Q r hx hy q k
  unfold mulB at q
  split at q
  · refine .inl ⟨_, _, Rp.int_iff.mp hx, Rp.int_iff.mp hy, ?_, k _ _ F H q.2 (Same.refl _) r (by simp only [Rp])⟩
    rcases q.1 with z | z
    · exact .inl ⟨by omega, by omega⟩
    · exact .inr ⟨by omega, by omega⟩
  · obtain ⟨l, vs, ex, fx, rx⟩ := hx.list
    refine .inr ⟨l, _, vs, ex, Rp.int_iff.mp hy, r.base.f _ _ fx, q.2.2.1, q.2.1, by rw [rx.len]; exact q.1, fun p hp => ?_⟩
    obtain ⟨r2, s2, rp⟩ := r.newLst hp (rx.rep _)
    exact k _ _ _ _ q.2.2.2 s2 r2 rp
  · exact q.elim
theorem ed_mul (h1 : ED X a w1) (h2 : ED X b w2) : ED X (.BinOp a .Mult b pos) (wBin mulB w1 w2) := ed_bin op_mulA ok_mul moMul h1 h2

/-! new lists by + and * -/
theorem tO_bin {B : B2} {r : R2} (hB : MoB B) (h1 : MoE w1) (h2 : MoE w2)
    (ok : ∀ (G F : Hp) (pc : Pc) (env : Nv) (σ : L2.St) (H : Hp) (x y : V) (d e : PyData) (P : PyData → Prop) (Q : VK), Rel X.mg G F pc env σ H → Rp F d x → Rp F e y → B d e P →
      (∀ z a H', P z → Rel X.mg G F pc env σ H' → Frs G F pc env σ H' a z → Q (.ref a) H') → r x y H Q) {σ : L2.St} {H : Hp} {Q : VK} (h : tO X.mg (wBin B w1 w2) σ H Q) : tOp r (tW X.mg w1) (tW X.mg w2) σ H Q := by
  obtain ⟨G, F, pc, env, r0, q⟩ := h
  refine ⟨G, F, pc, env, r0, h1 _ _ _ (fun d e1 q1 v1 F1 pc1 H1 s1 p1 r1 rp1 => ?_) q⟩
  refine ⟨G, F1, pc1, e1, r1, h2 _ _ _ (fun e e2 q2 v2 F2 pc2 H2 s2 p2 r2 rp2 => ?_) q1⟩
  exact ok G F2 pc2 e2 σ H2 v1 v2 d e _ Q r2 (Rp.mono s2 _ _ rp1) rp2 q2 fun z a H' pz r' f => pz a F2 pc2 H' (s1.trans s2) (p1.trans p2) r' f
def lmulB : B2 := fun d e P => match d, e with
  | .list xs, .int k => xs.length * k.toNat ≤ sizeLine ∧ k < 2 ^ 63 ∧ -(2 ^ 63) ≤ k ∧ P (.list (List.replicate k.toNat xs).flatten)
  | _, _ => False
def laddB : B2 := fun d e P => match d, e with
  | .list xs, .list ys => xs.length + ys.length ≤ sizeLine ∧ P (.list (xs ++ ys))
  | _, _ => False
theorem moLmul : MoB lmulB := fun d e P P' k q => by
  unfold lmulB at q ⊢
  split at q
  · exact ⟨q.1, q.2.1, q.2.2.1, k _ q.2.2.2⟩
  · exact q.elim
theorem moLadd : MoB laddB := fun d e P P' k q => by
  unfold laddB at q ⊢
  split at q
  · exact ⟨q.1, k _ q.2⟩
  · exact q.elim
theorem od_mul (h1 : ED X a w1) (h2 : ED X b w2) : OD X (.BinOp a .Mult b pos) (wBin lmulB w1 w2) :=
  ⟨moBin moLmul h1.mo h2.mo, pe_conv (pe_op op_rep h1.pe h2.pe) fun σ H Q h => tO_bin (X := X) moLmul h1.mo h2.mo (fun G F pc env σ H x y d e P Q r hx hy q k => by
    unfold lmulB at q
    split at q
    · obtain ⟨l, vs, ex, fx, rx⟩ := hx.list
      refine ⟨l, _, vs, ex, Rp.int_iff.mp hy, r.base.f _ _ fx, q.2.2.1, q.2.1, by rw [rx.len]; exact q.1, fun p hp => ?_⟩
      obtain ⟨r2, f⟩ := r.newLstO hp (rx.rep _)
      exact k _ _ _ q.2.2.2 r2 f
    · exact q.elim) h⟩
theorem od_add (h1 : ED X a w1) (h2 : ED X b w2) : OD X (.BinOp a .Add b pos) (wBin laddB w1 w2) :=
  ⟨moBin moLadd h1.mo h2.mo, pe_conv (pe_op op_cat h1.pe h2.pe) fun σ H Q h => tO_bin (X := X) moLadd h1.mo h2.mo (fun G F pc env σ H x y d e P Q r hx hy q k => by
    unfold laddB at q
    split at q
    · obtain ⟨l, vs, ex, fx, rx⟩ := hx.list
      obtain ⟨l', vs', ey, fy, ry⟩ := hy.list
      refine ⟨l, l', vs, vs', ex, ey, r.base.f _ _ fx, r.base.f _ _ fy, by rw [rx.len, ry.len]; exact q.1, fun p hp => ?_⟩
      obtain ⟨r2, f⟩ := r.newLstO hp (rx.app ry)
      exact k _ _ _ q.2 r2 f
    · exact q.elim) h⟩

/-! == -/
mutual
theorem Rp.dp {K : PySem.W.Frag} {F H : Hp} (s : Same F H) : ∀ (d : PyData) (v : V), d.canLay0 = true → Rp F d v → Dp K H v d
  | .none, v, _, r => by rw [Rp.none_iff.mp r]; exact .non
  | .bool b, v, _, r => by rw [Rp.bool_iff.mp r]; exact .bl b
  | .int i, v, _, r => by rw [Rp.int_iff.mp r]; exact .int i
  | .str x, v, _, r => by rw [Rp.str_iff.mp r]; exact .str x
  | .list ds, v, c, r => by
    obtain ⟨a, vs, e, f, g⟩ := r.list
    subst e
    exact .lst (SqL.of (s _ _ f)) (RpL.dp s ds vs (by simpa only [PyData.canLay0] using c) g)
  | .tuple ds, v, c, r => by
    obtain ⟨a, vs, e, f, g⟩ := r.tuple
    subst e
    exact .tup (SqT.of (s _ _ f)) (RpL.dp s ds vs (by simpa only [PyData.canLay0] using c) g)
  | .dict ds, v, c, r => by simp [PyData.canLay0] at c
theorem RpL.dp {K : PySem.W.Frag} {F H : Hp} (s : Same F H) : ∀ (ds : List PyData) (vs : List V), PyData.canLayAll0 ds = true → RpL F ds vs → DpAll K H vs ds
  | [], vs, _, r => by simp only [RpL] at r; subst r; exact .nil
  | d :: ds, vs, c, r => by
    simp only [RpL] at r
    obtain ⟨v, q, e, f, g⟩ := r
    subst e
    have c' : d.canLay0 = true ∧ PyData.canLayAll0 ds = true := by simpa [PyData.canLayAll0] using c
    exact .cons (Rp.dp s d v c'.1 f) (RpL.dp s ds q c'.2 g)
end
def eqB : B2 := fun d e P => SeqAt.shaped d = true ∧ SeqAt.shaped e = true ∧ P (.bool (PyData.eqv d e))
def neB : B2 := fun d e P => SeqAt.shaped d = true ∧ SeqAt.shaped e = true ∧ P (.bool (!PyData.eqv d e))
theorem moEq : MoB eqB := fun d e P P' k q => ⟨q.1, q.2.1, k _ q.2.2⟩
theorem moNe : MoB neB := fun d e P P' k q => ⟨q.1, q.2.1, k _ q.2.2⟩
theorem ok_eq : BOk X eqB (rEqD X.K) := by
  intro G F pc env σ H x y d e P Q r hx hy q k
  exact ⟨d, e, Rp.dp r.base.f d x (SeqAt.canLay_of_shaped q.1) hx, Rp.dp r.base.f e y (SeqAt.canLay_of_shaped q.2.1) hy, q.1, q.2.1, k _ _ F H q.2.2 (Same.refl _) r (by simp only [Rp])⟩
theorem ok_ne : BOk X neB (rNeD X.K) := by
  intro G F pc env σ H x y d e P Q r hx hy q k
  exact ⟨d, e, Rp.dp r.base.f d x (SeqAt.canLay_of_shaped q.1) hx, Rp.dp r.base.f e y (SeqAt.canLay_of_shaped q.2.1) hy, q.1, q.2.1, k _ _ F H q.2.2 (Same.refl _) r (by simp only [Rp])⟩
theorem ed_eq (hu : X.A.units + 64 < cLine) (h1 : ED X a w1) (h2 : ED X b w2) : ED X (.Compare a [.Eq] [b] pos) (wBin eqB w1 w2) := ed_cmp (op_eqD hu) ok_eq moEq h1 h2 (nomark _)
theorem ed_ne (hu : X.A.units + 64 < cLine) (h1 : ED X a w1) (h2 : ED X b w2) : ED X (.Compare a [.NotEq] [b] pos) (wBin neB w1 w2) := ed_cmp (op_neD hu) ok_ne moNe h1 h2 (nomark _)
theorem td_eq (hu : X.A.units + 64 < cLine) (h1 : ED X a w1) (h2 : ED X b w2) : TD X (.Compare a [.Eq] [b] pos) (wTest (wBin eqB w1 w2)) := td_cmp (op_eqD hu) ok_eq moEq h1 h2 (nomark _)
theorem td_ne (hu : X.A.units + 64 < cLine) (h1 : ED X a w1) (h2 : ED X b w2) : TD X (.Compare a [.NotEq] [b] pos) (wTest (wBin neB w1 w2)) := td_cmp (op_neD hu) ok_ne moNe h1 h2 (nomark _)

/-! is None, is True -/
def isNone : PyData → Bool
  | .none => true
  | _ => false
def isNB : B2 := fun d e P => e = .none ∧ P (.bool (isNone d))
def notNB : B2 := fun d e P => e = .none ∧ P (.bool (!isNone d))
theorem moIsN : MoB isNB := fun d e P P' k q => ⟨q.1, k _ q.2⟩
theorem moNotN : MoB notNB := fun d e P P' k q => ⟨q.1, k _ q.2⟩
theorem Rp.isN {F : Hp} : ∀ {d : PyData} {v : V}, Rp F d v → decide (v = .non) = isNone d
  | .none, v, r => by rw [Rp.none_iff.mp r]; rfl
  | .bool b, v, r => by rw [Rp.bool_iff.mp r]; rfl
  | .int i, v, r => by rw [Rp.int_iff.mp r]; rfl
  | .str x, v, r => by rw [Rp.str_iff.mp r]; rfl
  | .list ds, v, r => by obtain ⟨a, vs, e, _⟩ := r.list; rw [e]; rfl
  | .tuple ds, v, r => by obtain ⟨a, vs, e, _⟩ := r.tuple; rw [e]; rfl
  | .dict ds, v, r => by obtain ⟨a, vs, e, _⟩ := r.dict; rw [e]; rfl
theorem ok_isN : BOk X isNB (fun x y H Q => y = .non ∧ Q (.bl (decide (x = .non))) H) := by
  intro G F pc env σ H x y d e P Q r hx hy ⟨q1, q2⟩ k
  subst q1
  exact ⟨Rp.none_iff.mp hy, k _ _ F H q2 (Same.refl _) r (by simp only [Rp, hx.isN])⟩
theorem ok_notN : BOk X notNB (fun x y H Q => y = .non ∧ Q (.bl (!decide (x = .non))) H) := by
  intro G F pc env σ H x y d e P Q r hx hy ⟨q1, q2⟩ k
  subst q1
  exact ⟨Rp.none_iff.mp hy, k _ _ F H q2 (Same.refl _) r (by simp only [Rp, hx.isN])⟩
theorem ed_isN (h1 : ED X a w1) (h2 : ED X b w2) : ED X (.Compare a [.Is] [b] pos) (wBin isNB w1 w2) := ed_cmp op_isN ok_isN moIsN h1 h2 (nomark _)
theorem ed_notN (h1 : ED X a w1) (h2 : ED X b w2) : ED X (.Compare a [.IsNot] [b] pos) (wBin notNB w1 w2) := ed_cmp op_notN ok_notN moNotN h1 h2 (nomark _)
theorem td_isN (h1 : ED X a w1) (h2 : ED X b w2) : TD X (.Compare a [.Is] [b] pos) (wTest (wBin isNB w1 w2)) := td_cmp op_isN ok_isN moIsN h1 h2 (nomark _)
theorem td_notN (h1 : ED X a w1) (h2 : ED X b w2) : TD X (.Compare a [.IsNot] [b] pos) (wTest (wBin notNB w1 w2)) := td_cmp op_notN ok_notN moNotN h1 h2 (nomark _)
def bbB (g : Bool → Bool → Bool) : B2 := fun d e P => ∃ i j, d = .bool i ∧ e = .bool j ∧ P (.bool (g i j))
theorem mobb {g : Bool → Bool → Bool} : MoB (bbB g) := fun d e P P' k ⟨i, j, x, y, q⟩ => ⟨i, j, x, y, k _ q⟩
theorem ok_isB : BOk X (bbB fun a b => decide (a = b)) rIsB := by
  intro G F pc env σ H x y d e P Q r hx hy ⟨i, j, e1, e2, p⟩ k
  subst e1 e2
  exact ⟨i, j, Rp.bool_iff.mp hx, Rp.bool_iff.mp hy, k _ _ F H p (Same.refl _) r (by simp only [Rp])⟩
theorem ok_notB : BOk X (bbB fun a b => !decide (a = b)) rNotB := by
  intro G F pc env σ H x y d e P Q r hx hy ⟨i, j, e1, e2, p⟩ k
  subst e1 e2
  exact ⟨i, j, Rp.bool_iff.mp hx, Rp.bool_iff.mp hy, k _ _ F H p (Same.refl _) r (by simp only [Rp])⟩
theorem td_isB (h1 : ED X a w1) (h2 : ED X b w2) : TD X (.Compare a [.Is] [b] pos) (wTest (wBin (bbB fun a b => decide (a = b)) w1 w2)) := td_cmp op_isBl ok_isB mobb h1 h2 (nomark _)
theorem td_notB (h1 : ED X a w1) (h2 : ED X b w2) : TD X (.Compare a [.IsNot] [b] pos) (wTest (wBin (bbB fun a b => !decide (a = b)) w1 w2)) := td_cmp op_notBl ok_notB mobb h1 h2 (nomark _)

/-! -x, not, and, or, if -/
def wNeg (w : WE) : WE := fun env P => w env fun d e => ∃ i, d = .int i ∧ P (.int (-i)) e
theorem ed_neg (h : ED X a w) : ED X (.UnaryOp .USub a pos) (wNeg w) := by
  refine ⟨fun env P P' k q => h.mo _ _ _ (fun d e ⟨i, x, y⟩ => ⟨i, x, k _ _ y⟩) q, pe_conv (pe_un un_neg h.pe) fun σ H Q ⟨G, F, pc, env, r, q⟩ => ⟨G, F, pc, env, r, h.mo _ _ _ (fun d e q1 v F' pc' H' s p r' rp => ?_) q⟩⟩
  obtain ⟨i, e1, q2⟩ := q1
  subst e1
  exact ⟨i, Rp.int_iff.mp rp, q2 _ F' pc' H' s p r' (by simp only [Rp])⟩
def wNotT (w : WT) : WT := fun env P => w env fun b e => P (!b) e
theorem td_not {w : WT} (h : TD X a w) : TD X (.UnaryOp .Not a pos) (wNotT w) :=
  ⟨fun env P P' k q => h.mo _ _ _ (fun b e p => k _ _ p) q, pt_conv (pt_not h.pt) fun σ H Q ⟨G, F, pc, env, r, q⟩ => ⟨G, F, pc, env, r, q⟩⟩
def wNotE (w : WE) : WE := fun env P => w env fun d e => ∃ b, d = .bool b ∧ P (.bool (!b)) e
theorem ed_not (h : ED X a w) : ED X (.UnaryOp .Not a pos) (wNotE w) := by
  refine ⟨fun env P P' k q => h.mo _ _ _ (fun d e ⟨i, x, y⟩ => ⟨i, x, k _ _ y⟩) q, pe_conv (pe_not h.pe) fun σ H Q ⟨G, F, pc, env, r, q⟩ => ⟨G, F, pc, env, r, h.mo _ _ _ (fun d e q1 v F' pc' H' s p r' rp => ?_) q⟩⟩
  obtain ⟨i, e1, q2⟩ := q1
  subst e1
  exact ⟨i, Rp.bool_iff.mp rp, q2 _ F' pc' H' s p r' (by simp only [Rp])⟩
/-- a row of and, or as tests -/
structure WD (X : Cx) (e : Expr) (w : WT) : Prop where
  mo : MoT w
  pw : PW X e (tT X.mg w)
theorem WD.td {w : WT} (h : WD X e w) : TD X e w := ⟨h.mo, h.pw.pt⟩
theorem pw_conv {t t' : TT} (h : PW X e t) (k : ∀ σ H Q, t' σ H Q → t σ H Q) : PW X e t' := ⟨fun wh pins s σ H Q I q => h.run wh pins s σ H Q I (k σ H Q q)⟩
def wAndT (w1 w2 : WT) : WT := fun env P => w1 env fun b e => if b = true then w2 e P else P false e
def wOrT (w1 w2 : WT) : WT := fun env P => w1 env fun b e => if b = true then P true e else w2 e P
theorem wd_and1 {w : WT} (h : TD X a w) : WD X (.BoolOp .And [a] pos) w := ⟨h.mo, pw_and1 h.pt⟩
theorem wd_or1 {w : WT} (h : TD X a w) : WD X (.BoolOp .Or [a] pos) w := ⟨h.mo, pw_or1 h.pt⟩
theorem moAndT {w1 w2 : WT} (h1 : MoT w1) (h2 : MoT w2) : MoT (wAndT w1 w2) := fun env P P' k q => h1 _ _ _ (fun b e p => by
  cases b with
  | true => exact h2 _ _ _ k p
  | false => exact k _ _ p) q
theorem moOrT {w1 w2 : WT} (h1 : MoT w1) (h2 : MoT w2) : MoT (wOrT w1 w2) := fun env P P' k q => h1 _ _ _ (fun b e p => by
  cases b with
  | true => exact k _ _ p
  | false => exact h2 _ _ _ k p) q
theorem wd_and {w1 w2 : WT} {rest : List Expr} (h1 : TD X a w1) (h2 : WD X (.BoolOp .And (b :: rest) pos) w2) : WD X (.BoolOp .And (a :: b :: rest) pos) (wAndT w1 w2) := by
  refine ⟨moAndT h1.mo h2.mo, pw_conv (pw_and h1.pt h2.pw) fun σ H Q ⟨G, F, pc, env, r, q⟩ => ⟨G, F, pc, env, r, h1.mo _ _ _ (fun b e q1 F1 pc1 H1 s1 p1 r1 => ?_) q⟩⟩
  cases b with
  | true => exact iteT ⟨G, F1, pc1, e, r1, h2.mo _ _ _ (fun b e q2 F2 pc2 H2 s2 p2 r2 => q2 F2 pc2 H2 (s1.trans s2) (p1.trans p2) r2) q1⟩
  | false => exact iteF (q1 F1 pc1 H1 s1 p1 r1)
theorem wd_or {w1 w2 : WT} {rest : List Expr} (h1 : TD X a w1) (h2 : WD X (.BoolOp .Or (b :: rest) pos) w2) : WD X (.BoolOp .Or (a :: b :: rest) pos) (wOrT w1 w2) := by
  refine ⟨moOrT h1.mo h2.mo, pw_conv (pw_or h1.pt h2.pw) fun σ H Q ⟨G, F, pc, env, r, q⟩ => ⟨G, F, pc, env, r, h1.mo _ _ _ (fun b e q1 F1 pc1 H1 s1 p1 r1 => ?_) q⟩⟩
  cases b with
  | true => exact iteT (q1 F1 pc1 H1 s1 p1 r1)
  | false => exact iteF ⟨G, F1, pc1, e, r1, h2.mo _ _ _ (fun b e q2 F2 pc2 H2 s2 p2 r2 => q2 F2 pc2 H2 (s1.trans s2) (p1.trans p2) r2) q1⟩
def wAndE (w1 w2 : WE) : WE := fun env P => w1 env fun d e => ∃ b, d = .bool b ∧ if b = true then w2 e P else P (.bool false) e
def wOrE (w1 w2 : WE) : WE := fun env P => w1 env fun d e => ∃ b, d = .bool b ∧ if b = true then P (.bool true) e else w2 e P
theorem ed_one {op : BoolOp} (h : ED X a w) : ED X (.BoolOp op [a] pos) w := ⟨h.mo, pe_one h.pe⟩
theorem ed_and {rest : List Expr} (h1 : ED X a w1) (h2 : ED X (.BoolOp .And (b :: rest) pos) w2) : ED X (.BoolOp .And (a :: b :: rest) pos) (wAndE w1 w2) := by
  refine ⟨fun env P P' k q => h1.mo _ _ _ (fun d e z => by
    obtain ⟨b, x, y⟩ := z
    refine ⟨b, x, ?_⟩
    cases b with
    | true => exact iteT (h2.mo _ _ _ k y)
    | false => exact iteF (k _ _ y)) q, pe_conv (pe_and h1.pe h2.pe) fun σ H Q ⟨G, F, pc, env, r, q⟩ => ⟨G, F, pc, env, r, h1.mo _ _ _ (fun d e q1 v F1 pc1 H1 s1 p1 r1 rp1 => ?_) q⟩⟩
  · obtain ⟨b, e1, q1⟩ := q1
    subst e1
    refine ⟨b, Rp.bool_iff.mp rp1, ?_⟩
    cases b with
    | true => exact iteT ⟨G, F1, pc1, e, r1, h2.mo _ _ _ (fun d e q2 v F2 pc2 H2 s2 p2 r2 rp => q2 v F2 pc2 H2 (s1.trans s2) (p1.trans p2) r2 rp) q1⟩
    | false => exact iteF (q1 _ F1 pc1 H1 s1 p1 r1 (by simp only [Rp]))
theorem ed_or {rest : List Expr} (h1 : ED X a w1) (h2 : ED X (.BoolOp .Or (b :: rest) pos) w2) : ED X (.BoolOp .Or (a :: b :: rest) pos) (wOrE w1 w2) := by
  refine ⟨fun env P P' k q => h1.mo _ _ _ (fun d e z => by
    obtain ⟨b, x, y⟩ := z
    refine ⟨b, x, ?_⟩
    cases b with
    | true => exact iteT (k _ _ y)
    | false => exact iteF (h2.mo _ _ _ k y)) q, pe_conv (pe_or h1.pe h2.pe) fun σ H Q ⟨G, F, pc, env, r, q⟩ => ⟨G, F, pc, env, r, h1.mo _ _ _ (fun d e q1 v F1 pc1 H1 s1 p1 r1 rp1 => ?_) q⟩⟩
  · obtain ⟨b, e1, q1⟩ := q1
    subst e1
    refine ⟨b, Rp.bool_iff.mp rp1, ?_⟩
    cases b with
    | true => exact iteT (q1 _ F1 pc1 H1 s1 p1 r1 (by simp only [Rp]))
    | false => exact iteF ⟨G, F1, pc1, e, r1, h2.mo _ _ _ (fun d e q2 v F2 pc2 H2 s2 p2 r2 rp => q2 v F2 pc2 H2 (s1.trans s2) (p1.trans p2) r2 rp) q1⟩
def wIf (w : WT) (w1 w2 : WE) : WE := fun env P => w env fun b e => if b = true then w1 e P else w2 e P
theorem moIf {w : WT} (h : MoT w) (h1 : MoE w1) (h2 : MoE w2) : MoE (wIf w w1 w2) := fun env P P' k q => h _ _ _ (fun b e p => by
  cases b with
  | true => exact h1 _ _ _ k p
  | false => exact h2 _ _ _ k p) q
theorem ed_if {w : WT} (h : TD X c w) (h1 : ED X a w1) (h2 : ED X b w2) : ED X (.IfExp c a b pos) (wIf w w1 w2) := by
  refine ⟨moIf h.mo h1.mo h2.mo, pe_conv (pe_ifExp h.pt h1.pe h2.pe) fun σ H Q ⟨G, F, pc, env, r, q⟩ => ⟨G, F, pc, env, r, h.mo _ _ _ (fun b e q1 F1 pc1 H1 s1 p1 r1 => ?_) q⟩⟩
  cases b with
  | true => exact iteT ⟨G, F1, pc1, e, r1, h1.mo _ _ _ (fun d e q2 v F2 pc2 H2 s2 p2 r2 rp => q2 v F2 pc2 H2 (s1.trans s2) (p1.trans p2) r2 rp) q1⟩
  | false => exact iteF ⟨G, F1, pc1, e, r1, h2.mo _ _ _ (fun d e q2 v F2 pc2 H2 s2 p2 r2 rp => q2 v F2 pc2 H2 (s1.trans s2) (p1.trans p2) r2 rp) q1⟩

/-! displays -/
def wNil : WA := fun env P => P [] env
def wCons (w : WE) (wr : WA) : WA := fun env P => w env fun d e => wr e fun ds e2 => P (d :: ds) e2
theorem ad_nil : AD X [] wNil := ⟨fun env P P' k q => k _ _ q, pa_conv pa_nil fun σ H Q ⟨G, F, pc, env, r, q⟩ => q [] F pc H (Same.refl _) .refl r RpL.nil⟩
theorem ad_cons {es : List Expr} {wr : WA} (h : ED X e w) (hr : AD X es wr) (hs : starEach (e :: es) X.env = (false, eval e X.env) :: starEach es X.env := by rfl) : AD X (e :: es) (wCons w wr) := by
  refine ⟨fun env P P' k q => h.mo _ _ _ (fun d e p => hr.mo _ _ _ (fun ds e p => k _ _ p) p) q, pa_conv (pa_cons h.pe hr.pa hs) fun σ H Q ⟨G, F, pc, env, r, q⟩ => ⟨G, F, pc, env, r, h.mo _ _ _ (fun d e q1 v F1 pc1 H1 s1 p1 r1 rp1 => ?_) q⟩⟩
  exact ⟨G, F1, pc1, e, r1, hr.mo _ _ _ (fun ds e q2 vs F2 pc2 H2 s2 p2 r2 rp2 => q2 _ F2 pc2 H2 (s1.trans s2) (p1.trans p2) r2 (RpL.cons (Rp.mono s2 _ _ rp1) rp2)) q1⟩
def wTup (w : WA) : WE := fun env P => w env fun ds e => ds.length ≤ sizeLine ∧ P (.tuple ds) e
def wLst (w : WA) : WE := fun env P => w env fun ds e => ds.length ≤ sizeLine ∧ P (.list ds) e
theorem ed_tup {es : List Expr} {x1 : Nat} {w : WA} (h : AD X es w) : ED X (.Tuple es x1 pos) (wTup w) := by
  refine ⟨fun env P P' k q => h.mo _ _ _ (fun ds e ⟨z, p⟩ => ⟨z, k _ _ p⟩) q, pe_conv (pe_tup h.pa) fun σ H Q ⟨G, F, pc, env, r, q⟩ => ⟨G, F, pc, env, r, h.mo _ _ _ (fun ds e q1 vs F1 pc1 H1 s1 p1 r1 rp1 => ?_) q⟩⟩
  refine ⟨by rw [rp1.len]; exact q1.1, fun p hp => ?_⟩
  obtain ⟨r2, s2, rp⟩ := r1.newTup hp rp1
  exact q1.2 _ _ pc1 _ (s1.trans s2) p1 r2 rp
theorem od_lst {es : List Expr} {w : WA} (h : AD X es w) : OD X (.List es pos) (wLst w) := by
  refine ⟨fun env P P' k q => h.mo _ _ _ (fun ds e ⟨z, p⟩ => ⟨z, k _ _ p⟩) q, pe_conv (pe_lst h.pa) fun σ H Q ⟨G, F, pc, env, r, q⟩ => ⟨G, F, pc, env, r, h.mo _ _ _ (fun ds e q1 vs F1 pc1 H1 s1 p1 r1 rp1 => ?_) q⟩⟩
  refine ⟨by rw [rp1.len]; exact q1.1, fun p hp => ?_⟩
  obtain ⟨r2, f⟩ := r1.newLstO hp rp1
  exact q1.2 _ _ pc1 _ s1 p1 r2 f
theorem ed_lst {es : List Expr} {w : WA} (h : AD X es w) : ED X (.List es pos) (wLst w) := (od_lst h).ed
end
end DL
set_option Elab.async false
set_option linter.all false
set_option maxRecDepth 100000
set_option maxHeartbeats 1000000
set_option autoImplicit false
/-! DLc: subscripts, slices, in, builtins by their data. -/
namespace DL
open PySem PySem.Spec PyProof.Rows L2

section
variable {X : Cx} {e a b c : Expr} {w w1 w2 w3 : WE} {pos : Pos}

/-! a[i] -/
def ixB : B2 := fun d e P => match d, e with
  | .list xs, .int i => ∃ z, atI xs i = some z ∧ P z
  | .tuple xs, .int i => ∃ z, atI xs i = some z ∧ P z
  | _, _ => False
theorem moIx : MoB ixB := fun d e P P' k q => by
  unfold ixB at q ⊢
  split at q
  · obtain ⟨z, h, p⟩ := q; exact ⟨z, h, k _ p⟩
  · obtain ⟨z, h, p⟩ := q; exact ⟨z, h, k _ p⟩
  · exact q.elim
theorem RpL.at {F : Hp} {ds : List PyData} {vs : List V} {i : Int} {z : PyData} (r : RpL F ds vs) (h : atI ds i = some z) : ∃ v, atI vs i = some v ∧ Rp F z v := by
  unfold atI at h ⊢
  rw [r.len]
  obtain ⟨j, h1, h2⟩ := Option.bind_eq_some_iff.mp h
  obtain ⟨v, h3, h4⟩ := r.get h2
  exact ⟨v, Option.bind_eq_some_iff.mpr ⟨j, h1, h3⟩, h4⟩
def rIxA (K : PySem.W.Frag) : R2 := fun x y H Q => rIxL K x y H Q ∨ rIxT K x y H Q
theorem ix_any : IxR X (rIxA X.K) := ix_list.or ix_tup
theorem ok_ix : BOk X ixB (rIxA X.K) := by
  intro G F pc env σ H x y d e P Q r hx hy q k
  unfold ixB at q
  split at q
  · obtain ⟨z, h, p⟩ := q
    obtain ⟨l, vs, ex, fx, rx⟩ := hx.list
    obtain ⟨v, hv, rv⟩ := rx.at h
    exact .inl ⟨l, vs, _, v, ex, Rp.int_iff.mp hy, SqL.of (r.base.f _ _ fx), hv, k _ _ F H p (Same.refl _) r rv⟩
  · obtain ⟨z, h, p⟩ := q
    obtain ⟨l, vs, ex, fx, rx⟩ := hx.tuple
    obtain ⟨v, hv, rv⟩ := rx.at h
    exact .inr ⟨l, vs, _, v, ex, Rp.int_iff.mp hy, SqT.of (r.base.f _ _ fx), hv, k _ _ F H p (Same.refl _) r rv⟩
  · exact q.elim
theorem ed_ix (h1 : ED X a w1) (h2 : ED X b w2) (hs : PlainIx b := by intro _ _; rfl) : ED X (.Subscript a b pos) (wBin ixB w1 w2) :=
  ⟨moBin moIx h1.mo h2.mo, pe_conv (pe_ix ix_any h1.pe h2.pe hs) fun σ H Q h => tW_bin ok_ix moIx h1.mo h2.mo h⟩
/-- the data in a slot, own or not -/
def slD (env : Nv) (i : Nat) : Option PyData := match env[i]? with
  | some (some (.sh d)) => some d
  | some (some (.ow d)) => some d
  | _ => none
/-- name[index], the name's list read in place -/
def wIxN (i : Nat) (w : WE) : WE := fun env P => (slD env i).isSome = true ∧ w env fun e env2 => ∃ d, slD env2 i = some d ∧ ixB d e fun z => P z env2
theorem slD_val {M : Str → Option Value} {G F H : Hp} {pc : Pc} {env : Nv} {σ : L2.St} {i : Nat} {d : PyData} (r : Rel M G F pc env σ H) (h : slD env i = some d) : ∃ v, σ[i]? = some (some v) ∧ (Rp F d v ∨ ∃ a, v = .ref a ∧ Cnt F H a d) := by
  unfold slD at h
  split at h
  · rename_i d' e
    cases h
    obtain ⟨v, h1, h2⟩ := r.cell i _ e
    exact ⟨v, h1, .inl h2⟩
  · rename_i d' e
    cases h
    obtain ⟨v, h1, a, h2, h3⟩ := r.cell i _ e
    exact ⟨v, h1, .inr ⟨a, h2, h3.cnt⟩⟩
  · cases h
/-- a list or tuple in a slot, to be read -/
theorem slD_seq {M : Str → Option Value} {G F H : Hp} {pc : Pc} {env : Nv} {σ : L2.St} {i : Nat} {ds : List PyData} (r : Rel M G F pc env σ H) (h : slD env i = some (.list ds)) : ∃ a vs, σ[i]? = some (some (.ref a)) ∧ H a = some (.lst vs) ∧ RpL F ds vs := by
  obtain ⟨v, h1, h2⟩ := slD_val r h
  rcases h2 with h2 | ⟨a, e, vs, h3, h4⟩
  · obtain ⟨a, vs, e, f, g⟩ := h2.list
    subst e
    exact ⟨a, vs, h1, r.base.f _ _ f, g⟩
  · subst e
    exact ⟨a, vs, h1, h3, h4⟩
theorem slD_tup {M : Str → Option Value} {G F H : Hp} {pc : Pc} {env : Nv} {σ : L2.St} {i : Nat} {ds : List PyData} (r : Rel M G F pc env σ H) (h : slD env i = some (.tuple ds)) : ∃ a vs, σ[i]? = some (some (.ref a)) ∧ H a = some (.tup vs) ∧ RpL F ds vs := by
  obtain ⟨v, h1, h2⟩ := slD_val r h
  rcases h2 with h2 | ⟨a, e, h3⟩
  · obtain ⟨a, vs, e, f, g⟩ := h2.tuple
    subst e
    exact ⟨a, vs, h1, r.base.f _ _ f, g⟩
  · exact False.elim h3
theorem slD_dct {M : Str → Option Value} {G F H : Hp} {pc : Pc} {env : Nv} {σ : L2.St} {i : Nat} {ds : List (PyData × PyData)} (r : Rel M G F pc env σ H) (h : slD env i = some (.dict ds)) : ∃ a vs, σ[i]? = some (some (.ref a)) ∧ H a = some (.dK vs) ∧ RpK F ds vs := by
  obtain ⟨v, h1, h2⟩ := slD_val r h
  rcases h2 with h2 | ⟨a, e, vs, h3, h4⟩
  · obtain ⟨a, vs, e, f, g⟩ := h2.dict
    subst e
    exact ⟨a, vs, h1, r.base.f _ _ f, g⟩
  · subst e
    exact ⟨a, vs, h1, h3, h4⟩
theorem ed_ixN (i : Nat) {x : Str} {npos : Pos} (h : PE X (.Name x npos) (tVar i)) (h2 : ED X b w2) (hs : PlainIx b := by intro _ _; rfl) : ED X (.Subscript (.Name x npos) b pos) (wIxN i w2) := by
  refine ⟨fun env P P' k q => ⟨q.1, h2.mo _ _ _ (fun e env2 ⟨d, e1, q2⟩ => ⟨d, e1, moIx _ _ _ _ (fun z p => k _ _ p) q2⟩) q.2⟩, pe_conv (pe_ix ix_any h h2.pe hs) fun σ H Q ⟨G, F, pc, env, r, q⟩ => ?_⟩
  obtain ⟨d0, e0⟩ := Option.isSome_iff_exists.mp q.1
  obtain ⟨v, hv, _⟩ := slD_val r e0
  refine ⟨v, hv, G, F, pc, env, r, h2.mo _ _ _ (fun e env2 q2 v2 F2 pc2 H2 s2 p2 r2 rp2 => ?_) q.2⟩
  obtain ⟨d, e1, q3⟩ := q2
  unfold ixB at q3
  split at q3
  · obtain ⟨z, hz, p⟩ := q3
    obtain ⟨a, vs, g1, g2, g3⟩ := slD_seq r2 e1
    obtain ⟨u, hu, ru⟩ := g3.at hz
    rw [hv] at g1; cases g1
    exact .inl ⟨a, vs, _, u, rfl, Rp.int_iff.mp rp2, SqL.of g2, hu, p u F2 pc2 H2 s2 p2 r2 ru⟩
  · obtain ⟨z, hz, p⟩ := q3
    obtain ⟨a, vs, g1, g2, g3⟩ := slD_tup r2 e1
    obtain ⟨u, hu, ru⟩ := g3.at hz
    rw [hv] at g1; cases g1
    exact .inr ⟨a, vs, _, u, rfl, Rp.int_iff.mp rp2, SqT.of g2, hu, p u F2 pc2 H2 s2 p2 r2 ru⟩
  · exact q3.elim

/-! dicts by ints and texts -/
def kOf : PyData → Option L2.Key
  | .int i => some (.inl i)
  | .str x => some (.inr x)
  | _ => none
def dLook (kvs : List (PyData × PyData)) (k : L2.Key) : Option PyData := (kvs.find? fun p => decide (kOf p.1 = some k)).map (·.2)
def dPut (kvs : List (PyData × PyData)) (k : L2.Key) (d : PyData) : List (PyData × PyData) :=
  if (kvs.any fun p => decide (kOf p.1 = some k)) = true then kvs.map (fun p => if kOf p.1 = some k then (p.1, d) else p) else kvs ++ [(keyD k, d)]
theorem kOf_keyD (k : L2.Key) : kOf (keyD k) = some k := by cases k <;> rfl
theorem kOf_some {d : PyData} {k : L2.Key} (h : kOf d = some k) : d = keyD k := by
  cases d <;> simp only [kOf] at h <;> cases h <;> rfl
theorem RpK.len {F : Hp} : ∀ {kvs : List (PyData × PyData)} {ks : List (L2.Key × V)}, RpK F kvs ks → ks.length = kvs.length
  | [], ks, r => by simp only [RpK] at r; subst r; rfl
  | (k, d) :: kr, ks, r => by
    simp only [RpK] at r
    obtain ⟨key, v, q, e, _, _, g⟩ := r
    subst e
    simp only [List.length_cons, RpK.len g]
theorem RpK.look {F : Hp} {k : L2.Key} : ∀ {kvs : List (PyData × PyData)} {ks : List (L2.Key × V)}, RpK F kvs ks → (∀ d, dLook kvs k = some d → ∃ v, valV ks k = some v ∧ Rp F d v) ∧ (dLook kvs k = none → valV ks k = none)
  | [], ks, r => by simp only [RpK] at r; subst r; exact ⟨fun d h => by simp [dLook] at h, fun _ => rfl⟩
  | (k', d') :: kr, ks, r => by
    simp only [RpK] at r
    obtain ⟨key, v, q, e, e2, f, g⟩ := r
    subst e e2
    obtain ⟨h1, h2⟩ := RpK.look (k := k) g
    by_cases hk : key = k
    · subst hk
      refine ⟨fun d h => ⟨v, valV_pos rfl, ?_⟩, fun h => ?_⟩
      · simp [dLook, kOf_keyD] at h
        subst h; exact f
      · simp [dLook, kOf_keyD] at h
    · have hk' : ¬ kOf (keyD key) = some k := by rw [kOf_keyD]; intro z; exact hk (Option.some.inj z)
      have e1 : dLook ((keyD key, d') :: kr) k = dLook kr k := by simp [dLook, hk']
      rw [e1, valV_neg hk]
      exact ⟨h1, h2⟩
theorem RpK.app {F : Hp} : ∀ {a b : List (PyData × PyData)} {x y : List (L2.Key × V)}, RpK F a x → RpK F b y → RpK F (a ++ b) (x ++ y)
  | [], b, x, y, r, t => by simp only [RpK] at r; subst r; exact t
  | (k, d) :: a, b, x, y, r, t => by
    simp only [RpK] at r
    obtain ⟨key, v, q, e, e2, f, g⟩ := r
    subst e
    simp only [List.cons_append, RpK]
    exact ⟨key, v, q ++ y, rfl, e2, f, RpK.app g t⟩
theorem RpK.any {F : Hp} {k : L2.Key} : ∀ {kvs : List (PyData × PyData)} {ks : List (L2.Key × V)}, RpK F kvs ks → (ks.any fun kv => decide (kv.1 = k)) = kvs.any fun p => decide (kOf p.1 = some k)
  | [], ks, r => by simp only [RpK] at r; subst r; rfl
  | (k', d') :: kr, ks, r => by
    simp only [RpK] at r
    obtain ⟨key, v, q, e, e2, f, g⟩ := r
    subst e e2
    rw [List.any_cons, List.any_cons, RpK.any g]
    congr 1
    simp only [kOf_keyD, Option.some.injEq]
theorem RpK.mapPut {F : Hp} {k : L2.Key} {d : PyData} {v : V} (h : Rp F d v) : ∀ {kvs : List (PyData × PyData)} {ks : List (L2.Key × V)}, RpK F kvs ks →
    RpK F (kvs.map fun p => if kOf p.1 = some k then (p.1, d) else p) (ks.map fun kv => if kv.1 = k then (kv.1, v) else kv)
  | [], ks, r => by simp only [RpK] at r; subst r; simp only [List.map_nil, RpK]
  | (k', d') :: kr, ks, r => by
    simp only [RpK] at r
    obtain ⟨key, v', q, e, e2, f, g⟩ := r
    subst e e2
    have ih := RpK.mapPut (k := k) h g
    simp only [List.map_cons, kOf_keyD, Option.some.injEq]
    by_cases hk : key = k
    · rw [if_pos hk, if_pos hk]
      simp only [RpK]
      exact ⟨key, v, _, rfl, rfl, h, ih⟩
    · rw [if_neg hk, if_neg hk]
      simp only [RpK]
      exact ⟨key, v', _, rfl, rfl, f, ih⟩
theorem RpK.put {F : Hp} {k : L2.Key} {d : PyData} {v : V} {kvs : List (PyData × PyData)} {ks : List (L2.Key × V)} (r : RpK F kvs ks) (h : Rp F d v) : RpK F (dPut kvs k d) (putK ks k v) := by
  unfold dPut putK
  rw [r.any]
  by_cases q : (kvs.any fun p => decide (kOf p.1 = some k)) = true
  · rw [if_pos q, if_pos q]; exact r.mapPut h
  · rw [if_neg q, if_neg q]
    exact r.app (by simp only [RpK]; exact ⟨k, v, [], rfl, rfl, h, rfl⟩)
theorem Rp.key {F : Hp} {d : PyData} {v : V} {k : L2.Key} (r : Rp F d v) (h : kOf d = some k) : v = kV k := by
  have := kOf_some h
  subst this
  cases k with
  | inl i => exact Rp.int_iff.mp r
  | inr x => exact Rp.str_iff.mp r
/-- name[key] of a dict -/
def wDgN (i : Nat) (w : WE) : WE := fun env P => (slD env i).isSome = true ∧ w env fun e env2 => ∃ kvs k z, slD env2 i = some (.dict kvs) ∧ kOf e = some k ∧ dLook kvs k = some z ∧ P z env2
theorem ed_dgN (i : Nat) {x : Str} {npos : Pos} (hu : X.A.units + 1 < cLine) (h : PE X (.Name x npos) (tVar i)) (h2 : ED X b w2) (hs : NoSl b := by intro _ _; rfl) : ED X (.Subscript (.Name x npos) b pos) (wDgN i w2) := by
  refine ⟨fun env P P' k q => ⟨q.1, h2.mo _ _ _ (fun e env2 ⟨kvs, key, z, e1, e2, e3, p⟩ => ⟨kvs, key, z, e1, e2, e3, k _ _ p⟩) q.2⟩, pe_conv (pe_dget hu h h2.pe hs) fun σ H Q ⟨G, F, pc, env, r, q⟩ => ?_⟩
  obtain ⟨d0, e0⟩ := Option.isSome_iff_exists.mp q.1
  obtain ⟨v, hv, _⟩ := slD_val r e0
  refine ⟨v, hv, G, F, pc, env, r, h2.mo _ _ _ (fun e env2 q2 v2 F2 pc2 H2 s2 p2 r2 rp2 => ?_) q.2⟩
  obtain ⟨kvs, key, z, e1, e2, e3, p⟩ := q2
  obtain ⟨a, ks, g1, g2, g3⟩ := slD_dct r2 e1
  rw [hv] at g1; cases g1
  obtain ⟨u, hu, ru⟩ := (g3.look (k := key)).1 z e3
  refine ⟨a, u, rfl, ?_, p u F2 pc2 H2 s2 p2 r2 ru⟩
  rw [rp2.key e2, ← hu]
  exact DGet.k g2
def wDinN (neg : Bool) (i : Nat) (w : WE) : WE := fun env P => w env fun e env2 => ∃ kvs k, slD env2 i = some (.dict kvs) ∧ kOf e = some k ∧ P (.bool (xor neg (dLook kvs k).isSome)) env2
theorem isSome_look {F : Hp} {kvs : List (PyData × PyData)} {ks : List (L2.Key × V)} (r : RpK F kvs ks) (k : L2.Key) : (valV ks k).isSome = (dLook kvs k).isSome := by
  obtain ⟨h1, h2⟩ := r.look (k := k)
  cases h : dLook kvs k with
  | none => rw [h2 h]; rfl
  | some d => obtain ⟨v, hv, _⟩ := h1 d h; rw [hv]; rfl
theorem moDinN {neg : Bool} {i : Nat} (h2 : MoE w2) : MoE (wDinN neg i w2) := fun env P P' k q => h2 _ _ _ (fun e env2 ⟨kvs, key, e1, e2, p⟩ => ⟨kvs, key, e1, e2, k _ _ p⟩) q
theorem pc_dinN (i : Nat) {x : Str} {npos : Pos} (hu : X.A.units + 1 < cLine) (h : PE X (.Name x npos) (tVar i)) (h2 : ED X b w2) : PC X .In b (.Name x npos) (tW X.mg (wDinN false i w2)) := by
  refine ⟨fun pins s σ H Q I ⟨G, F, pc, env, r, q⟩ => (pc_din hu h2.pe h).run pins s σ H Q I ⟨G, F, pc, env, r, h2.mo _ _ _ (fun e env2 q2 v2 F2 pc2 H2 s2 p2 r2 rp2 => ?_) q⟩⟩
  obtain ⟨kvs, key, e1, e2, p⟩ := q2
  obtain ⟨a, ks, g1, g2, g3⟩ := slD_dct r2 e1
  refine ⟨_, g1, a, valV ks key, rfl, by rw [rp2.key e2]; exact DGet.k g2, ?_⟩
  rw [isSome_look g3]
  exact p _ F2 pc2 H2 s2 p2 r2 (by simp [Rp])
theorem pc_dnotinN (i : Nat) {x : Str} {npos : Pos} (hu : X.A.units + 1 < cLine) (h : PE X (.Name x npos) (tVar i)) (h2 : ED X b w2) : PC X .NotIn b (.Name x npos) (tW X.mg (wDinN true i w2)) := by
  refine ⟨fun pins s σ H Q I ⟨G, F, pc, env, r, q⟩ => (pc_dnotin hu h2.pe h).run pins s σ H Q I ⟨G, F, pc, env, r, h2.mo _ _ _ (fun e env2 q2 v2 F2 pc2 H2 s2 p2 r2 rp2 => ?_) q⟩⟩
  obtain ⟨kvs, key, e1, e2, p⟩ := q2
  obtain ⟨a, ks, g1, g2, g3⟩ := slD_dct r2 e1
  refine ⟨_, g1, a, valV ks key, rfl, by rw [rp2.key e2]; exact DGet.k g2, ?_⟩
  rw [isSome_look g3]
  exact p _ F2 pc2 H2 s2 p2 r2 (by simp [Rp])
theorem ed_dinN (i : Nat) {x : Str} {npos : Pos} (hu : X.A.units + 1 < cLine) (h : PE X (.Name x npos) (tVar i)) (h2 : ED X b w2) (hm : behindInMarks .In (.Name x npos) = false := by rfl) : ED X (.Compare b [.In] [.Name x npos] pos) (wDinN false i w2) :=
  ⟨moDinN h2.mo, pe_cmp (pc_dinN i hu h h2) hm⟩
theorem ed_dnotinN (i : Nat) {x : Str} {npos : Pos} (hu : X.A.units + 1 < cLine) (h : PE X (.Name x npos) (tVar i)) (h2 : ED X b w2) (hm : behindInMarks .NotIn (.Name x npos) = false := by rfl) : ED X (.Compare b [.NotIn] [.Name x npos] pos) (wDinN true i w2) :=
  ⟨moDinN h2.mo, pe_cmp (pc_dnotinN i hu h h2) hm⟩
theorem td_dinN (i : Nat) {x : Str} {npos : Pos} (hu : X.A.units + 1 < cLine) (h : PE X (.Name x npos) (tVar i)) (h2 : ED X b w2) (hm : behindInMarks .In (.Name x npos) = false := by rfl) : TD X (.Compare b [.In] [.Name x npos] pos) (wTest (wDinN false i w2)) :=
  ⟨moTest (moDinN h2.mo), pt_conv (pt_cmp (pc_dinN i hu h h2) hm) fun σ H Q q => tW_test (X := X) (moDinN h2.mo) q⟩
theorem td_dnotinN (i : Nat) {x : Str} {npos : Pos} (hu : X.A.units + 1 < cLine) (h : PE X (.Name x npos) (tVar i)) (h2 : ED X b w2) (hm : behindInMarks .NotIn (.Name x npos) = false := by rfl) : TD X (.Compare b [.NotIn] [.Name x npos] pos) (wTest (wDinN true i w2)) :=
  ⟨moTest (moDinN h2.mo), pt_conv (pt_cmp (pc_dnotinN i hu h h2) hm) fun σ H Q q => tW_test (X := X) (moDinN h2.mo) q⟩

/-! x in a list or tuple -/
def itemsOf : PyData → Option (List PyData)
  | .list ds => some ds
  | .tuple ds => some ds
  | _ => none
def inB (neg : Bool) : B2 := fun d e P => ∃ ds, itemsOf e = some ds ∧ SeqAt.shaped d = true ∧ SeqAt.shaped e = true ∧ P (.bool (xor neg (ds.any fun z => PyData.eqv z d)))
theorem moIn {neg : Bool} : MoB (inB neg) := fun d e P P' k ⟨ds, h1, h2, h3, q⟩ => ⟨ds, h1, h2, h3, k _ q⟩
def rInA (K : PySem.W.Frag) (neg : Bool) : R2 := fun x y H Q => ∃ d e ds, Dp K H x d ∧ Dp K H y e ∧ itemsOf e = some ds ∧ SeqAt.shaped d = true ∧ SeqAt.shaped e = true ∧ Q (.bl (xor neg (ds.any fun z => PyData.eqv z d))) H
theorem op_inA (hu : X.A.units + 65 < cLine) : OpR X (compareOp .In) (rInA X.K false) := by
  intro pins s σ H x y v u Q I rx ry ⟨d, e, ds, hd, he, hi, sd, se, q⟩
  obtain ⟨as, r1⟩ := Dp.reads I d x v hd rx
  obtain ⟨bs, r2⟩ := Dp.reads I e y u he ry
  rw [Bool.false_xor] at q
  cases e with
  | list es => cases hi; exact SeqAt.in_list_reads r2 r1 (by have := SeqAt.canLay_of_shaped se; simpa only [PyData.canLay0] using this) (SeqAt.canLay_of_shaped sd) (by have h1 := SeqAt.depth_of_shaped sd; have h2 := Nat.min_le_right (PyData.depthAll ds) d.depth; omega) ⟨.bl _, H, I, rfl, q⟩
  | tuple es => cases hi; exact SeqAt.in_tuple_reads r2 r1 (by have := SeqAt.canLay_of_shaped se; simpa only [PyData.canLay0] using this) (SeqAt.canLay_of_shaped sd) (by have h1 := SeqAt.depth_of_shaped sd; have h2 := Nat.min_le_right (PyData.depthAll ds) d.depth; omega) ⟨.bl _, H, I, rfl, q⟩
  | _ => cases hi
theorem op_notInA (hu : X.A.units + 65 < cLine) : OpR X (compareOp .NotIn) (rInA X.K true) := by
  intro pins s σ H x y v u Q I rx ry ⟨d, e, ds, hd, he, hi, sd, se, q⟩
  obtain ⟨as, r1⟩ := Dp.reads I d x v hd rx
  obtain ⟨bs, r2⟩ := Dp.reads I e y u he ry
  rw [Bool.true_xor] at q
  cases e with
  | list es => cases hi; exact SeqAt.notIn_list_reads r2 r1 (by have := SeqAt.canLay_of_shaped se; simpa only [PyData.canLay0] using this) (SeqAt.canLay_of_shaped sd) (by have h1 := SeqAt.depth_of_shaped sd; have h2 := Nat.min_le_right (PyData.depthAll ds) d.depth; omega) ⟨.bl _, H, I, rfl, q⟩
  | tuple es => cases hi; exact SeqAt.notIn_tuple_reads r2 r1 (by have := SeqAt.canLay_of_shaped se; simpa only [PyData.canLay0] using this) (SeqAt.canLay_of_shaped sd) (by have h1 := SeqAt.depth_of_shaped sd; have h2 := Nat.min_le_right (PyData.depthAll ds) d.depth; omega) ⟨.bl _, H, I, rfl, q⟩
  | _ => cases hi
theorem ok_in {neg : Bool} : BOk X (inB neg) (rInA X.K neg) := by
  intro G F pc env σ H x y d e P Q r hx hy ⟨ds, h1, h2, h3, q⟩ k
  exact ⟨d, e, ds, Rp.dp r.base.f d x (SeqAt.canLay_of_shaped h2) hx, Rp.dp r.base.f e y (SeqAt.canLay_of_shaped h3) hy, h1, h2, h3, k _ _ F H q (Same.refl _) r (by simp only [Rp])⟩
theorem ed_in (hu : X.A.units + 65 < cLine) (h1 : ED X a w1) (h2 : ED X b w2) (hm : behindInMarks .In b = false := by rfl) : ED X (.Compare a [.In] [b] pos) (wBin (inB false) w1 w2) := ed_cmp (op_inA hu) ok_in moIn h1 h2 hm
theorem ed_notIn (hu : X.A.units + 65 < cLine) (h1 : ED X a w1) (h2 : ED X b w2) (hm : behindInMarks .NotIn b = false := by rfl) : ED X (.Compare a [.NotIn] [b] pos) (wBin (inB true) w1 w2) := ed_cmp (op_notInA hu) ok_in moIn h1 h2 hm
theorem td_in (hu : X.A.units + 65 < cLine) (h1 : ED X a w1) (h2 : ED X b w2) (hm : behindInMarks .In b = false := by rfl) : TD X (.Compare a [.In] [b] pos) (wTest (wBin (inB false) w1 w2)) := td_cmp (op_inA hu) ok_in moIn h1 h2 hm
theorem td_notIn (hu : X.A.units + 65 < cLine) (h1 : ED X a w1) (h2 : ED X b w2) (hm : behindInMarks .NotIn b = false := by rfl) : TD X (.Compare a [.NotIn] [b] pos) (wTest (wBin (inB true) w1 w2)) := td_cmp (op_notInA hu) ok_in moIn h1 h2 hm
/-- x in name: the name's list read in place -/
def wInN (neg : Bool) (i : Nat) (w : WE) : WE := fun env P => w env fun d env2 => ∃ e, slD env2 i = some e ∧ inB neg d e fun z => P z env2
theorem moInN {neg : Bool} {i : Nat} (h2 : MoE w2) : MoE (wInN neg i w2) := fun env P P' k q => h2 _ _ _ (fun e env2 ⟨d, e1, p⟩ => ⟨d, e1, moIn _ _ _ _ (fun z p => k _ _ p) p⟩) q
theorem slD_dp {M : Str → Option Value} {K : PySem.W.Frag} {G F H : Hp} {pc : Pc} {env : Nv} {σ : L2.St} {i : Nat} {d : PyData} {ds : List PyData} (r : Rel M G F pc env σ H) (h : slD env i = some d) (hi : itemsOf d = some ds) (c : d.canLay0 = true) : ∃ v, σ[i]? = some (some v) ∧ Dp K H v d := by
  cases d with
  | list es =>
    obtain ⟨a, vs, h1, h2, h3⟩ := slD_seq r h
    exact ⟨_, h1, .lst (SqL.of h2) (RpL.dp r.base.f _ _ (by simpa only [PyData.canLay0] using c) h3)⟩
  | tuple es =>
    obtain ⟨a, vs, h1, h2, h3⟩ := slD_tup r h
    exact ⟨_, h1, .tup (SqT.of h2) (RpL.dp r.base.f _ _ (by simpa only [PyData.canLay0] using c) h3)⟩
  | _ => cases hi
theorem tW_inN {neg : Bool} {i : Nat} (h2 : MoE w2) {σ : L2.St} {H : Hp} {Q : VK} (h : tW X.mg (wInN neg i w2) σ H Q) : tOp (rInA X.K neg) (tW X.mg w2) (tVar i) σ H Q := by
  obtain ⟨G, F, pc, env, r, q⟩ := h
  refine ⟨G, F, pc, env, r, h2 _ _ _ (fun d env2 q2 v2 F2 pc2 H2 s2 p2 r2 rp2 => ?_) q⟩
  obtain ⟨e, e1, ds, h1, h2, h3, p⟩ := q2
  obtain ⟨v, hv, dv⟩ := slD_dp (K := X.K) r2 e1 h1 (SeqAt.canLay_of_shaped h3)
  exact ⟨v, hv, d, e, ds, Rp.dp r2.base.f d v2 (SeqAt.canLay_of_shaped h2) rp2, dv, h1, h2, h3, p _ F2 pc2 H2 s2 p2 r2 (by simp only [Rp])⟩
theorem ed_inN (i : Nat) {x : Str} {npos : Pos} (hu : X.A.units + 65 < cLine) (h : PE X (.Name x npos) (tVar i)) (h1 : ED X a w1) (hm : behindInMarks .In (.Name x npos) = false := by rfl) : ED X (.Compare a [.In] [.Name x npos] pos) (wInN false i w1) :=
  ⟨moInN h1.mo, pe_conv (pe_cmpR (op_inA hu) h1.pe h hm) fun σ H Q q => tW_inN h1.mo q⟩
theorem ed_notInN (i : Nat) {x : Str} {npos : Pos} (hu : X.A.units + 65 < cLine) (h : PE X (.Name x npos) (tVar i)) (h1 : ED X a w1) (hm : behindInMarks .NotIn (.Name x npos) = false := by rfl) : ED X (.Compare a [.NotIn] [.Name x npos] pos) (wInN true i w1) :=
  ⟨moInN h1.mo, pe_conv (pe_cmpR (op_notInA hu) h1.pe h hm) fun σ H Q q => tW_inN h1.mo q⟩
theorem td_inN (i : Nat) {x : Str} {npos : Pos} (hu : X.A.units + 65 < cLine) (h : PE X (.Name x npos) (tVar i)) (h1 : ED X a w1) (hm : behindInMarks .In (.Name x npos) = false := by rfl) : TD X (.Compare a [.In] [.Name x npos] pos) (wTest (wInN false i w1)) :=
  ⟨moTest (moInN h1.mo), pt_conv (pt_cmpR (op_inA hu) h1.pe h hm) fun σ H Q q => tW_inN (X := X) h1.mo (tW_test (X := X) (moInN h1.mo) q)⟩
theorem td_notInN (i : Nat) {x : Str} {npos : Pos} (hu : X.A.units + 65 < cLine) (h : PE X (.Name x npos) (tVar i)) (h1 : ED X a w1) (hm : behindInMarks .NotIn (.Name x npos) = false := by rfl) : TD X (.Compare a [.NotIn] [.Name x npos] pos) (wTest (wInN true i w1)) :=
  ⟨moTest (moInN h1.mo), pt_conv (pt_cmpR (op_notInA hu) h1.pe h hm) fun σ H Q q => tW_inN (X := X) h1.mo (tW_test (X := X) (moInN h1.mo) q)⟩

/-! slices -/
abbrev WO := Nv → (Option Int → Nv → Prop) → Prop
structure SD (X : Cx) (e : Option Expr) (w : WO) : Prop where
  mo : ∀ env P P', (∀ d e, P d e → P' d e) → w env P → w env P'
  po : PO X e (fun σ H Q => ∃ G F pc env, Rel X.mg G F pc env σ H ∧ w env fun o env' => ∀ F' pc' H', Same F F' → PcLe pc pc' → Rel X.mg G F' pc' env' σ H' → Q o H')
theorem po_conv {o : Option Expr} {t t' : L2.TO} (h : PO X o t) (k : ∀ σ H Q, t' σ H Q → t σ H Q) : PO X o t' := ⟨fun pins s σ H Q I q => h.run pins s σ H Q I (k σ H Q q)⟩
def wPn : WO := fun env P => P none env
def wPs (w : WE) : WO := fun env P => w env fun d e => ∃ i, d = .int i ∧ P (some i) e
theorem sd_none : SD X none wPn := ⟨fun _ _ _ k q => k _ _ q, po_conv po_none fun σ H Q ⟨G, F, pc, env, r, q⟩ => q F pc H (Same.refl _) .refl r⟩
theorem sd_some (h : ED X e w) : SD X (some e) (wPs w) := ⟨fun env P P' k q => h.mo _ _ _ (fun d e ⟨i, x, y⟩ => ⟨i, x, k _ _ y⟩) q, po_conv (po_some h.pe) fun σ H Q ⟨G, F, pc, env, r, q⟩ => ⟨G, F, pc, env, r, h.mo _ _ _ (fun d e ⟨i, x, y⟩ v F' pc' H' s p r' rp => by
  subst x
  exact ⟨i, Rp.int_iff.mp rp, y F' pc' H' s p r'⟩) q⟩⟩
def cutD (xs : List PyData) (lo hi : Option Int) : List PyData := (xs.drop (HT.sIx xs.length 0 lo)).take (HT.sIx xs.length xs.length hi - HT.sIx xs.length 0 lo)
theorem RpL.cut {F : Hp} {ds : List PyData} {vs : List V} (r : RpL F ds vs) (lo hi : Option Int) : RpL F (cutD ds lo hi) (cutV vs lo hi) := by
  unfold cutD cutV
  rw [r.len]
  exact (r.drop _).take _
def slB (d : PyData) (lo hi : Option Int) (P : PyData → Prop) : Prop := match d with
  | .list xs => P (.list (cutD xs lo hi))
  | .tuple xs => P (.tuple (cutD xs lo hi))
  | _ => False
def wSl (w : WE) (wl wh : WO) : WE := fun env P => w env fun d e1 => wl e1 fun lo e2 => wh e2 fun hi e3 => slB d lo hi fun z => P z e3
theorem cut_whole {α : Type} {xs : List α} {lo hi : Option Int} (h : HT.sIx xs.length 0 lo = 0 ∧ HT.sIx xs.length xs.length hi = xs.length) : (xs.drop (HT.sIx xs.length 0 lo)).take (HT.sIx xs.length xs.length hi - HT.sIx xs.length 0 lo) = xs := by
  rw [h.1, h.2]; simp
theorem ed_sl {lo hi : Option Expr} {wl wh : WO} {p2 : Pos} (h : ED X e w) (hl : SD X lo wl) (hh : SD X hi wh) : ED X (.Subscript e (.Slice lo hi none p2) pos) (wSl w wl wh) := by
  have moS : ∀ d lo hi (P P' : PyData → Prop), (∀ z, P z → P' z) → slB d lo hi P → slB d lo hi P' := fun d lo hi P P' k q => by
    unfold slB at q ⊢
    split at q
    · exact k _ q
    · exact k _ q
    · exact q.elim
  refine ⟨fun env P P' k q => h.mo _ _ _ (fun d e1 q => hl.mo _ _ _ (fun o e2 q => hh.mo _ _ _ (fun o2 e3 q => moS _ _ _ _ _ (fun z p => k _ _ p) q) q) q) q,
    pe_conv (pe_slice (SlR.or sl_list sl_tupA) h.pe hl.po hh.po) fun σ H Q ⟨G, F, pc, env, r, q⟩ => ⟨G, F, pc, env, r, h.mo _ _ _ (fun d e1 q1 v F1 pc1 H1 s1 p1 r1 rp1 => ?_) q⟩⟩
  refine ⟨G, F1, pc1, e1, r1, hl.mo _ _ _ (fun lo e2 q2 F2 pc2 H2 s2 p2 r2 => ?_) q1⟩
  refine ⟨G, F2, pc2, e2, r2, hh.mo _ _ _ (fun hi e3 q3 F3 pc3 H3 s3 p3 r3 => ?_) q2⟩
  have rp3 := Rp.mono (s2.trans s3) _ _ rp1
  have sa := (s1.trans s2).trans s3
  have pa := (p1.trans p2).trans p3
  unfold slB at q3
  split at q3
  · obtain ⟨a, vs, ev, f, g⟩ := rp3.list
    refine .inl ⟨a, vs, ev, SqL.of (r3.base.f _ _ f), fun p hp => ?_⟩
    obtain ⟨r4, s4, rp⟩ := r3.newLst hp (g.cut lo hi)
    exact q3 _ _ pc3 _ (sa.trans s4) pa r4 rp
  · obtain ⟨a, vs, ev, f, g⟩ := rp3.tuple
    have gl := g.len
    refine .inr ⟨a, vs, ev, SqT.of (r3.base.f _ _ f), fun hw => ?_, fun hw p hp => ?_⟩
    · refine q3 _ F3 pc3 H3 sa pa r3 ?_
      rw [gl] at hw
      unfold cutD
      rw [cut_whole hw]
      exact ev ▸ rp3
    · obtain ⟨r4, s4, rp⟩ := r3.newTup hp (g.cut lo hi)
      exact q3 _ _ pc3 _ (sa.trans s4) pa r4 rp
  · exact q3.elim
end
end DL
set_option Elab.async false
set_option linter.all false
set_option maxRecDepth 100000
set_option maxHeartbeats 1000000
set_option autoImplicit false
/-! DLd: what is walked, targets, comprehensions. -/
namespace DL
open PySem PySem.Spec PyProof.Rows L2

/-! what is walked -/
structure IterOk (J : It) (G F : Hp) (ds : List PyData) : Prop where
  go : ∀ i H, Same G H → Same F H → i < ds.length → J.go i H
  yld : ∀ i H x H' d, Same G H → Same F H → ds[i]? = some d → J.yld i H x H' → (H' = H ∧ Rp F d x) ∨ ∃ T xs es, H T = none ∧ H' = upd H T (.tup xs) ∧ d = .tuple es ∧ x = .ref T ∧ RpL F es xs
  stop : ∀ i H, Same G H → Same F H → ds.length ≤ i → J.stop i H
abbrev WI := Nv → (List PyData → Nv → Prop) → Prop
def tI (M : Str → Option Value) (w : WI) : TI := fun σ H R => ∃ G F pc env, Rel M G F pc env σ H ∧ w env fun ds env' => ∀ J F' pc' H', Same F F' → PcLe pc pc' → Rel M G F' pc' env' σ H' → IterOk J G F' ds → R J H'
structure ID (X : Cx) (tg e : Expr) (w : WI) : Prop where
  mo : MoA w
  pi : PI X tg e (tI X.mg w)
theorem pi_conv {X : Cx} {tg e : Expr} {t t' : TI} (h : PI X tg e t) (k : ∀ σ H R, t' σ H R → t σ H R) : PI X tg e t' := ⟨fun pins s σ H R I q => h.run pins s σ H R I (k σ H R q)⟩
theorem IterOk.mono {J : It} {G F F' : Hp} {ds : List PyData} (h : IterOk J G F ds) (s : Same F F') : IterOk J G F' ds :=
  ⟨fun i H sg sm => h.go i H sg (s.trans sm), fun i H x H' d sg sm e y => by
    rcases h.yld i H x H' d sg (s.trans sm) e y with ⟨a, b⟩ | ⟨T, xs, es, a, b, c, d, e⟩
    · exact .inl ⟨a, Rp.mono s _ _ b⟩
    · exact .inr ⟨T, xs, es, a, b, c, d, RpL.mono s _ _ e⟩, fun i H sg sm => h.stop i H sg (s.trans sm)⟩

section
variable {X : Cx} {tg e a b c : Expr} {w w1 w2 : WE} {pos : Pos}
/-- a list or tuple, frozen -/
def wSeq (w : WE) : WI := fun env P => w env fun d e => ∃ ds, itemsOf d = some ds ∧ P ds e
theorem moSeq (h : MoE w) : MoA (wSeq w) := fun env P P' k q => h _ _ _ (fun d e ⟨ds, x, y⟩ => ⟨ds, x, k _ _ y⟩) q
theorem iter_list {K : PySem.W.Frag} {G F : Hp} {a : Addr} {vs : List V} {ds : List PyData} (f : F a = some (.lst vs)) (g : RpL F ds vs) : IterOk (Itl K a) G F ds where
  go := fun i H _ s hi => ⟨vs, vs[i]'(by rw [g.len]; exact hi), SqL.of (s _ _ f), by simp⟩
  yld := fun i H x H' d _ s e y => by
    obtain ⟨v, h1, h2⟩ := g.get e
    have := y.2 vs (SqL.of (s _ _ f))
    rw [h1] at this; cases this
    exact .inl ⟨y.1, h2⟩
  stop := fun i H _ s hi => ⟨vs, SqL.of (s _ _ f), by rw [g.len]; exact hi⟩
theorem iter_tup {K : PySem.W.Frag} {G F : Hp} {a : Addr} {vs : List V} {ds : List PyData} (f : F a = some (.tup vs)) (g : RpL F ds vs) : IterOk (Itt K a) G F ds where
  go := fun i H _ s hi => ⟨vs, vs[i]'(by rw [g.len]; exact hi), SqT.of (s _ _ f), by simp⟩
  yld := fun i H x H' d _ s e y => by
    obtain ⟨v, h1, h2⟩ := g.get e
    have := y.2 vs (SqT.of (s _ _ f))
    rw [h1] at this; cases this
    exact .inl ⟨y.1, h2⟩
  stop := fun i H _ s hi => ⟨vs, SqT.of (s _ _ f), by rw [g.len]; exact hi⟩
def listOnly : PyData → Option (List PyData)
  | .list ds => some ds
  | _ => none
def tupOnly : PyData → Option (List PyData)
  | .tuple ds => some ds
  | _ => none
def wSeqL (w : WE) : WI := fun env P => w env fun d e => ∃ ds, listOnly d = some ds ∧ P ds e
def wSeqT (w : WE) : WI := fun env P => w env fun d e => ∃ ds, tupOnly d = some ds ∧ P ds e
theorem id_list (h : ED X e w) : ID X tg e (wSeqL w) := by
  refine ⟨fun env P P' k q => h.mo _ _ _ (fun d e ⟨ds, x, y⟩ => ⟨ds, x, k _ _ y⟩) q, pi_conv (pi_list h.pe) fun σ H R ⟨G, F, pc, env, r, q⟩ => ⟨G, F, pc, env, r, h.mo _ _ _ (fun d e ⟨ds, x, y⟩ v F' pc' H' s p r' rp => ?_) q⟩⟩
  cases d with
  | list es =>
    cases x
    obtain ⟨a, vs, ev, f, g⟩ := rp.list
    exact ⟨a, ev, ⟨vs, SqL.of (r'.base.f _ _ f)⟩, y _ F' pc' H' s p r' (iter_list f g)⟩
  | _ => cases x
theorem id_tup (h : ED X e w) : ID X tg e (wSeqT w) := by
  refine ⟨fun env P P' k q => h.mo _ _ _ (fun d e ⟨ds, x, y⟩ => ⟨ds, x, k _ _ y⟩) q, pi_conv (pi_tup h.pe) fun σ H R ⟨G, F, pc, env, r, q⟩ => ⟨G, F, pc, env, r, h.mo _ _ _ (fun d e ⟨ds, x, y⟩ v F' pc' H' s p r' rp => ?_) q⟩⟩
  cases d with
  | tuple es =>
    cases x
    obtain ⟨a, vs, ev, f, g⟩ := rp.tuple
    exact ⟨a, ev, ⟨vs, SqT.of (r'.base.f _ _ f)⟩, y _ F' pc' H' s p r' (iter_tup f g)⟩
  | _ => cases x
/-- either, by the value -/
theorem id_seq (h : ED X e w) : ID X tg e (wSeq w) := by
  refine ⟨moSeq h.mo, ⟨fun pins s σ H R I ⟨G, F, pc, env, r, q⟩ => ?_⟩⟩
  refine thn (h.pe.run pins s σ H (fun v H' => ∃ F' pc' env' ds, Rel X.mg G F' pc' env' σ H' ∧ (∀ J, IterOk J G F' ds → R J H') ∧ ∃ a vs, v = .ref a ∧ RpL F' ds vs ∧ (F' a = some (.lst vs) ∨ F' a = some (.tup vs))) I ⟨G, F, pc, env, r, h.mo _ _ _ (fun d e q1 v F' pc' H' s p r' rp => ?_) q⟩) fun v s1 h1 => ?_
  · obtain ⟨ds, x, y⟩ := q1
    refine ⟨F', pc', e, ds, r', fun J hj => y J F' pc' H' s p r' hj, ?_⟩
    cases d with
    | list es => cases x; obtain ⟨a, vs, ev, f, g⟩ := rp.list; exact ⟨a, vs, ev, g, .inl f⟩
    | tuple es => cases x; obtain ⟨a, vs, ev, f, g⟩ := rp.tuple; exact ⟨a, vs, ev, g, .inr f⟩
    | _ => cases x
  · obtain ⟨x, H1, I1, r1, F', pc', env', ds, r', k, a, vs, ev, g, f⟩ := h1
    subst ev
    cases r1
    rcases f with f | f
    · have hq : SqL X.K H1 a vs := SqL.of (r'.base.f _ _ f)
      obtain ⟨its, rv, pl, hz⟩ := I1.list hq
      refine wpAny_pyIter_list pl.isList ⟨s1.heap.objs.size, [s1.heap.objs.size], _, Itl X.K a, H1, rfl, I1.kept (t' := s1.toks) fun b o e => Heap.get?_push_of_some _ e, turn_list a _, ⟨_, Heap.get?_push_size _ rfl, rfl, rfl⟩, fun b hb => ?_, k _ (iter_list f g)⟩
      have eb : b = s1.heap.objs.size := by simpa using hb
      subst eb
      exact I1.fpOk (Nat.le_refl _) (I1.hok.fresh (Nat.le_refl _))
    · have hq : SqT X.K H1 a vs := SqT.of (r'.base.f _ _ f)
      obtain ⟨its, rv, pl, hz⟩ := I1.tuple hq
      refine wpAny_pyIter_tuple (show s1.heap.IsTuple a its.toArray from pl) ⟨s1.heap.objs.size, [s1.heap.objs.size], _, Itt X.K a, H1, rfl, I1.kept (t' := s1.toks) fun b o e => Heap.get?_push_of_some _ e, turn_tuple a _, ⟨_, Heap.get?_push_size _ rfl, rfl, rfl⟩, fun b hb => ?_, k _ (iter_tup f g)⟩
      have eb : b = s1.heap.objs.size := by simpa using hb
      subst eb
      exact I1.fpOk (Nat.le_refl _) (I1.hok.fresh (Nat.le_refl _))
def rgD (lo : Int) (n : Nat) : List PyData := (List.range n).map fun (i : Nat) => PyData.int (lo + i)
theorem rgD_len (lo : Int) (n : Nat) : (rgD lo n).length = n := by simp [rgD]
theorem iter_range {G F : Hp} {lo : Int} {n : Nat} : IterOk (Itr lo n) G F (rgD lo n) where
  go := fun i H _ s hi => by rw [rgD_len] at hi; exact hi
  yld := fun i H x H' d _ s e y => by
    refine .inl ⟨y.1, ?_⟩
    obtain ⟨hi, e2⟩ := List.getElem?_eq_some_iff.mp e
    simp [rgD] at e2
    subst e2
    exact Rp.int_iff.mpr y.2
  stop := fun i H _ s hi => by rw [rgD_len] at hi; exact hi
def wRg1 (w : WE) : WI := fun env P => w env fun d e => ∃ n : Int, d = .int n ∧ -(2 ^ 62) ≤ n ∧ n < 2 ^ 62 ∧ P (rgD 0 n.toNat) e
def wRg2 (w1 w2 : WE) : WI := fun env P => w1 env fun d e => w2 e fun d2 e2 => ∃ i n : Int, d = .int i ∧ d2 = .int n ∧ (-(2 ^ 62) ≤ i ∧ i < 2 ^ 62 ∧ -(2 ^ 62) ≤ n ∧ n < 2 ^ 62) ∧ P (rgD i (n - i).toNat) e2
theorem id_rg1 {p : Pos} (hg : Gl X "range") (hm : X.mg "range" = none) (h : ED X a w) (hs : starEach [a] X.env = [(false, eval a X.env)] := by rfl) : ID X tg (.Call (.Name "range" p) [a] [] pos) (wRg1 w) := by
  refine ⟨fun env P P' k q => h.mo _ _ _ (fun d e ⟨n, x, y, z, q⟩ => ⟨n, x, y, z, k _ _ q⟩) q, pi_conv (pi_range1 hg hm (pa_cons h.pe pa_nil hs) hs) fun σ H R ⟨G, F, pc, env, r, q⟩ => ⟨G, F, pc, env, r, h.mo _ _ _ (fun d e ⟨n, x, y, z, q⟩ v F' pc' H' s p r' rp => ?_) q⟩⟩
  subst x
  exact ⟨n, by rw [Rp.int_iff.mp rp], y, z, q _ F' pc' H' s p r' iter_range⟩
theorem id_rg2 {p : Pos} (hg : Gl X "range") (hm : X.mg "range" = none) (h1 : ED X a w1) (h2 : ED X b w2) (hs : starEach [a, b] X.env = [(false, eval a X.env), (false, eval b X.env)] := by rfl) (hs2 : starEach [b] X.env = [(false, eval b X.env)] := by rfl)
    (hs3 : starEach [a, b] X.env = (false, eval a X.env) :: starEach [b] X.env := by rfl) (hs4 : starEach [b] X.env = (false, eval b X.env) :: starEach [] X.env := by rfl) : ID X tg (.Call (.Name "range" p) [a, b] [] pos) (wRg2 w1 w2) := by
  refine ⟨fun env P P' k q => h1.mo _ _ _ (fun d e q => h2.mo _ _ _ (fun d2 e2 ⟨i, n, x, y, z, q⟩ => ⟨i, n, x, y, z, k _ _ q⟩) q) q, pi_conv (pi_range2 hg hm (pa_cons h1.pe (pa_cons h2.pe pa_nil hs4) hs3) hs hs2) fun σ H R ⟨G, F, pc, env, r, q⟩ => ⟨G, F, pc, env, r, h1.mo _ _ _ (fun d e q1 v F1 pc1 H1 s1 p1 r1 rp1 => ?_) q⟩⟩
  refine ⟨G, F1, pc1, e, r1, h2.mo _ _ _ (fun d2 e2 ⟨i, n, x, y, z, q⟩ v2 F2 pc2 H2 s2 p2 r2 rp2 => ?_) q1⟩
  subst x y
  exact ⟨i, n, by rw [Rp.int_iff.mp rp1, Rp.int_iff.mp rp2], z, q _ F2 pc2 H2 (s1.trans s2) (p1.trans p2) r2 iter_range⟩

/-! targets -/
abbrev WG := PyData → Nv → (Nv → Prop) → Prop
def MoG (g : WG) : Prop := ∀ d env P P', (∀ e, P e → P' e) → g d env P → g d env P'
/-- a target takes shared data (the heap may not grow) -/
def Off (ns : List Nat) (σ σ' : L2.St) : Prop := σ'.length = σ.length ∧ ∀ i, i ∉ ns → σ'[i]? = σ[i]?
theorem Off.refl {ns : List Nat} {σ : L2.St} : Off ns σ σ := ⟨rfl, fun _ _ => rfl⟩
theorem Off.trans {ns ms : List Nat} {σ σ' σ'' : L2.St} (h : Off ns σ σ') (g : Off ms σ' σ'') : Off (ns ++ ms) σ σ'' :=
  ⟨g.1.trans h.1, fun i hi => (g.2 i fun z => hi (List.mem_append_right _ z)).trans (h.2 i fun z => hi (List.mem_append_left _ z))⟩
structure GD (X : Cx) (tg : Expr) (t : TG) (g : WG) (ns : List Nat) : Prop where
  mo : MoG g
  pg : PG X tg t
  ok : ∀ (G F : Hp) (pc : Pc) (env : Nv) (σ : L2.St) (H : Hp) (v : V) (d : PyData) (P : Nv → Prop) (Q : L2.St → Hp → Prop), Rel X.mg G F pc env σ H → Rp F d v → g d env P → (∀ env' σ', P env' → Rel X.mg G F pc env' σ' H → Off ns σ σ' → Q σ' H) → t v σ H Q
def wName (i : Nat) : WG := fun d env P => P (env.set i (some (.sh d)))
theorem gd_name {i : Nat} (h : PG X tg (gName i)) : GD X tg (gName i) (wName i) [i] :=
  ⟨fun d env P P' k q => k _ q, h, fun G F pc env σ H v d P Q r rp q k => k _ _ q (r.setSh rp) ⟨by simp, fun j hj => List.getElem?_set_ne (fun z => hj (by simp [z]))⟩⟩
abbrev WGs := List PyData → Nv → (Nv → Prop) → Prop
structure GsD (X : Cx) (tgs : List Expr) (t : TGs) (g : WGs) (ns : List Nat) : Prop where
  mo : ∀ ds env P P', (∀ e, P e → P' e) → g ds env P → g ds env P'
  pgs : PGs X tgs t
  ok : ∀ (G F : Hp) (pc : Pc) (env : Nv) (σ : L2.St) (H : Hp) (vs : List V) (ds : List PyData) (P : Nv → Prop) (Q : L2.St → Hp → Prop), Rel X.mg G F pc env σ H → RpL F ds vs → g ds env P → (∀ env' σ', P env' → Rel X.mg G F pc env' σ' H → Off ns σ σ' → Q σ' H) → t vs σ H Q
def wGnil : WGs := fun ds env P => ds = [] ∧ P env
def wGcons (g : WG) (gs : WGs) : WGs := fun ds env P => ∃ d r, ds = d :: r ∧ g d env fun e => gs r e P
theorem gsd_nil : GsD X [] gNil wGnil [] := ⟨fun ds env P P' k q => ⟨q.1, k _ q.2⟩, pgs_nil, fun G F pc env σ H vs ds P Q r rp ⟨e, q⟩ k => by
  subst e
  simp only [RpL] at rp
  exact ⟨rp, k _ _ q r .refl⟩⟩
theorem gsd_cons {es : List Expr} {t : TG} {ts : TGs} {g : WG} {gs : WGs} {ns ms : List Nat} (h1 : GD X e t g ns) (h2 : GsD X es ts gs ms) (hs : (assignEach (e :: es) X.env).map (·.2) = assign e X.env :: (assignEach es X.env).map (·.2) := by rfl) : GsD X (e :: es) (gCons t ts) (wGcons g gs) (ns ++ ms) := by
  refine ⟨fun ds env P P' k ⟨d, r, x, q⟩ => ⟨d, r, x, h1.mo _ _ _ _ (fun e q => h2.mo _ _ _ _ k q) q⟩, pgs_cons h1.pg h2.pgs hs, fun G F pc env σ H vs ds P Q r rp ⟨d, dr, x, q⟩ k => ?_⟩
  subst x
  simp only [RpL] at rp
  obtain ⟨v, vr, ev, rv, rr⟩ := rp
  exact ⟨v, vr, ev, h1.ok G F pc env σ H v d _ _ r rv q fun e' σ' q' r' o' => h2.ok G F pc e' σ' H vr dr P Q r' rr q' fun e2 σ2 q2 r2 o2 => k e2 σ2 q2 r2 (o'.trans o2)⟩
/-- a tuple of targets takes a tuple (or, of a list: gd_unl) -/
def wGtup (n : Nat) (gs : WGs) : WG := fun d env P => ∃ ds, d = .tuple ds ∧ ds.length = n ∧ gs ds env P
theorem gd_tup {es : List Expr} {k : Nat} {t : TGs} {gs : WGs} {n : Nat} {ns : List Nat} (hc : X.calm = true) (h : GsD X es t gs ns) (hn : (assignEach es X.env).length = n := by rfl) (hst : (assignEach es X.env).findIdx? (·.1) = none := by rfl) :
    GD X (.Tuple es k pos) (gTup X.K n t) (wGtup n gs) ns := by
  refine ⟨fun d env P P' k ⟨ds, x, y, q⟩ => ⟨ds, x, y, h.mo _ _ _ _ k q⟩, pg_tup hc h.pgs hn hst, fun G F pc env σ H v d P Q r rp ⟨ds, x, y, q⟩ k => ?_⟩
  subst x
  obtain ⟨a, vs, ev, f, g⟩ := rp.tuple
  exact ⟨a, vs, ev, SqT.of (r.base.f _ _ f), by rw [g.len]; exact y, h.ok G F pc env σ H vs ds P Q r g q k⟩
def wGunl (n : Nat) (gs : WGs) : WG := fun d env P => ∃ ds, d = .list ds ∧ ds.length = n ∧ gs ds env P
theorem gd_unl {es : List Expr} {k : Nat} {t : TGs} {gs : WGs} {n : Nat} {ns : List Nat} (hc : X.calm = true) (h : GsD X es t gs ns) (hn : (assignEach es X.env).length = n := by rfl) (hst : (assignEach es X.env).findIdx? (·.1) = none := by rfl) :
    GD X (.Tuple es k pos) (gUnl X.K n t) (wGunl n gs) ns := by
  refine ⟨fun d env P P' k ⟨ds, x, y, q⟩ => ⟨ds, x, y, h.mo _ _ _ _ k q⟩, pg_unl hc h.pgs hn hst, fun G F pc env σ H v d P Q r rp ⟨ds, x, y, q⟩ k => ?_⟩
  subst x
  obtain ⟨a, vs, ev, f, g⟩ := rp.list
  exact ⟨a, vs, ev, SqL.of (r.base.f _ _ f), by rw [g.len]; exact y, h.ok G F pc env σ H vs ds P Q r g q k⟩

/-! comprehensions -/
def wipeN (env : Nv) : List Nat → Nv
  | [] => env
  | v :: vs => (wipeN env vs).set v none
theorem wipeN_len (env : Nv) : ∀ vs : List Nat, (wipeN env vs).length = env.length
  | [] => rfl
  | v :: vs => by unfold wipeN; rw [List.length_set, wipeN_len env vs]
theorem wipeN_some {env : Nv} {i : Nat} {x : Sl} : ∀ {vs : List Nat}, (wipeN env vs)[i]? = some (some x) → env[i]? = some (some x) ∧ i ∉ vs
  | [], h => ⟨h, by simp⟩
  | v :: vs, h => by
    unfold wipeN at h
    by_cases hi : v = i
    · subst hi
      by_cases hv : v < (wipeN env vs).length
      · rw [List.getElem?_set_self hv] at h; cases h
      · rw [List.getElem?_eq_none (by simpa using hv)] at h; cases h
    · rw [List.getElem?_set_ne hi] at h
      obtain ⟨h1, h2⟩ := wipeN_some h
      exact ⟨h1, by simp only [List.mem_cons, not_or]; exact ⟨fun e => hi e.symm, h2⟩⟩
theorem wipe_get {σ : L2.St} {i : Nat} : ∀ {vs : List Nat}, i ∉ vs → (wipe σ vs)[i]? = σ[i]?
  | [], _ => rfl
  | v :: vs, h => by
    unfold wipe
    rw [List.getElem?_set_ne (by intro z; exact h (by simp [z]))]
    exact wipe_get (fun z => h (by simp [z]))
/-- behind the block: the block's own names as they were ahead of it, where shared -/
def backAt (env env' : Nv) (i : Nat) : Nv := match env[i]? with
  | some (some (.sh d)) => env'.set i (some (.sh d))
  | _ => env'.set i none
def backN (env env' : Nv) : List Nat → Nv
  | [] => env'
  | v :: vs => backAt env (backN env env' vs) v
theorem backAt_len (env env' : Nv) (i : Nat) : (backAt env env' i).length = env'.length := by
  unfold backAt; split <;> simp
theorem backN_len (env env' : Nv) : ∀ vs : List Nat, (backN env env' vs).length = env'.length
  | [] => rfl
  | v :: vs => by unfold backN; rw [backAt_len, backN_len env env' vs]
theorem Rel.wipe {M : Str → Option Value} {G F H : Hp} {pc : Pc} {env : Nv} {σ : L2.St} (r : Rel M G F pc env σ H) (vs : List Nat) : Rel M G F pc (wipeN env vs) (L2.wipe σ vs) H :=
  r.weak (wipeN_len _ _) (wipe_length _ _) fun i c e => by
    obtain ⟨h1, h2⟩ := wipeN_some e
    exact ⟨h1, wipe_get h2⟩
theorem backN_get {env env' : Nv} {i : Nat} {c : Sl} : ∀ {vs : List Nat}, (backN env env' vs)[i]? = some (some c) → (i ∉ vs ∧ env'[i]? = some (some c)) ∨ ∃ d, c = .sh d ∧ env[i]? = some (some (.sh d))
  | [], h => .inl ⟨by simp, h⟩
  | v :: vs, h => by
    unfold backN backAt at h
    by_cases hi : v = i
    · subst hi
      split at h
      · rename_i d e
        by_cases hv : v < (backN env env' vs).length
        · rw [List.getElem?_set_self hv] at h; cases h; exact .inr ⟨d, rfl, e⟩
        · rw [List.getElem?_eq_none (by simpa using hv)] at h; cases h
      · by_cases hv : v < (backN env env' vs).length
        · rw [List.getElem?_set_self hv] at h; cases h
        · rw [List.getElem?_eq_none (by simpa using hv)] at h; cases h
    · have h' : (backN env env' vs)[i]? = some (some c) := by
        split at h
        · rw [List.getElem?_set_ne hi] at h; exact h
        · rw [List.getElem?_set_ne hi] at h; exact h
      rcases backN_get h' with ⟨a, b⟩ | q
      · exact .inl ⟨by simp only [List.mem_cons, not_or]; exact ⟨fun e => hi e.symm, a⟩, b⟩
      · exact .inr q
theorem Rel.back {M : Str → Option Value} {G F F' H H' : Hp} {pc pc' : Pc} {env env' : Nv} {σ : L2.St} {vs : List Nat} (r0 : Rel M G F pc env σ H) (s : Same F F') (r : Rel M G F' pc' env' (L2.wipe σ vs) H') : Rel M G F' pc' (backN env env' vs) σ H' := by
  refine ⟨r.base, by rw [backN_len, r.len, wipe_length], fun i c e => ?_, fun i j a d1 d2 hij e1 e2 => ?_⟩
  · rcases backN_get e with ⟨h1, h2⟩ | ⟨d, h1, h2⟩
    · obtain ⟨v, h3, h4⟩ := r.cell i c h2
      exact ⟨v, by rw [← wipe_get h1]; exact h3, h4⟩
    · subst h1
      obtain ⟨v, h3, h4⟩ := r0.cell i _ h2
      exact ⟨v, h3, Rp.mono s _ _ h4⟩
  · rcases backN_get e1 with ⟨h1, h2⟩ | ⟨d, h1, h2⟩
    · rcases backN_get e2 with ⟨h3, h4⟩ | ⟨d, h3, h4⟩
      · have := r.dis i j a d1 d2 hij h2 h4
        rw [wipe_get h1, wipe_get h3] at this
        exact this
      · cases h3
    · cases h1
def compL (g : WG) (wt : WT) (we : WE) (own : List Nat) (P : List PyData → Nv → Prop) : List PyData → List PyData → Nv → Prop
  | [], acc, env => P acc env
  | d :: ds, acc, env => g d env fun e1 => wt e1 fun b e2 => if b = true then we e2 fun z e3 => acc.length < sizeLine ∧ compL g wt we own P ds (acc ++ [z]) (wipeN e3 own) else compL g wt we own P ds acc (wipeN e2 own)
def wComp (wi : WI) (g : WG) (wt : WT) (we : WE) (own : List Nat) : WE := fun env P => wi env fun ds e1 => compL g wt we own (fun acc e2 => P (.list acc) (backN e1 e2 own)) ds [] (wipeN e1 own)
theorem compL_mono {g : WG} {wt : WT} {we : WE} {own : List Nat} (mg : MoG g) (mt : MoT wt) (me : MoE we) {P P' : List PyData → Nv → Prop} (k : ∀ a e, P a e → P' a e) : ∀ (ds acc : List PyData) (env : Nv), compL g wt we own P ds acc env → compL g wt we own P' ds acc env
  | [], acc, env, q => k _ _ q
  | d :: ds, acc, env, q => mg _ _ _ _ (fun e1 q => mt _ _ _ (fun b e2 q => by
      cases b with
      | true => exact iteT (me _ _ _ (fun z e3 ⟨hz, q⟩ => ⟨hz, compL_mono mg mt me k ds _ _ q⟩) q)
      | false => exact iteF (compL_mono mg mt me k ds _ _ q)) q) q
/-- tests of a clause -/
structure TsD (X : Cx) (ifs : List Expr) (w : WT) : Prop where
  mo : MoT w
  pts : PTs X ifs (tT X.mg w)
def wYes : WT := fun env P => P true env
theorem tsd_nil : TsD X [] wYes := ⟨fun env P P' k q => k _ _ q, ⟨fun pins s σ H Q I ⟨G, F, pc, env, r, q⟩ => pts_nil.run pins s σ H Q I (q F pc H (Same.refl _) .refl r)⟩⟩
theorem tsd_one {w : WT} (h : TD X c w) : TsD X [c] w := ⟨h.mo, pts_one h.pt⟩
theorem upd_absorb {G : Hp} {D : Addr} {o : HO} {b : Addr} {x : HO} (hg : ∀ b x, G b = some x → b ≠ D) (e : G b = some x) : (upd G D o) b = some x := by
  rw [upd_ne (hg b x e)]; exact e
/-- the new list at D stands among what stays -/
theorem Rel.pin {M : Str → Option Value} {G F H : Hp} {pc : Pc} {env : Nv} {σ : L2.St} {D : Addr} {o : HO} (r : Rel M G F pc env σ H) (h : H D = none) : Rel M (upd G D o) F pc env σ (upd H D o) := by
  have r1 := r.lay (o := o) h
  obtain ⟨hf, hg, hp⟩ := r.base.free h
  refine ⟨⟨fun b x e => ?_, r1.base.f, fun b x e => ?_, fun p c e => ?_⟩, r1.len, fun i c e => ?_, r1.dis⟩
  · by_cases hb : b = D
    · subst hb; rw [upd_same] at e ⊢; exact e
    · rw [upd_ne hb] at e; exact r1.base.g _ _ e
  · have hb : b ≠ D := fun z => by subst z; rw [hf] at e; cases e
    rw [upd_ne hb]; exact r1.base.fg _ _ e
  · obtain ⟨s, g1, g2, f1, f2⟩ := r1.base.src p c e
    obtain ⟨n1, n2⟩ := hp p c e
    exact ⟨s, by rw [upd_ne n1.symm]; exact g1, by rw [upd_ne n2.symm]; exact g2, f1, f2⟩
  · obtain ⟨v, h1, h2⟩ := r1.cell i c e
    refine ⟨v, h1, ?_⟩
    cases c with
    | sh d => exact h2
    | ow d =>
      obtain ⟨a, e1, w⟩ := h2
      obtain ⟨v', h1', a', e1', w'⟩ := r.cell i _ e
      rw [h1] at h1'; cases h1'; cases e1; cases e1'
      obtain ⟨o', ho⟩ := w'.cnt.ex
      exact ⟨a, rfl, w.f, by rw [upd_ne (ne_of_none ho h)]; exact w.g, w.s, w.cnt⟩
    | src => exact h2
    | fn x => exact h2
/-- the pinned list is changed, or let go -/
theorem Rel.pinSet {M : Str → Option Value} {G F H : Hp} {pc : Pc} {env : Nv} {σ : L2.St} {D : Addr} {o o' : HO} (r : Rel M (upd G D o) F pc env σ H) (hD : ∀ b x, G b = some x → b ≠ D) : Rel M (upd G D o') F pc env σ (upd H D o') := by
  have hg : (upd G D o) D = some o := upd_same
  have hn : ∀ b, F b ≠ none → b ≠ D := fun b h z => by
    subst z
    cases q : F b with
    | none => exact h q
    | some x => have := r.base.fg _ _ q; rw [hg] at this; cases this
  refine ⟨⟨fun b x e => ?_, fun b x e => ?_, fun b x e => ?_, fun p c e => ?_⟩, r.len, fun i c e => ?_, r.dis⟩
  · by_cases hb : b = D
    · subst hb; rw [upd_same] at e ⊢; exact e
    · rw [upd_ne hb] at e ⊢; exact r.base.g _ _ (by rw [upd_ne hb]; exact e)
  · have hb := hn b (by rw [e]; exact fun z => nomatch z)
    rw [upd_ne hb]; exact r.base.f _ _ e
  · have hb := hn b (by rw [e]; exact fun z => nomatch z)
    have := r.base.fg _ _ e
    rw [upd_ne hb] at this ⊢; exact this
  · obtain ⟨s, g1, g2, f1, f2⟩ := r.base.src p c e
    have n1 : p ≠ D := fun z => by subst z; rw [hg] at g1; cases g1
    have n2 : c ≠ D := fun z => by subst z; rw [hg] at g2; cases g2
    rw [upd_ne n1] at g1 ⊢
    rw [upd_ne n2] at g2 ⊢
    exact ⟨s.grow (fun o h => by rw [upd_ne n1]; exact h) (fun o h => by rw [upd_ne n2]; exact h), g1, g2, f1, f2⟩
  · obtain ⟨v, h1, h2⟩ := r.cell i c e
    refine ⟨v, h1, ?_⟩
    cases c with
    | sh d => exact h2
    | ow d =>
      obtain ⟨a, e1, w⟩ := h2
      have na : a ≠ D := fun z => by subst z; have := w.g; rw [hg] at this; cases this
      exact ⟨a, e1, w.f, by have := w.g; rw [upd_ne na] at this ⊢; exact this, w.s, w.cnt.grow (Same.refl _) fun o h => by rw [upd_ne na]; exact h⟩
    | src => exact h2
    | fn x => exact h2
theorem Rel.unpin {M : Str → Option Value} {G F H : Hp} {pc : Pc} {env : Nv} {σ : L2.St} {D : Addr} {vs : List V} {ds : List PyData} (r : Rel M (upd G D (.lst vs)) F pc env σ H) (hD : G D = none) (h : RpL F ds vs) :
    Rel M G F pc env σ H ∧ Frs G F pc env σ H D (.list ds) := by
  have hg : (upd G D (.lst vs)) D = some (.lst vs) := upd_same
  have hf : F D = none := by
    cases q : F D with
    | none => rfl
    | some x => have := r.base.fg _ _ q; rw [hg] at this; cases this
  have sub : ∀ b x, G b = some x → (upd G D (.lst vs)) b = some x := fun b x e => by
    rw [upd_ne (fun z => by subst z; rw [hD] at e; cases e)]; exact e
  have sn : ∀ b, (upd G D (.lst vs)) b = none → G b = none := fun b e => by
    cases q : G b with
    | none => rfl
    | some x => rw [sub b x q] at e; cases e
  refine ⟨⟨⟨fun b x e => r.base.g _ _ (sub b x e), r.base.f, fun b x e => sn _ (r.base.fg _ _ e), fun p c e => ?_⟩, r.len, fun i c e => ?_, r.dis⟩, ⟨hf, hD, fun p c e => ?_, ⟨vs, r.base.g _ _ hg, h⟩⟩, fun i e he hs => ?_⟩
  · obtain ⟨s, g1, g2, f1, f2⟩ := r.base.src p c e
    exact ⟨s, sn _ g1, sn _ g2, f1, f2⟩
  · obtain ⟨v, h1, h2⟩ := r.cell i c e
    refine ⟨v, h1, ?_⟩
    cases c with
    | sh d => exact h2
    | ow d => obtain ⟨a, e1, w⟩ := h2; exact ⟨a, e1, w.f, sn _ w.g, w.s, w.cnt⟩
    | src => exact h2
    | fn x => exact h2
  · obtain ⟨s, g1, g2, f1, f2⟩ := r.base.src p c e
    refine ⟨fun z => ?_, fun z => ?_⟩
    · subst z; rw [hg] at g1; cases g1
    · subst z; rw [hg] at g2; cases g2
  · obtain ⟨v, h1, a, h2, w⟩ := r.cell i _ he
    rw [hs] at h1; cases h1; cases h2
    have := w.g; rw [hg] at this; cases this
theorem wipe_at {σ : L2.St} {i : Nat} : ∀ {vs : List Nat}, i ∈ vs → i < σ.length → (L2.wipe σ vs)[i]? = some none
  | [], h, _ => by simp at h
  | v :: vs, h, hl => by
    unfold L2.wipe
    by_cases hv : v = i
    · subst hv
      exact List.getElem?_set_self (by rw [wipe_length]; exact hl)
    · rw [List.getElem?_set_ne hv]
      exact wipe_at (by simpa [Ne.symm hv] using h) hl
theorem wipe_ext {σ σ' : L2.St} {vs : List Nat} (hl : σ'.length = σ.length) (h : ∀ i, i ∉ vs → σ'[i]? = σ[i]?) : L2.wipe σ' vs = L2.wipe σ vs := by
  refine List.ext_getElem? fun i => ?_
  by_cases hi : i ∈ vs
  · by_cases hlt : i < σ.length
    · rw [wipe_at hi hlt, wipe_at hi (by omega)]
    · rw [List.getElem?_eq_none (by rw [wipe_length]; omega), List.getElem?_eq_none (by rw [wipe_length]; omega)]
  · rw [wipe_get hi, wipe_get hi, h i hi]
section
variable {elt iter : Expr} {ifs : List Expr} {scope : Scope} {own : List (Str × Nat)} {wi : WI} {t : TG} {g : WG} {ns : List Nat} {wt : WT} {we : WE}
theorem lc_core {os : List Nat} (moG : MoG g) (moT : MoT wt) (moE : MoE we)
    (okG : ∀ (G F : Hp) (pc : Pc) (env : Nv) (σ : L2.St) (H : Hp) (v : V) (d : PyData) (P : Nv → Prop) (Q : L2.St → Hp → Prop), Rel X.mg G F pc env σ H → Rp F d v → g d env P → (∀ env' σ', P env' → Rel X.mg G F pc env' σ' H → Off ns σ σ' → Q σ' H) → t v σ H Q)
    (hns : ∀ i ∈ ns, i ∈ os) {σ : L2.St} {Q : VK} {G F1 : Hp} {pc1 : Pc} {e1 : Nv} {H1 : Hp} {ds : List PyData} {J : It} (r1 : Rel X.mg G F1 pc1 e1 σ H1) (it : IterOk J G F1 ds)
    (q1 : compL g wt we os (fun acc e2 => ∀ a F' pc' H', Same F1 F' → PcLe pc1 pc' → Rel X.mg G F' pc' (backN e1 e2 os) σ H' → Frs G F' pc' (backN e1 e2 os) σ H' a (.list acc) → Q (.ref a) H') ds [] (wipeN e1 os)) : tLc (fun σ H R => R J H) t (tT X.mg wt) (tW X.mg we) os σ H1 Q := by
  intro D hD
  obtain ⟨hf, hgD, hp⟩ := r1.base.free hD
  have hDn : ∀ b x, G b = some x → b ≠ D := fun b x e z => by subst z; rw [hgD] at e; cases e
  -- what holds ahead of turn i
  let Inn : Nat → Hp → Prop := fun i H' => ∃ F2 pc2 e2 acc vs, Same F1 F2 ∧ PcLe pc1 pc2 ∧ Rel X.mg (upd G D (.lst vs)) F2 pc2 e2 (L2.wipe σ os) H' ∧ RpL F2 acc vs ∧
      compL g wt we os (fun acc e2 => ∀ a F' pc' H', Same F1 F' → PcLe pc1 pc' → Rel X.mg G F' pc' (backN e1 e2 os) σ H' → Frs G F' pc' (backN e1 e2 os) σ H' a (.list acc) → Q (.ref a) H') (ds.drop i) acc e2
  refine ⟨fun i m H => m = ds.length - i ∧ i ≤ ds.length ∧ Inn i H, ⟨ds.length, by simp, Nat.zero_le _, F1, pc1, wipeN e1 os, [], [], Same.refl _, .refl, (r1.pin hD).wipe _, RpL.nil, q1⟩, ?_⟩
  rintro i m H2 ⟨rfl, hi, F2, pc2, e2, acc, vs, s2, p2, r2, rp2, q2⟩
  have sG : Same G H2 := fun b x e => r2.base.g b x (upd_absorb hDn e)
  by_cases hlt : i < ds.length
  · have hdi : ds[i]? = some ds[i] := List.getElem?_eq_getElem hlt
    rw [List.drop_eq_getElem_cons hlt] at q2
    have it2 := it.mono s2
    refine .inr ⟨it2.go i H2 sG r2.base.f hlt, Inn (i + 1), fun H' hN => ⟨ds.length - (i + 1), by omega, rfl, hlt, hN⟩, fun x H3 y => ?_⟩
    have got : ∃ F3, Same F2 F3 ∧ Rel X.mg (upd G D (.lst vs)) F3 pc2 e2 (L2.wipe σ os) H3 ∧ Rp F3 ds[i] x := by
      rcases it2.yld i H2 x H3 _ sG r2.base.f hdi y with ⟨e3, rx⟩ | ⟨T, xs, es, hT, e3, ed, ex, rx⟩
      · subst e3; exact ⟨F2, Same.refl _, r2, rx⟩
      · subst e3 ex
        obtain ⟨r3, s3, rp⟩ := r2.newTup hT rx
        exact ⟨_, s3, r3, ed ▸ rp⟩
    obtain ⟨F3, s3, r3, rx⟩ := got
    refine okG (upd G D (.lst vs)) F3 pc2 e2 _ H3 x _ _ _ r3 rx q2 fun e4 σ4 q4 r4 o4 => ?_
    have hw : L2.wipe σ4 os = L2.wipe σ os := by
      rw [wipe_ext (σ := L2.wipe σ os) (σ' := σ4) o4.1 fun j hj => o4.2 j fun z => hj (hns j z)]
      exact wipe_ext (wipe_length _ _) fun j hj => wipe_get hj
    refine ⟨by rw [hw], ?_⟩
    refine ⟨_, F3, pc2, e4, r4, moT _ _ _ (fun b e5 q5 F5 pc5 H5 s5 p5 r5 => ?_) q4⟩
    cases b with
    | false =>
      refine iteF ⟨F5, pc5, wipeN e5 os, acc, vs, (s2.trans s3).trans s5, p2.trans p5, ?_, RpL.mono (s3.trans s5) _ _ rp2, q5⟩
      have := r5.wipe os
      rw [hw] at this; exact this
    | true =>
      refine iteT ⟨_, F5, pc5, e5, r5, moE _ _ _ (fun z e6 q6 v6 F6 pc6 H6 s6 p6 r6 rp6 => ?_) q5⟩
      obtain ⟨hz, q6⟩ := q6
      have rp7 := RpL.mono ((s3.trans s5).trans s6) _ _ rp2
      refine ⟨vs, r6.base.g _ _ upd_same, by rw [rp7.len]; exact hz, F6, pc6, wipeN e6 os, acc ++ [z], vs ++ [v6], ((s2.trans s3).trans s5).trans s6, (p2.trans p5).trans p6, ?_, rp7.app (RpL.cons rp6 RpL.nil), q6⟩
      have := (r6.pinSet (o' := .lst (vs ++ [v6])) hDn).wipe os
      rw [hw] at this; exact this
  · have ei : i = ds.length := by omega
    subst ei
    rw [List.drop_length] at q2
    obtain ⟨r3, f3⟩ := r2.unpin hgD rp2
    have rb := Rel.back r1 s2 r3
    refine .inl ⟨it.stop _ H2 sG (s2.trans r2.base.f) (Nat.le_refl _), q2 D F2 pc2 H2 s2 p2 rb ⟨f3.own, fun j e he hsj => ?_⟩⟩
    rcases backN_get he with ⟨h1, h2⟩ | ⟨d, h1, h2⟩
    · exact f3.dis j e h2 (by rw [wipe_get h1]; exact hsj)
    · cases h1
theorem lc_conv {os : List Nat} (moI : MoA wi) (moG : MoG g) (moT : MoT wt) (moE : MoE we)
    (okG : ∀ (G F : Hp) (pc : Pc) (env : Nv) (σ : L2.St) (H : Hp) (v : V) (d : PyData) (P : Nv → Prop) (Q : L2.St → Hp → Prop), Rel X.mg G F pc env σ H → Rp F d v → g d env P → (∀ env' σ', P env' → Rel X.mg G F pc env' σ' H → Off ns σ σ' → Q σ' H) → t v σ H Q)
    (hns : ∀ i ∈ ns, i ∈ os) (σ : L2.St) (H : Hp) (Q : VK) (h : tO X.mg (wComp wi g wt we os) σ H Q) : tLc (tI X.mg wi) t (tT X.mg wt) (tW X.mg we) os σ H Q := by
  obtain ⟨G, F, pc, env, r, q⟩ := h
  refine ⟨G, F, pc, env, r, moI _ _ _ (fun ds e1 q1 J F1 pc1 H1 s1 p1 r1 it => ?_) q⟩
  refine lc_core moG moT moE okG hns r1 it (compL_mono moG moT moE (fun acc e2 q a F' pc' H' s p r' f => q a F' pc' H' (s1.trans s) (p1.trans p) r' f) _ _ _ q1)
theorem od_comp (hc : X.calm = true) (hN : X.N.Nodup) (hi : ID X tg iter wi) (ok : BlkOk X.N X.env.scope scope own)
    (hg : ∀ (s : Shared) (H : Hp) (C : Addr) (cl : List (Str × Addr)) (fp : List Addr), GD (X.blk s H scope (compEnvC scope cl C X.env) fp) tg t g ns)
    (ht : ∀ (s : Shared) (H : Hp) (C : Addr) (cl : List (Str × Addr)) (fp : List Addr), TsD (X.blk s H scope (compEnvC scope cl C X.env) fp) ifs wt)
    (he : ∀ (s : Shared) (H : Hp) (C : Addr) (cl : List (Str × Addr)) (fp : List Addr), ED (X.blk s H scope (compEnvC scope cl C X.env) fp) elt we)
    (hns : ∀ i ∈ ns, i ∈ own.map (·.2) := by decide)
    (hs : ∀ x, foldedSetIterable iter X.env x = pure x := by intro _; rfl) :
    OD X (.ListComp elt [⟨tg, iter, ifs, 0⟩] scope pos) (wComp wi g wt we (own.map (·.2))) := by
  have moG := (hg {} (fun _ => none) 0 [] []).mo
  have moT := (ht {} (fun _ => none) 0 [] []).mo
  have moE := (he {} (fun _ => none) 0 [] []).mo
  have okG := (hg {} (fun _ => none) 0 [] []).ok
  exact ⟨fun env P P' k q => hi.mo _ _ _ (fun ds e1 q => compL_mono moG moT moE (fun a e q => k _ _ q) _ _ _ q) q, pe_conv (pe_lc (wi := tI X.mg wi) (g := t) (tt := tT X.mg wt) (te := tW X.mg we) hc hN hi.pi ok (fun s H C cl fp => (hg s H C cl fp).pg) (fun s H C cl fp => (ht s H C cl fp).pts) (fun s H C cl fp => (he s H C cl fp).pe) hs)
    (lc_conv hi.mo moG moT moE okG hns)⟩
theorem ed_comp (hc : X.calm = true) (hN : X.N.Nodup) (hi : ID X tg iter wi) (ok : BlkOk X.N X.env.scope scope own)
    (hg : ∀ (s : Shared) (H : Hp) (C : Addr) (cl : List (Str × Addr)) (fp : List Addr), GD (X.blk s H scope (compEnvC scope cl C X.env) fp) tg t g ns)
    (ht : ∀ (s : Shared) (H : Hp) (C : Addr) (cl : List (Str × Addr)) (fp : List Addr), TsD (X.blk s H scope (compEnvC scope cl C X.env) fp) ifs wt)
    (he : ∀ (s : Shared) (H : Hp) (C : Addr) (cl : List (Str × Addr)) (fp : List Addr), ED (X.blk s H scope (compEnvC scope cl C X.env) fp) elt we)
    (hns : ∀ i ∈ ns, i ∈ own.map (·.2) := by decide)
    (hs : ∀ x, foldedSetIterable iter X.env x = pure x := by intro _; rfl) :
    ED X (.ListComp elt [⟨tg, iter, ifs, 0⟩] scope pos) (wComp wi g wt we (own.map (·.2))) := (od_comp hc hN hi ok hg ht he hns hs).ed
end
end
end DL
set_option Elab.async false
set_option linter.all false
set_option maxRecDepth 100000
set_option maxHeartbeats 1000000
set_option autoImplicit false
/-! DLe: statements, loops. -/
namespace DL
open PySem PySem.Spec PyProof.Rows L2

structure DE where
  nx : Nv → Prop
  rt : PyData → Prop
abbrev WS := DE → Nv → Prop
structure DE.Le (D D' : DE) : Prop where
  nx : ∀ e, D.nx e → D'.nx e
  rt : ∀ d, D.rt d → D'.rt d
def MoS (w : WS) : Prop := ∀ D D' env, DE.Le D D' → w D env → w D' env
def dEnd (M : Str → Option Value) (G F : Hp) (pc : Pc) (D : Ends) : DE :=
  ⟨fun env' => ∀ σ' F' pc' H', Same F F' → PcLe pc pc' → Rel M G F' pc' env' σ' H' → D.nx σ' H', fun d => ∀ v F' pc' H', Same F F' → PcLe pc pc' → RelC G F' pc' H' → Rp F' d v → D.rt v H'⟩
def tS (M : Str → Option Value) (w : WS) : TS := fun D σ H => ∃ G F pc env, Rel M G F pc env σ H ∧ w (dEnd M G F pc D) env
structure SD1 (X : Cx) (st : Stmt) (w : WS) : Prop where
  mo : MoS w
  ps : PS X st (tS X.mg w)
structure BD (X : Cx) (st : List Stmt) (w : WS) : Prop where
  mo : MoS w
  pss : PSs X st (tS X.mg w)
theorem ps_conv {X : Cx} {st : Stmt} {t t' : TS} (h : PS X st t) (k : ∀ D σ H, t' D σ H → t D σ H) : PS X st t' := ⟨fun pins s σ H D I q => h.run pins s σ H D I (k D σ H q)⟩
theorem pss_conv {X : Cx} {st : List Stmt} {t t' : TS} (h : PSs X st t) (k : ∀ D σ H, t' D σ H → t D σ H) : PSs X st t' := ⟨fun pins s σ H D I q => h.run pins s σ H D I (k D σ H q)⟩
theorem dEnd_le {M : Str → Option Value} {G F F' : Hp} {pc pc' : Pc} {D : Ends} (s : Same F F') (p : PcLe pc pc') : DE.Le (dEnd M G F pc D) (dEnd M G F' pc' D) :=
  ⟨fun e q σ' F2 pc2 H' s2 p2 r => q σ' F2 pc2 H' (s.trans s2) (p.trans p2) r, fun d q v F2 pc2 H' s2 p2 r rp => q v F2 pc2 H' (s.trans s2) (p.trans p2) r rp⟩
section
variable {X : Cx} {st : Stmt} {rest : List Stmt} {e a b c tg iter : Expr} {w w1 w2 : WE} {pos : Pos} {u u1 u2 : WS}
def wSeqS (u1 u2 : WS) : WS := fun D env => u1 ⟨fun e => u2 D e, D.rt⟩ env
theorem bd_cons (h1 : SD1 X st u1) (h2 : BD X rest u2) : BD X (st :: rest) (wSeqS u1 u2) := by
  refine ⟨fun D D' env k q => h1.mo ⟨fun e => u2 D e, D.rt⟩ ⟨fun e => u2 D' e, D'.rt⟩ env ⟨fun e q => h2.mo _ _ _ k q, k.rt⟩ q, pss_conv (pss_cons h1.ps h2.pss) fun D σ H ⟨G, F, pc, env, r, q⟩ => ⟨G, F, pc, env, r, ?_⟩⟩
  exact h1.mo ⟨fun e => u2 (dEnd X.mg G F pc D) e, (dEnd X.mg G F pc D).rt⟩ (dEnd X.mg G F pc { D with nx := tS X.mg u2 D }) env ⟨fun e q σ' F' pc' H' s p r' => ⟨G, F', pc', e, r', h2.mo _ _ _ (dEnd_le s p) q⟩, fun d q => q⟩ q
theorem bd_one (h1 : SD1 X st u) : BD X [st] u := ⟨h1.mo, pss_one h1.ps⟩
def wNilS : WS := fun D env => D.nx env
theorem bd_nil : BD X [] wNilS := ⟨fun D D' env k q => k.nx _ q, pss_conv pss_nil fun D σ H ⟨G, F, pc, env, r, q⟩ => q σ F pc H (Same.refl _) .refl r⟩
theorem sd_pass : SD1 X (.Pass pos) wNilS := ⟨fun D D' env k q => k.nx _ q, ps_conv ps_pass fun D σ H ⟨G, F, pc, env, r, q⟩ => q σ F pc H (Same.refl _) .refl r⟩
def wRet (w : WE) : WS := fun D env => w env fun d _ => D.rt d
theorem sd_ret (h : ED X e w) : SD1 X (.Return (some e) pos) (wRet w) := ⟨fun D D' env k q => h.mo _ _ _ (fun d _ q => k.rt _ q) q, ps_conv (ps_ret h.pe) fun D σ H ⟨G, F, pc, env, r, q⟩ => ⟨G, F, pc, env, r, h.mo _ _ _ (fun d e q v F' pc' H' s p r' rp => q v F' pc' H' s p r'.base rp) q⟩⟩
def wExpr (w : WE) : WS := fun D env => w env fun _ e => D.nx e
theorem sd_expr (h : ED X e w) (hs : swapsWith e none pos.line X.env = pure false := by rfl) : SD1 X (.Expr e pos) (wExpr w) := ⟨fun D D' env k q => h.mo _ _ _ (fun d _ q => k.nx _ q) q, ps_conv (ps_expr h.pe hs) fun D σ H ⟨G, F, pc, env, r, q⟩ => ⟨G, F, pc, env, r, h.mo _ _ _ (fun d e q v F' pc' H' s p r' rp => q σ F' pc' H' s p r') q⟩⟩
def wIfS (w : WT) (u1 u2 : WS) : WS := fun D env => w env fun b e => if b = true then u1 D e else u2 D e
theorem sd_if {w : WT} {p q : List Stmt} (h : TD X c w) (h1 : BD X p u1) (h2 : BD X q u2) : SD1 X (.If c p q pos) (wIfS w u1 u2) := by
  refine ⟨fun D D' env k q => h.mo _ _ _ (fun b e q => ?_) q, ps_conv (ps_if h.pt h1.pss h2.pss) fun D σ H ⟨G, F, pc, env, r, q⟩ => ⟨G, F, pc, env, r, h.mo _ _ _ (fun b e q F' pc' H' s p r' => ?_) q⟩⟩
  · cases b with
    | true => exact iteT (h1.mo _ _ _ k q)
    | false => exact iteF (h2.mo _ _ _ k q)
  · cases b with
    | true => exact iteT ⟨G, F', pc', e, r', h1.mo _ _ _ (dEnd_le s p) q⟩
    | false => exact iteF ⟨G, F', pc', e, r', h2.mo _ _ _ (dEnd_le s p) q⟩
/-- a statement that is never reached -/
def wNev : WS := fun _ _ => False
theorem sd_never : SD1 X st wNev := ⟨fun D D' env k q => q, ps_conv ps_never fun D σ H ⟨G, F, pc, env, r, q⟩ => q⟩

/-! name = e -/
def wSet (i : Nat) (w : WE) : WS := fun D env => w env fun d e => D.nx (e.set i (some (.sh d)))
def wSetO (i : Nat) (w : WE) : WS := fun D env => w env fun d e => D.nx (e.set i (some (.ow d)))
theorem sd_set (i : Nat) {x : Str} {pos' : Pos} (hN : X.N.Nodup) (hi : X.N[i]? = some x) (hx : Loc X.env.scope x) (h : ED X e w) (hs : swapsWith e (some (.Name x pos')) pos.line X.env = pure false := by rfl)
    (hf : X.fn x = true ∨ X.env.scope.names.lookup x = some .local := by first | exact .inl rfl | exact .inr rfl | assumption) : SD1 X (.Assign [.Name x pos'] e pos) (wSet i w) :=
  ⟨fun D D' env k q => h.mo _ _ _ (fun d e q => k.nx _ q) q, ps_conv (ps_set hN hi hx h.pe hs hf) fun D σ H ⟨G, F, pc, env, r, q⟩ => ⟨G, F, pc, env, r, h.mo _ _ _ (fun d e q v F' pc' H' s p r' rp => q _ F' pc' H' s p (r'.setSh rp)) q⟩⟩
theorem sd_setO (i : Nat) {x : Str} {pos' : Pos} (hN : X.N.Nodup) (hi : X.N[i]? = some x) (hx : Loc X.env.scope x) (h : OD X e w) (hs : swapsWith e (some (.Name x pos')) pos.line X.env = pure false := by rfl)
    (hf : X.fn x = true ∨ X.env.scope.names.lookup x = some .local := by first | exact .inl rfl | exact .inr rfl | assumption) : SD1 X (.Assign [.Name x pos'] e pos) (wSetO i w) :=
  ⟨fun D D' env k q => h.mo _ _ _ (fun d e q => k.nx _ q) q, ps_conv (ps_set hN hi hx h.pe hs hf) fun D σ H ⟨G, F, pc, env, r, q⟩ => ⟨G, F, pc, env, r, h.mo _ _ _ (fun d e q a F' pc' H' s p r' f => q _ F' pc' H' s p (r'.setOw f)) q⟩⟩
section
variable {elt : Expr} {ifs : List Expr} {scope : Scope} {own : List (Str × Nat)} {wi : WI} {t : TG} {g : WG} {ns : List Nat} {wt : WT} {we : WE}
/-- name = [..] on one line, a local name -/
theorem sd_setLcO (i : Nat) {y : Str} {py spos : Pos} (hc : X.calm = true) (hN : X.N.Nodup) (hy : X.N[i]? = some y) (hyl : X.env.scope.names.lookup y = some .local) (hsw : swapsWith (.ListComp elt [⟨tg, iter, ifs, 0⟩] scope pos) (some (.Name y py)) spos.line X.env = pure true)
    (hi : ID X tg iter wi) (ok : BlkOk X.N X.env.scope scope own)
    (hg : ∀ (s : Shared) (H : Hp) (C : Addr) (cl : List (Str × Addr)) (fp : List Addr), GD (X.blk s H scope (compEnvC scope cl C X.env) fp) tg t g ns)
    (ht : ∀ (s : Shared) (H : Hp) (C : Addr) (cl : List (Str × Addr)) (fp : List Addr), TsD (X.blk s H scope (compEnvC scope cl C X.env) fp) ifs wt)
    (he : ∀ (s : Shared) (H : Hp) (C : Addr) (cl : List (Str × Addr)) (fp : List Addr), ED (X.blk s H scope (compEnvC scope cl C X.env) fp) elt we)
    (hns : ∀ i ∈ ns, i ∈ own.map (·.2) := by decide) (hs : ∀ x, foldedSetIterable iter X.env x = pure x := by intro _; rfl) :
    SD1 X (.Assign [.Name y py] (.ListComp elt [⟨tg, iter, ifs, 0⟩] scope pos) spos) (wSetO i (wComp wi g wt we (own.map (·.2)))) := by
  have od := od_comp (pos := pos) hc hN hi ok hg ht he hns hs
  have moG := (hg {} (fun _ => none) 0 [] []).mo
  have moT := (ht {} (fun _ => none) 0 [] []).mo
  have moE := (he {} (fun _ => none) 0 [] []).mo
  have okG := (hg {} (fun _ => none) 0 [] []).ok
  exact ⟨fun D D' env k q => od.mo _ _ _ (fun d e q => k.nx _ q) q, ps_conv (ps_setLc (wi := tI X.mg wi) (g := t) (tt := tT X.mg wt) (te := tW X.mg we) hc hN hy hyl hsw hi.pi ok (fun s H C cl fp => (hg s H C cl fp).pg) (fun s H C cl fp => (ht s H C cl fp).pts) (fun s H C cl fp => (he s H C cl fp).pe) hs) fun D σ H ⟨G, F, pc, env, r, q⟩ =>
    lc_conv hi.mo moG moT moE okG hns σ H _ ⟨G, F, pc, env, r, od.mo _ _ _ (fun d e q a F' pc' H' s p r' f => q _ F' pc' H' s p (r'.setOw f)) q⟩⟩
theorem sd_setLc (i : Nat) {y : Str} {py spos : Pos} (hc : X.calm = true) (hN : X.N.Nodup) (hy : X.N[i]? = some y) (hyl : X.env.scope.names.lookup y = some .local) (hsw : swapsWith (.ListComp elt [⟨tg, iter, ifs, 0⟩] scope pos) (some (.Name y py)) spos.line X.env = pure true)
    (hi : ID X tg iter wi) (ok : BlkOk X.N X.env.scope scope own)
    (hg : ∀ (s : Shared) (H : Hp) (C : Addr) (cl : List (Str × Addr)) (fp : List Addr), GD (X.blk s H scope (compEnvC scope cl C X.env) fp) tg t g ns)
    (ht : ∀ (s : Shared) (H : Hp) (C : Addr) (cl : List (Str × Addr)) (fp : List Addr), TsD (X.blk s H scope (compEnvC scope cl C X.env) fp) ifs wt)
    (he : ∀ (s : Shared) (H : Hp) (C : Addr) (cl : List (Str × Addr)) (fp : List Addr), ED (X.blk s H scope (compEnvC scope cl C X.env) fp) elt we)
    (hns : ∀ i ∈ ns, i ∈ own.map (·.2) := by decide) (hs : ∀ x, foldedSetIterable iter X.env x = pure x := by intro _; rfl) :
    SD1 X (.Assign [.Name y py] (.ListComp elt [⟨tg, iter, ifs, 0⟩] scope pos) spos) (wSet i (wComp wi g wt we (own.map (·.2)))) := by
  have od := od_comp (pos := pos) hc hN hi ok hg ht he hns hs
  have moG := (hg {} (fun _ => none) 0 [] []).mo
  have moT := (ht {} (fun _ => none) 0 [] []).mo
  have moE := (he {} (fun _ => none) 0 [] []).mo
  have okG := (hg {} (fun _ => none) 0 [] []).ok
  exact ⟨fun D D' env k q => od.mo _ _ _ (fun d e q => k.nx _ q) q, ps_conv (ps_setLc (wi := tI X.mg wi) (g := t) (tt := tT X.mg wt) (te := tW X.mg we) hc hN hy hyl hsw hi.pi ok (fun s H C cl fp => (hg s H C cl fp).pg) (fun s H C cl fp => (ht s H C cl fp).pts) (fun s H C cl fp => (he s H C cl fp).pe) hs) fun D σ H ⟨G, F, pc, env, r, q⟩ =>
    lc_conv hi.mo moG moT moE okG hns σ H _ ⟨G, F, pc, env, r, od.mo _ _ _ (fun d e q a F' pc' H' s p r' f => by
      obtain ⟨o, eo, r2, rp, s2⟩ := r'.freeze f
      exact q _ _ pc' H' (s.trans s2) p (r2.setSh rp)) q⟩⟩
end
/-- targets = e -/
def wAsg (w : WE) (g : WG) : WS := fun D env => w env fun d e => g d e fun e2 => D.nx e2
theorem sd_asg {t : TG} {g : WG} {ns : List Nat} (h : ED X e w) (hg : GD X tg t g ns) (hs : swapsWithSole [tg] e pos.line X.env = pure false := by rfl) (hw : swappedStores [tg] e X.env = pure none := by rfl)
    (h1 : (assignEach [tg] X.env).map (·.2) = [assign tg X.env] := by rfl) : SD1 X (.Assign [tg] e pos) (wAsg w g) :=
  ⟨fun D D' env k q => h.mo _ _ _ (fun d e q => hg.mo _ _ _ _ k.nx q) q, ps_conv (ps_asg h.pe hg.pg hs hw h1) fun D σ H ⟨G, F, pc, env, r, q⟩ => ⟨G, F, pc, env, r, h.mo _ _ _ (fun d e q v F' pc' H' s p r' rp =>
    hg.ok G F' pc' e σ H' v d _ _ r' rp q fun e2 σ2 q2 r2 _ => q2 σ2 F' pc' H' s p r2) q⟩⟩

/-! a, b = x, y: each of them shared or a new own one -/
/-- a value as it has come: shared, or own and fresh (its object stands in what stays, until it is stored) -/
inductive Md where
  | s | o
structure XD (X : Cx) (e : Expr) (m : Md) (w : WE) : Prop where
  mo : MoE w
  pe : PE X e (match m with | .s => tW X.mg w | .o => tO X.mg w)
theorem ED.x (h : ED X e w) : XD X e .s w := ⟨h.mo, h.pe⟩
theorem OD.x (h : OD X e w) : XD X e .o w := ⟨h.mo, h.pe⟩
def Md.sl (m : Md) (d : PyData) : Sl := match m with
  | .s => .sh d
  | .o => .ow d
/-- a fresh object set among what stays, and back -/
theorem Rel.hold {M : Str → Option Value} {G F H : Hp} {pc : Pc} {env : Nv} {σ : L2.St} {a : Addr} {d : PyData} (r : Rel M G F pc env σ H) (f : Frs G F pc env σ H a d) : ∃ o, H a = some o ∧ Rel M (upd G a o) F pc env σ H := by
  obtain ⟨o, ho⟩ := f.own.cnt.ex
  refine ⟨o, ho, ⟨fun b x e => ?_, r.base.f, fun b x e => ?_, fun p c e => ?_⟩, r.len, fun i c e => ?_, r.dis⟩
  · by_cases hb : b = a
    · subst hb; rw [upd_same] at e; cases e; exact ho
    · rw [upd_ne hb] at e; exact r.base.g _ _ e
  · have hb : b ≠ a := fun z => by subst z; rw [f.own.f] at e; cases e
    rw [upd_ne hb]; exact r.base.fg _ _ e
  · obtain ⟨s, g1, g2, f1, f2⟩ := r.base.src p c e
    obtain ⟨n1, n2⟩ := f.own.s p c e
    exact ⟨s, by rw [upd_ne n1.symm]; exact g1, by rw [upd_ne n2.symm]; exact g2, f1, f2⟩
  · obtain ⟨v, h1, h2⟩ := r.cell i c e
    refine ⟨v, h1, ?_⟩
    cases c with
    | sh d => exact h2
    | ow d =>
      obtain ⟨b, e1, w⟩ := h2
      have nb : b ≠ a := fun z => by subst z; subst e1; exact f.dis i d e h1
      exact ⟨b, e1, w.f, by rw [upd_ne nb]; exact w.g, w.s, w.cnt⟩
    | src => exact h2
    | fn x => exact h2
theorem Rel.unhold {M : Str → Option Value} {G F F0 H H0 : Hp} {pc : Pc} {env : Nv} {σ : L2.St} {a : Addr} {o : HO} {d : PyData} (r : Rel M (upd G a o) F pc env σ H) (hG : G a = none) (c : Cnt F0 H0 a d) (ho : H0 a = some o) (s : Same F0 F) :
    Rel M G F pc env σ H ∧ Frs G F pc env σ H a d := by
  have hg : (upd G a o) a = some o := upd_same
  have hf : F a = none := by
    cases q : F a with
    | none => rfl
    | some x => have := r.base.fg _ _ q; rw [hg] at this; cases this
  have sub : ∀ b x, G b = some x → (upd G a o) b = some x := fun b x e => by
    rw [upd_ne (fun z => by subst z; rw [hG] at e; cases e)]; exact e
  have sn : ∀ b, (upd G a o) b = none → G b = none := fun b e => by
    cases q : G b with
    | none => rfl
    | some x => rw [sub b x q] at e; cases e
  have hH : H a = some o := r.base.g _ _ hg
  have cn : Cnt F H a d := c.grow s fun o' e => by rw [ho] at e; cases e; exact hH
  refine ⟨⟨⟨fun b x e => r.base.g _ _ (sub b x e), r.base.f, fun b x e => sn _ (r.base.fg _ _ e), fun p c e => ?_⟩, r.len, fun i c e => ?_, r.dis⟩, ⟨hf, hG, fun p c e => ?_, cn⟩, fun i e he hs => ?_⟩
  · obtain ⟨s, g1, g2, f1, f2⟩ := r.base.src p c e
    exact ⟨s, sn _ g1, sn _ g2, f1, f2⟩
  · obtain ⟨v, h1, h2⟩ := r.cell i c e
    refine ⟨v, h1, ?_⟩
    cases c with
    | sh d => exact h2
    | ow d => obtain ⟨a, e1, w⟩ := h2; exact ⟨a, e1, w.f, sn _ w.g, w.s, w.cnt⟩
    | src => exact h2
    | fn x => exact h2
  · obtain ⟨s, g1, g2, f1, f2⟩ := r.base.src p c e
    refine ⟨fun z => ?_, fun z => ?_⟩
    · subst z; rw [hg] at g1; cases g1
    · subst z; rw [hg] at g2; cases g2
  · obtain ⟨v, h1, b, h2, w⟩ := r.cell i _ he
    rw [hs] at h1; cases h1; cases h2
    have := w.g; rw [hg] at this; cases this
/-- a value v of mode m for d -/
def Vm (M : Str → Option Value) (G F : Hp) (pc : Pc) (env : Nv) (σ : L2.St) (H : Hp) (m : Md) (d : PyData) (v : V) : Prop := match m with
  | .s => Rp F d v
  | .o => ∃ a, v = .ref a ∧ Frs G F pc env σ H a d
theorem Rel.setM {M : Str → Option Value} {G F H : Hp} {pc : Pc} {env : Nv} {σ : L2.St} {i : Nat} {m : Md} {d : PyData} {v : V} (r : Rel M G F pc env σ H) (h : Vm M G F pc env σ H m d v) : Rel M G F pc (env.set i (some (m.sl d))) (σ.set i (some v)) H := by
  cases m with
  | s => exact r.setSh h
  | o => obtain ⟨a, e, f⟩ := h; subst e; exact r.setOw f
theorem XD.run {m : Md} (h : XD X e m w) {σ : L2.St} {H : Hp} {Q : VK} {G F : Hp} {pc : Pc} {env : Nv} (r : Rel X.mg G F pc env σ H)
    (q : w env fun d env' => ∀ v F' pc' H', Same F F' → PcLe pc pc' → Rel X.mg G F' pc' env' σ H' → Vm X.mg G F' pc' env' σ H' m d v → Q v H') : (match m with | .s => tW X.mg w | .o => tO X.mg w) σ H Q := by
  cases m with
  | s => exact ⟨G, F, pc, env, r, q⟩
  | o => exact ⟨G, F, pc, env, r, h.mo _ _ _ (fun d env' q a F' pc' H' s p r' f => q _ F' pc' H' s p r' ⟨a, rfl, f⟩) q⟩
def wPar (i j : Nat) (m1 m2 : Md) (w1 w2 : WE) : WS := fun D env => w1 env fun d1 e1 => w2 e1 fun d2 e2 => D.nx ((e2.set i (some (m1.sl d1))).set j (some (m2.sl d2)))
theorem moPar {i j : Nat} {m1 m2 : Md} (h1 : MoE w1) (h2 : MoE w2) : MoS (wPar i j m1 m2 w1 w2) := fun D D' env k q => h1 _ _ _ (fun d e q => h2 _ _ _ (fun d e q => k.nx _ q) q) q
theorem Frs.setSh {G F H : Hp} {pc : Pc} {env : Nv} {σ : L2.St} {a : Addr} {d d' : PyData} {i : Nat} {v : V} (f : Frs G F pc env σ H a d) (hl : env.length = σ.length) : Frs G F pc (env.set i (some (.sh d'))) (σ.set i (some v)) H a d := by
  refine ⟨f.own, fun k e he => ?_⟩
  by_cases hk : k = i
  · subst hk
    by_cases hlt : k < env.length
    · rw [List.getElem?_set_self hlt] at he; cases he
    · rw [List.getElem?_eq_none (by simpa using hlt)] at he; cases he
  · rw [List.getElem?_set_ne (Ne.symm hk)] at he ⊢
    exact f.dis k e he
theorem Frs.setOw {G F H : Hp} {pc : Pc} {env : Nv} {σ : L2.St} {a b : Addr} {d d' : PyData} {i : Nat} (f : Frs G F pc env σ H a d) (hl : env.length = σ.length) (hab : b ≠ a) : Frs G F pc (env.set i (some (.ow d'))) (σ.set i (some (.ref b))) H a d := by
  refine ⟨f.own, fun k e he => ?_⟩
  by_cases hk : k = i
  · subst hk
    by_cases hlt : k < env.length
    · rw [List.getElem?_set_self (by omega)]
      intro z; cases z; exact hab rfl
    · rw [List.getElem?_eq_none (by simpa using hlt)] at he; cases he
  · rw [List.getElem?_set_ne (Ne.symm hk)] at he ⊢
    exact f.dis k e he
/-- two values, one behind the other -/
theorem xd_two {m1 m2 : Md} (h1 : XD X a m1 w1) (h2 : XD X b m2 w2) {σ : L2.St} {H G F : Hp} {pc : Pc} {env : Nv} {K : V → V → Hp → Prop} (r : Rel X.mg G F pc env σ H)
    (q : w1 env fun d1 e1 => w2 e1 fun d2 e2 => ∀ v1 v2 F' pc' H', Same F F' → PcLe pc pc' → Rel X.mg G F' pc' e2 σ H' → Vm X.mg G F' pc' e2 σ H' m1 d1 v1 → Vm X.mg G F' pc' e2 σ H' m2 d2 v2 → (m1 = .o → m2 = .o → v1 ≠ v2) → K v1 v2 H') :
    (match m1 with | .s => tW X.mg w1 | .o => tO X.mg w1) σ H fun x H1 => (match m2 with | .s => tW X.mg w2 | .o => tO X.mg w2) σ H1 fun y H2 => K x y H2 := by
  refine h1.run r (h1.mo _ _ _ (fun d1 e1 q1 v1 F1 pc1 H1 s1 p1 r1 vm1 => ?_) q)
  cases m1 with
  | s =>
    refine h2.run r1 (h2.mo _ _ _ (fun d2 e2 q2 v2 F2 pc2 H2 s2 p2 r2 vm2 => ?_) q1)
    exact q2 v1 v2 F2 pc2 H2 (s1.trans s2) (p1.trans p2) r2 (Rp.mono s2 _ _ vm1) vm2 fun z => nomatch z
  | o =>
    obtain ⟨a1, ev, f1⟩ := vm1
    subst ev
    obtain ⟨o, ho, rh⟩ := r1.hold f1
    refine h2.run rh (h2.mo _ _ _ (fun d2 e2 q2 v2 F2 pc2 H2 s2 p2 r2 vm2 => ?_) q1)
    obtain ⟨r3, f3⟩ := r2.unhold f1.own.g f1.own.cnt ho s2
    cases m2 with
    | s => exact q2 _ v2 F2 pc2 H2 (s1.trans s2) (p1.trans p2) r3 ⟨a1, rfl, f3⟩ vm2 fun _ z => nomatch z
    | o =>
      obtain ⟨a2, ev, f2⟩ := vm2
      subst ev
      have hne : a2 ≠ a1 := fun z => by
        subst z
        have := f2.own.g
        rw [upd_same] at this; cases this
      refine q2 _ _ F2 pc2 H2 (s1.trans s2) (p1.trans p2) r3 ⟨a1, rfl, f3⟩ ⟨a2, rfl, ⟨f2.own.f, ?_, f2.own.s, f2.own.cnt⟩, f2.dis⟩ fun _ _ z => hne (by cases z; rfl)
      have := f2.own.g
      rwa [upd_ne hne] at this
theorem set_two {i j : Nat} {m1 m2 : Md} {G F H : Hp} {pc : Pc} {env : Nv} {σ : L2.St} {d1 d2 : PyData} {v1 v2 : V} {M : Str → Option Value} (r : Rel M G F pc env σ H) (h1 : Vm M G F pc env σ H m1 d1 v1) (h2 : Vm M G F pc env σ H m2 d2 v2) (hd : m1 = .o → m2 = .o → v1 ≠ v2) :
    Rel M G F pc ((env.set i (some (m1.sl d1))).set j (some (m2.sl d2))) ((σ.set i (some v1)).set j (some v2)) H := by
  refine (r.setM h1).setM ?_
  cases m2 with
  | s => exact h2
  | o =>
    obtain ⟨a2, e2, f2⟩ := h2
    subst e2
    refine ⟨a2, rfl, ?_⟩
    cases m1 with
    | s => exact f2.setSh r.len
    | o =>
      obtain ⟨a1, e1, f1⟩ := h1
      subst e1
      exact f2.setOw r.len fun z => hd rfl rfl (by rw [z])
theorem sd_par (i j : Nat) {m1 m2 : Md} {x y : Str} {px py pt : Pos} {kt k2 : Nat} {pt2 : Pos} (hc : X.calm = true) (hN : X.N.Nodup) (hi : X.N[i]? = some x) (hj : X.N[j]? = some y) (hij : i ≠ j)
    (hx : X.env.scope.names.lookup x = some .local) (hy : X.env.scope.names.lookup y = some .local) (h1 : XD X a m1 w1) (h2 : XD X b m2 w2)
    (hw : swappedStores [.Tuple [.Name x px, .Name y py] kt pt] (.Tuple [a, b] k2 pt2) X.env = pure (some [x, y]))
    (hs : swapsWithSole [.Tuple [.Name x px, .Name y py] kt pt] (.Tuple [a, b] k2 pt2) pos.line X.env = pure false := by rfl)
    (hs3 : starEach [a, b] X.env = (false, eval a X.env) :: starEach [b] X.env := by rfl) (hs4 : starEach [b] X.env = (false, eval b X.env) :: starEach [] X.env := by rfl) :
    SD1 X (.Assign [.Tuple [.Name x px, .Name y py] kt pt] (.Tuple [a, b] k2 pt2) pos) (wPar i j m1 m2 w1 w2) := by
  refine ⟨moPar h1.mo h2.mo, ps_conv (ps_par hc hN hi hj hij hx hy (pa_cons h1.pe (pa_cons h2.pe pa_nil hs4) hs3) hw hs) fun D σ H ⟨G, F, pc, env, r, q⟩ => ?_⟩
  refine xd_two (X := X) h1 h2 (K := fun v1 v2 H2 => ∃ v w, [v1, v2] = [v, w] ∧ D.nx ((σ.set i (some v)).set j (some w)) H2) r (h1.mo _ _ _ (fun d1 e1 q1 => h2.mo _ _ _ (fun d2 e2 q2 v1 v2 F' pc' H' s p r' vm1 vm2 hd => ?_) q1) q)
  exact ⟨v1, v2, rfl, q2 _ F' pc' H' s p (set_two r' vm1 vm2 hd)⟩
/-- the same where one of the names is a cell: a tuple is made and taken apart -/
theorem sd_parC (i j : Nat) {m1 m2 : Md} {x y : Str} {px py pt : Pos} {kt k2 : Nat} {pt2 : Pos} (hc : X.calm = true) (h1 : XD X a m1 w1) (h2 : XD X b m2 w2)
    (hx : PG X (.Name x px) (gName i)) (hy : PG X (.Name y py) (gName j)) 
    (hw : swappedStores [.Tuple [.Name x px, .Name y py] kt pt] (.Tuple [a, b] k2 pt2) X.env = pure none := by rfl)
    (hs : swapsWithSole [.Tuple [.Name x px, .Name y py] kt pt] (.Tuple [a, b] k2 pt2) pos.line X.env = pure false := by rfl)
    (hs3 : starEach [a, b] X.env = (false, eval a X.env) :: starEach [b] X.env := by rfl) (hs4 : starEach [b] X.env = (false, eval b X.env) :: starEach [] X.env := by rfl)
    (ha1 : (assignEach [.Name x px, .Name y py] X.env).map (·.2) = assign (.Name x px) X.env :: (assignEach [.Name y py] X.env).map (·.2) := by rfl) (ha2 : (assignEach [.Name y py] X.env).map (·.2) = assign (.Name y py) X.env :: (assignEach [] X.env).map (·.2) := by rfl)
    (ha3 : (assignEach [.Name x px, .Name y py] X.env).length = 2 := by rfl) (ha4 : (assignEach [.Name x px, .Name y py] X.env).findIdx? (·.1) = none := by rfl)
    (ha5 : (assignEach [.Tuple [.Name x px, .Name y py] kt pt] X.env).map (·.2) = [assign (.Tuple [.Name x px, .Name y py] kt pt) X.env] := by rfl) :
    SD1 X (.Assign [.Tuple [.Name x px, .Name y py] kt pt] (.Tuple [a, b] k2 pt2) pos) (wPar i j m1 m2 w1 w2) := by
  refine ⟨moPar h1.mo h2.mo, ps_conv (ps_asg (pe_tup (pa_cons h1.pe (pa_cons h2.pe pa_nil hs4) hs3)) (pg_tup hc (pgs_cons hx (pgs_cons hy pgs_nil ha2) ha1) ha3 ha4) hs hw ha5) fun D σ H ⟨G, F, pc, env, r, q⟩ => ?_⟩
  refine xd_two (X := X) h1 h2 (K := fun v1 v2 H2 => [v1, v2].length ≤ sizeLine ∧ ∀ p, H2 p = none → gTup X.K 2 (gCons (gName i) (gCons (gName j) gNil)) (.ref p) σ (upd H2 p (.tup [v1, v2])) D.nx) r (h1.mo _ _ _ (fun d1 e1 q1 => h2.mo _ _ _ (fun d2 e2 q2 v1 v2 F' pc' H' s p r' vm1 vm2 hd => ?_) q1) q)
  refine ⟨by show 2 ≤ sizeLine; decide, fun T hT => ⟨T, [v1, v2], rfl, SqT.of upd_same, rfl, v1, [v2], rfl, v2, [], rfl, rfl, ?_⟩⟩
  have r2 := r'.lay (o := .tup [v1, v2]) hT
  have lift : ∀ {m : Md} {d : PyData} {v : V}, Vm X.mg G F' pc' e2 σ H' m d v → Vm X.mg G F' pc' e2 σ (upd H' T (.tup [v1, v2])) m d v := fun {m d v} h => by
    cases m with
    | s => exact h
    | o =>
      obtain ⟨a, e, f⟩ := h
      exact ⟨a, e, f.step (same_new hT) (Same.refl _) fun a o e => .inl e⟩
  exact q2 _ F' pc' _ s p (set_two r2 (lift vm1) (lift vm2) hd)

/-! loops -/
def forL (g : WG) (u : WS) (D : DE) : List PyData → Nv → Prop
  | [], env => D.nx env
  | d :: ds, env => g d env fun e1 => u ⟨fun e2 => forL g u D ds e2, D.rt⟩ e1
def wFor (wi : WI) (g : WG) (u : WS) : WS := fun D env => wi env fun ds e1 => forL g u D ds e1
theorem forL_mono {g : WG} (mg : MoG g) (mu : MoS u) {D D' : DE} (k : DE.Le D D') : ∀ (ds : List PyData) (env : Nv), forL g u D ds env → forL g u D' ds env
  | [], env, q => k.nx _ q
  | d :: ds, env, q => mg _ _ (fun e1 => u ⟨fun e2 => forL g u D ds e2, D.rt⟩ e1) _ (fun e1 q => mu ⟨fun e2 => forL g u D ds e2, D.rt⟩ _ _ ⟨fun e2 q => forL_mono mg mu k ds e2 q, k.rt⟩ q) q
theorem sd_for {body : List Stmt} {wi : WI} {t : TG} {g : WG} {ns : List Nat} (hp : PassesOwn (model X.prog X.w) X.A X.env X.xe) (hc : X.calm = true) (hi : ID X tg iter wi) (hg : GD X tg t g ns) (hb : BD X body u)
    (hs : ∀ x, foldedSetIterable iter X.env x = pure x := by intro _; rfl) : SD1 X (.For tg iter body [] pos) (wFor wi g u) := by
  refine ⟨fun D D' env k q => hi.mo _ _ _ (fun ds e q => forL_mono hg.mo hb.mo k ds e q) q, ps_conv (ps_for hp hc hi.pi hg.pg hb.pss hs) fun D σ H ⟨G, F, pc, env, r, q⟩ => ⟨G, F, pc, env, r, hi.mo _ _ _ (fun ds e1 q1 J F1 pc1 H1 s1 p1 r1 it => ?_) q⟩⟩
  let Inn : Nat → L2.St → Hp → Prop := fun i σ' H' => ∃ F2 pc2 e2, Same F1 F2 ∧ PcLe pc1 pc2 ∧ Rel X.mg G F2 pc2 e2 σ' H' ∧ forL g u (dEnd X.mg G F pc D) (ds.drop i) e2
  refine ⟨fun i m σ' H' => m = ds.length - i ∧ i ≤ ds.length ∧ Inn i σ' H', ⟨ds.length, by simp, Nat.zero_le _, F1, pc1, e1, Same.refl _, .refl, r1, q1⟩, ?_⟩
  rintro i m σ2 H2 ⟨rfl, hi, F2, pc2, e2, s2, p2, r2, q2⟩
  by_cases hlt : i < ds.length
  · have hdi : ds[i]? = some ds[i] := List.getElem?_eq_getElem hlt
    rw [List.drop_eq_getElem_cons hlt] at q2
    have it2 := it.mono s2
    refine .inr ⟨it2.go i H2 r2.base.g r2.base.f hlt, Inn (i + 1), fun σ' H' hN => ⟨ds.length - (i + 1), by omega, rfl, hlt, hN⟩, fun x H3 y => ?_⟩
    have got : ∃ F3, Same F2 F3 ∧ Rel X.mg G F3 pc2 e2 σ2 H3 ∧ Rp F3 ds[i] x := by
      rcases it2.yld i H2 x H3 _ r2.base.g r2.base.f hdi y with ⟨e3, rx⟩ | ⟨T, xs, es, hT, e3, ed, ex, rx⟩
      · subst e3; exact ⟨F2, Same.refl _, r2, rx⟩
      · subst e3 ex
        obtain ⟨r3, s3, rp⟩ := r2.newTup hT rx
        exact ⟨_, s3, r3, ed ▸ rp⟩
    obtain ⟨F3, s3, r3, rx⟩ := got
    refine hg.ok G F3 pc2 e2 _ H3 x _ _ _ r3 rx q2 fun e4 σ4 q4 r4 o4 => ?_
    refine ⟨G, F3, pc2, e4, r4, hb.mo _ _ _ ⟨fun e5 q5 σ5 F5 pc5 H5 s5 p5 r5 => ?_, fun d q5 v F5 pc5 H5 s5 p5 r5 rp5 => ?_⟩ q4⟩
    · exact ⟨F5, pc5, e5, (s2.trans s3).trans s5, p2.trans p5, r5, q5⟩
    · exact q5 v F5 pc5 H5 (((s1.trans s2).trans s3).trans s5) ((p1.trans p2).trans p5) r5 rp5
  · have ei : i = ds.length := by omega
    subst ei
    rw [List.drop_length] at q2
    exact .inl ⟨it.stop _ H2 r2.base.g (s2.trans r2.base.f) (Nat.le_refl _), q2 σ2 F2 pc2 H2 (s1.trans s2) (p1.trans p2) r2⟩
def whileL (wt : WT) (u : WS) (D : DE) : Nat → Nv → Prop
  | 0, _ => False
  | n + 1, env => wt env fun b e1 => if b = true then u ⟨fun e2 => whileL wt u D n e2, D.rt⟩ e1 else D.nx e1
def wWhile (wt : WT) (u : WS) : WS := fun D env => ∃ n, whileL wt u D n env
theorem whileL_mono {wt : WT} (mt : MoT wt) (mu : MoS u) {D D' : DE} (k : DE.Le D D') : ∀ (n : Nat) (env : Nv), whileL wt u D n env → whileL wt u D' n env
  | 0, env, q => q
  | n + 1, env, q => mt _ _ _ (fun b e1 q => by
      cases b with
      | true => exact iteT (mu ⟨fun e2 => whileL wt u D n e2, D.rt⟩ _ _ ⟨fun e2 q => whileL_mono mt mu k n e2 q, k.rt⟩ (by simpa using q))
      | false => exact iteF (k.nx _ (by simpa using q))) q
theorem sd_while {body : List Stmt} {wt : WT} (hp : PassesOwn (model X.prog X.w) X.A X.env X.xe) (ht : TD X c wt) (hb : BD X body u) : SD1 X (.While c body [] pos) (wWhile wt u) := by
  refine ⟨fun D D' env k ⟨n, q⟩ => ⟨n, whileL_mono ht.mo hb.mo k n env q⟩, ps_conv (ps_while hp ht.pt hb.pss) fun D σ H ⟨G, F, pc, env, r, n, q⟩ => ?_⟩
  refine ⟨fun m σ' H' => ∃ F2 pc2 e2, Same F F2 ∧ PcLe pc pc2 ∧ Rel X.mg G F2 pc2 e2 σ' H' ∧ whileL wt u (dEnd X.mg G F pc D) m e2, ⟨n, F, pc, env, Same.refl _, .refl, r, q⟩, ?_⟩
  rintro m σ2 H2 ⟨F2, pc2, e2, s2, p2, r2, q2⟩
  cases m with
  | zero => exact q2.elim
  | succ m =>
    refine ⟨G, F2, pc2, e2, r2, ht.mo _ _ _ (fun b e3 q3 F3 pc3 H3 s3 p3 r3 => ?_) q2⟩
    cases b with
    | false => exact iteF ((show (dEnd X.mg G F pc D).nx e3 from by simpa using q3) σ2 F3 pc3 H3 (s2.trans s3) (p2.trans p3) r3)
    | true =>
      refine iteT ⟨fun σ' H' => ∃ F2 pc2 e2, Same F F2 ∧ PcLe pc pc2 ∧ Rel X.mg G F2 pc2 e2 σ' H' ∧ whileL wt u (dEnd X.mg G F pc D) m e2, fun σ' H' h => ⟨m, Nat.lt_succ_self m, h⟩, ?_⟩
      refine ⟨G, F3, pc3, e3, r3, hb.mo _ _ _ ⟨fun e5 q5 σ5 F5 pc5 H5 s5 p5 r5 => ?_, fun d q5 v F5 pc5 H5 s5 p5 r5 rp5 => ?_⟩ (show u ⟨fun e2 => whileL wt u (dEnd X.mg G F pc D) m e2, (dEnd X.mg G F pc D).rt⟩ e3 from by simpa using q3)⟩
      · exact ⟨F5, pc5, e5, (s2.trans s3).trans s5, (p2.trans p3).trans p5, r5, q5⟩
      · exact q5 v F5 pc5 H5 ((s2.trans s3).trans s5) ((p2.trans p3).trans p5) r5 rp5
end
end DL
set_option Elab.async false
set_option linter.all false
set_option maxRecDepth 100000
set_option maxHeartbeats 1000000
set_option autoImplicit false
/-! DLf: methods of lists in slots, stores by place, builtins. -/
namespace DL
open PySem PySem.Spec PyProof.Rows L2

section
variable {X : Cx} {e a b c o : Expr} {es : List Expr} {w w1 w2 : WE} {wA : WA} {pos : Pos} {u : WS}
theorem moNil : MoA wNil := fun _ _ _ k q => k _ _ q
theorem idx_first : ∀ (ns : List Int) (n : Int) (m : Nat), m < ns.idxOf n → ns[m]? ≠ some n
  | [], n, m, h => by simp
  | a :: r, n, m, h => by
    by_cases ha : a = n
    · subst ha; simp at h
    · rw [List.idxOf_cons] at h
      have hb : (a == n) = false := by simpa using ha
      rw [hb] at h
      cases m with
      | zero => simpa using ha
      | succ m => simpa using idx_first r n m (by simpa using h)
/-! methods that change an own list -/
abbrev BM := List PyData → List PyData → (PyData → List PyData → Prop) → Prop
def MoM (B : BM) : Prop := ∀ ds as P P', (∀ z l, P z l → P' z l) → B ds as P → B ds as P'
def MOk (B : BM) (r : V → List V → Hp → VK → Prop) : Prop := ∀ (F H : Hp) (a : Addr) (vs : List V) (ds as : List PyData) (ws : List V) (P : PyData → List PyData → Prop) (Q : VK), Same F H → H a = some (.lst vs) → RpL F ds vs → RpL F as ws → B ds as P →
  (∀ z v ds' vs', P z ds' → Rp F z v → RpL F ds' vs' → Q v (upd H a (.lst vs'))) → r (.ref a) ws H Q
def owL (env : Nv) (i : Nat) (ds : List PyData) : Prop := env[i]? = some (some (.ow (.list ds)))
def wMeth (i : Nat) (wA : WA) (B : BM) : WE := fun env P => (∃ ds, owL env i ds) ∧ wA env fun as e2 => ∃ ds, owL e2 i ds ∧ B ds as fun z ds' => P z (e2.set i (some (.ow (.list ds'))))
theorem owL_at {M : Str → Option Value} {G F H : Hp} {pc : Pc} {env : Nv} {σ : L2.St} {i : Nat} {ds : List PyData} (r : Rel M G F pc env σ H) (h : owL env i ds) : ∃ a vs, σ[i]? = some (some (.ref a)) ∧ H a = some (.lst vs) ∧ RpL F ds vs := by
  obtain ⟨v, h1, a, h2, w⟩ := r.cell i _ h
  subst h2
  obtain ⟨vs, h3, h4⟩ := w.cnt
  exact ⟨a, vs, h1, h3, h4⟩
theorem tW_meth {i : Nat} {B : BM} {r : V → List V → Hp → VK → Prop} {K : PySem.W.Frag} (mB : MoM B) (ok : MOk B r) (mA : MoA wA) {σ : L2.St} {H : Hp} {Q : VK} (h : tW X.mg (wMeth i wA B) σ H Q) : tBM K "list" r (tVar i) (tA X.mg wA) σ H Q := by
  obtain ⟨G, F, pc, env, r0, ⟨ds0, h0⟩, q⟩ := h
  obtain ⟨a, vs, h1, h2, h3⟩ := owL_at r0 h0
  refine ⟨_, h1, .inl ⟨rfl, vs, SqL.of h2⟩, G, F, pc, env, r0, mA _ _ _ (fun as e2 q2 ws F2 pc2 H2 s2 p2 r2 rp2 => ?_) q⟩
  obtain ⟨ds, h4, q3⟩ := q2
  obtain ⟨a', vs', g1, g2, g3⟩ := owL_at r2 h4
  rw [h1] at g1; cases g1
  refine ok F2 H2 _ vs' ds as ws _ Q r2.base.f g2 g3 rp2 q3 fun z v ds' vs2 pz rz rl => pz v F2 pc2 _ s2 p2 (r2.write h4 h1 ⟨vs2, upd_same, rl⟩) rz
theorem moMeth {i : Nat} {B : BM} (mB : MoM B) (mA : MoA wA) : MoE (wMeth i wA B) := fun env P P' k q => ⟨q.1, mA _ _ _ (fun as e2 ⟨ds, h, q⟩ => ⟨ds, h, mB _ _ _ _ (fun z l q => k _ _ q) q⟩) q.2⟩
theorem ed_meth (i : Nat) {x name : Str} {id : String} {npos apos cpos : Pos} {B : BM} {r : V → List V → Hp → VK → Prop} (mB : MoM B) (ok : MOk B r) (slot : Slot "list" name id) (hty : typeOf (.builtin id) = pure (.type "method_descriptor")) (hm : MtR X id r)
    (h : PE X (.Name x npos) (tVar i)) (ha : AD X (e :: es) wA) (hbase : attributeBase (.Name x npos) name X.env (eval (.Name x npos) X.env) = eval (.Name x npos) X.env := by rfl)
    (hfew : ((backTo cpos (starEach (e :: es) X.env)).all (fun x => !x.1) && (backToKw cpos (keywordEach [] X.env)).all (fun x => x.1.isSome) && decide ((e :: es).length + ([] : List Keyword).length + (if ([] : List Keyword).isEmpty then 0 else 1) < 30)) = true := by rfl)
    (hline : (apos.endLine == cpos.line) = true := by rfl) (hs : starEach (e :: es) X.env = (false, eval e X.env) :: starEach es X.env := by rfl) (hplain : (backTo cpos (starEach es X.env)).any (·.1) = false := by rfl) :
    ED X (.Call (.Attribute (.Name x npos) name apos) (e :: es) [] cpos) (wMeth i wA B) :=
  ⟨moMeth mB ha.mo, pe_conv (pe_bm PySem.F.plainAttrs_list slot hty hm h ha.pa hbase hfew hline hs hplain) fun σ H Q q => tW_meth (X := X) mB ok ha.mo q⟩
theorem ed_meth0 (i : Nat) {x name : Str} {id : String} {npos apos cpos : Pos} {B : BM} {r : V → List V → Hp → VK → Prop} (mB : MoM B) (ok : MOk B r) (slot : Slot "list" name id) (hty : typeOf (.builtin id) = pure (.type "method_descriptor")) (hm : MtR X id r)
    (h : PE X (.Name x npos) (tVar i)) (hbase : attributeBase (.Name x npos) name X.env (eval (.Name x npos) X.env) = eval (.Name x npos) X.env := by rfl) (hline : (apos.endLine == cpos.line) = true := by rfl) :
    ED X (.Call (.Attribute (.Name x npos) name apos) [] [] cpos) (wMeth i wNil B) :=
  ⟨moMeth mB moNil, pe_conv (pe_bm0 PySem.F.plainAttrs_list slot hty hm h hbase hline) fun σ H Q q => by
    have := tW_meth (X := X) (K := X.K) mB ok moNil q
    obtain ⟨v, h1, h2, G, F, pc, env, r, q2⟩ := this
    exact ⟨v, h1, h2, q2 [] F pc H (Same.refl _) .refl r RpL.nil⟩⟩
def appB : BM := fun ds as P => ∃ d, as = [d] ∧ ds.length < sizeLine ∧ P .none (ds ++ [d])
theorem ok_app : MOk appB rAppend := by
  intro F H a vs ds as ws P Q s h1 h2 h3 ⟨d, e1, hz, p⟩ k
  subst e1
  simp only [RpL] at h3
  obtain ⟨v, r, e2, f, g⟩ := h3
  subst e2 g
  exact ⟨a, vs, v, rfl, rfl, h1, by rw [h2.len]; exact hz, k _ _ _ _ p (by simp only [Rp]) (h2.app (RpL.cons f RpL.nil))⟩
theorem ed_append (i : Nat) {x : Str} {npos apos cpos : Pos} (h : PE X (.Name x npos) (tVar i)) (ha : ED X e w) (hbase : attributeBase (.Name x npos) "append" X.env (eval (.Name x npos) X.env) = eval (.Name x npos) X.env := by rfl)
    (hfew : ((backTo cpos (starEach [e] X.env)).all (fun x => !x.1) && (backToKw cpos (keywordEach [] X.env)).all (fun x => x.1.isSome) && decide ([e].length + ([] : List Keyword).length + (if ([] : List Keyword).isEmpty then 0 else 1) < 30)) = true := by rfl)
    (hline : (apos.endLine == cpos.line) = true := by rfl) (hs : starEach [e] X.env = (false, eval e X.env) :: starEach [] X.env := by rfl) :
    ED X (.Call (.Attribute (.Name x npos) "append" apos) [e] [] cpos) (wMeth i (wCons w wNil) appB) :=
  ed_meth i (fun ds as P P' k ⟨d, e1, hz, p⟩ => ⟨d, e1, hz, k _ _ p⟩) ok_app PySem.F.slot_list_append PySem.F.type_list_append mt_append h (ad_cons ha ad_nil hs) hbase hfew hline hs rfl
def extB : BM := fun ds as P => ∃ es, as = [.list es] ∧ ds.length + es.length ≤ sizeLine ∧ P .none (ds ++ es)
theorem ok_ext : MOk extB rExtend := by
  intro F H a vs ds as ws P Q s h1 h2 h3 ⟨es, e1, hz, p⟩ k
  subst e1
  simp only [RpL] at h3
  obtain ⟨v, r, e2, f, g⟩ := h3
  subst e2 g
  obtain ⟨b, us, ev, fb, gb⟩ := f.list
  subst ev
  exact ⟨a, b, vs, us, rfl, rfl, h1, s _ _ fb, by rw [h2.len, gb.len]; exact hz, k _ _ _ _ p (by simp only [Rp]) (h2.app gb)⟩
theorem ed_extend (i : Nat) {x : Str} {npos apos cpos : Pos} (h : PE X (.Name x npos) (tVar i)) (ha : ED X e w) (hbase : attributeBase (.Name x npos) "extend" X.env (eval (.Name x npos) X.env) = eval (.Name x npos) X.env := by rfl)
    (hfew : ((backTo cpos (starEach [e] X.env)).all (fun x => !x.1) && (backToKw cpos (keywordEach [] X.env)).all (fun x => x.1.isSome) && decide ([e].length + ([] : List Keyword).length + (if ([] : List Keyword).isEmpty then 0 else 1) < 30)) = true := by rfl)
    (hline : (apos.endLine == cpos.line) = true := by rfl) (hs : starEach [e] X.env = (false, eval e X.env) :: starEach [] X.env := by rfl) :
    ED X (.Call (.Attribute (.Name x npos) "extend" apos) [e] [] cpos) (wMeth i (wCons w wNil) extB) :=
  ed_meth i (fun ds as P P' k ⟨d, e1, hz, p⟩ => ⟨d, e1, hz, k _ _ p⟩) ok_ext PySem.F.slot_list_extend PySem.F.type_list_extend mt_extend h (ad_cons ha ad_nil hs) hbase hfew hline hs rfl
def popB : BM := fun ds as P => as = [] ∧ ∃ z, ds[ds.length - 1]? = some z ∧ P z ds.dropLast
theorem RpL.dropLast {F : Hp} {ds : List PyData} {vs : List V} (r : RpL F ds vs) : RpL F ds.dropLast vs.dropLast := by
  rw [List.dropLast_eq_take, List.dropLast_eq_take, r.len]
  exact r.take _
theorem ok_pop : MOk popB rPop := by
  intro F H a vs ds as ws P Q s h1 h2 h3 ⟨e1, z, e2, p⟩ k
  subst e1
  simp only [RpL] at h3
  subst h3
  obtain ⟨v, hv, rv⟩ := h2.get e2
  rw [← h2.len] at hv
  exact ⟨a, vs, v, rfl, rfl, h1, hv, k _ _ _ _ p rv h2.dropLast⟩
theorem ed_pop (i : Nat) {x : Str} {npos apos cpos : Pos} (h : PE X (.Name x npos) (tVar i)) (hbase : attributeBase (.Name x npos) "pop" X.env (eval (.Name x npos) X.env) = eval (.Name x npos) X.env := by rfl) (hline : (apos.endLine == cpos.line) = true := by rfl) :
    ED X (.Call (.Attribute (.Name x npos) "pop" apos) [] [] cpos) (wMeth i wNil popB) :=
  ed_meth0 i (fun ds as P P' k ⟨e1, z, e2, p⟩ => ⟨e1, z, e2, k _ _ p⟩) ok_pop PySem.F.slot_list_pop PySem.F.type_list_pop mt_pop h hbase hline
def popAtB : BM := fun ds as P => ∃ (k : Nat) (z : PyData), as = [.int k] ∧ k < 2 ^ 60 ∧ ds[k]? = some z ∧ P z (ds.eraseIdx k)
theorem ok_popAt : MOk popAtB rPopAt := by
  intro F H a vs ds as ws P Q s h1 h2 h3 ⟨n, z, e1, hk, e2, p⟩ k
  subst e1
  simp only [RpL] at h3
  obtain ⟨v, r, e3, f, g⟩ := h3
  subst e3 g
  have ev := Rp.int_iff.mp f
  subst ev
  obtain ⟨v, hv, rv⟩ := h2.get e2
  have hlt : n < vs.length := (List.getElem?_eq_some_iff.mp hv).1
  refine ⟨a, vs, n, n, v, rfl, rfl, h1, by omega, by omega, ?_, hv, k _ _ _ _ p rv (h2.erase n)⟩
  rw [seqIndex_of (by omega) (by omega)]
  simp
theorem ed_popAt (i : Nat) {x : Str} {npos apos cpos : Pos} (h : PE X (.Name x npos) (tVar i)) (ha : ED X e w) (hbase : attributeBase (.Name x npos) "pop" X.env (eval (.Name x npos) X.env) = eval (.Name x npos) X.env := by rfl)
    (hfew : ((backTo cpos (starEach [e] X.env)).all (fun x => !x.1) && (backToKw cpos (keywordEach [] X.env)).all (fun x => x.1.isSome) && decide ([e].length + ([] : List Keyword).length + (if ([] : List Keyword).isEmpty then 0 else 1) < 30)) = true := by rfl)
    (hline : (apos.endLine == cpos.line) = true := by rfl) (hs : starEach [e] X.env = (false, eval e X.env) :: starEach [] X.env := by rfl) :
    ED X (.Call (.Attribute (.Name x npos) "pop" apos) [e] [] cpos) (wMeth i (wCons w wNil) popAtB) :=
  ed_meth i (fun ds as P P' k ⟨d, z, e1, hz, e2, p⟩ => ⟨d, z, e1, hz, e2, k _ _ p⟩) ok_popAt PySem.F.slot_list_pop PySem.F.type_list_pop mt_popAt h (ad_cons ha ad_nil hs) hbase hfew hline hs rfl
def remB : BM := fun ds as P => ∃ (ns : List Int) (k : Int), as = [.int k] ∧ ds = ns.map .int ∧ k ∈ ns ∧ P .none ((ns.erase k).map .int)
theorem ok_rem : MOk remB rRemI := by
  intro F H a vs ds as ws P Q s h1 h2 h3 ⟨ns, n, e1, e2, e3, p⟩ k
  subst e1 e2
  have := h2.int
  subst this
  simp only [RpL] at h3
  obtain ⟨v, r, e3', f, g⟩ := h3
  subst e3' g
  have ev := Rp.int_iff.mp f
  subst ev
  have hmem : ns.idxOf n < ns.length := List.idxOf_lt_length_of_mem e3
  refine ⟨a, ns, n, ns.idxOf n, rfl, rfl, h1, ?_, fun m hm => idx_first ns n m hm, ?_⟩
  · rw [List.getElem?_eq_getElem hmem, List.getElem_idxOf]
  · refine k _ _ _ _ p (by simp only [Rp]) ?_
    rw [List.erase_eq_eraseIdx_of_idxOf rfl]
    exact RpL.ofInt _
theorem ed_remove (i : Nat) {x : Str} {npos apos cpos : Pos} (h : PE X (.Name x npos) (tVar i)) (ha : ED X e w) (hbase : attributeBase (.Name x npos) "remove" X.env (eval (.Name x npos) X.env) = eval (.Name x npos) X.env := by rfl)
    (hfew : ((backTo cpos (starEach [e] X.env)).all (fun x => !x.1) && (backToKw cpos (keywordEach [] X.env)).all (fun x => x.1.isSome) && decide ([e].length + ([] : List Keyword).length + (if ([] : List Keyword).isEmpty then 0 else 1) < 30)) = true := by rfl)
    (hline : (apos.endLine == cpos.line) = true := by rfl) (hs : starEach [e] X.env = (false, eval e X.env) :: starEach [] X.env := by rfl) :
    ED X (.Call (.Attribute (.Name x npos) "remove" apos) [e] [] cpos) (wMeth i (wCons w wNil) remB) :=
  ed_meth i (fun ds as P P' k ⟨ns, n, e1, e2, e3, p⟩ => ⟨ns, n, e1, e2, e3, k _ _ p⟩) ok_rem PySem.F.slot_list_remove PySem.F.type_list_remove mt_remove h (ad_cons ha ad_nil hs) hbase hfew hline hs rfl

/-! name[i] = e, name[i] op= e for an own list; name[k] = e for an own dict; name op= e -/
def wSetIx (i : Nat) (w1 w2 : WE) : WS := fun D env => w1 env fun d e1 => (∃ c, e1[i]? = some (some (.ow c))) ∧ w2 e1 fun k e2 => ∃ ds n j, owL e2 i ds ∧ k = .int n ∧ ixN ds.length n = some j ∧ D.nx (e2.set i (some (.ow (.list (ds.set j d)))))
theorem sd_setIx (i : Nat) {x : Str} {npos spos : Pos} (h : PE X (.Name x npos) (tVar i)) (h1 : ED X e w1) (h2 : ED X b w2)
    (ha : ∀ v, assign (.Subscript (.Name x npos) b spos) X.env v = (do
      let ov ← holding [v] (eval (.Name x npos) X.env)
      let iv ← holding [v, ov] (eval b X.env)
      standAt spos
      holding [v, ov, iv] (setItem ov iv v)
      release [v, ov, iv] []) := by intro _; rfl)
    (hs : swapsWithSole [.Subscript (.Name x npos) b spos] e pos.line X.env = pure false := by rfl) (hw : swappedStores [.Subscript (.Name x npos) b spos] e X.env = pure none := by rfl)
    (ha1 : (assignEach [.Subscript (.Name x npos) b spos] X.env).map (·.2) = [assign (.Subscript (.Name x npos) b spos) X.env] := by rfl) :
    SD1 X (.Assign [.Subscript (.Name x npos) b spos] e pos) (wSetIx i w1 w2) := by
  refine ⟨fun D D' env k q => h1.mo _ _ _ (fun d e1 ⟨c, q⟩ => ⟨c, h2.mo _ _ _ (fun d2 e2 ⟨ds, n, j, x, y, z, q⟩ => ⟨ds, n, j, x, y, z, k.nx _ q⟩) q⟩) q, ps_conv (ps_asg h1.pe (pg_sub h h2.pe set_list ha) hs hw ha1) fun D σ H ⟨G, F, pc, env, r, q⟩ => ⟨G, F, pc, env, r, h1.mo _ _ _ (fun d e1 q1 v1 F1 pc1 H1 s1 p1 r1 rp1 => ?_) q⟩⟩
  obtain ⟨⟨c, hc⟩, q1⟩ := q1
  obtain ⟨v, hv, _⟩ := r1.cell i _ hc
  refine ⟨v, hv, G, F1, pc1, e1, r1, h2.mo _ _ _ (fun d2 e2 q2 v2 F2 pc2 H2 s2 p2 r2 rp2 => ?_) q1⟩
  obtain ⟨ds, n, j, ho, e3, hj, q2⟩ := q2
  subst e3
  obtain ⟨a, vs, g1, g2, g3⟩ := owL_at r2 ho
  rw [hv] at g1; cases g1
  exact ⟨a, vs, n, j, rfl, Rp.int_iff.mp rp2, g2, by rw [g3.len]; exact hj, q2 σ F2 pc2 _ (s1.trans s2) (p1.trans p2) (r2.write ho hv ⟨_, upd_same, g3.set j (Rp.mono s2 _ _ rp1)⟩)⟩
def getL : V → V → Hp → VK → Prop := fun o i H Q => ∃ p xs k j v, o = .ref p ∧ i = .int k ∧ H p = some (.lst xs) ∧ 0 ≤ k ∧ k < 2 ^ 62 ∧ k.toNat = j ∧ xs[j]? = some v ∧ Q v H
theorem pget_list : PGet X getL := by
  intro pins s σ H o i ov iv Q I ro ri ⟨p, xs, k, j, v, e1, e2, h, h0, h1, e3, hx, q⟩
  subst e1 e2
  cases ro
  obtain ⟨t, rfl⟩ := ri
  obtain ⟨its, r, pl, hz⟩ := I.list (SqL.of h)
  obtain ⟨u, hu, ru⟩ := r.get hx
  exact wpAny_getItem_list pl.isList h0 (by omega) (by rw [e3]; simpa using hu) ⟨v, H, I, ru, q⟩
abbrev opB : Type := Int → Int → Int
def wAugIx (i : Nat) (f : Int → Int → Int) (w1 w2 : WE) : WS := fun D env => (∃ c, env[i]? = some (some (.ow c))) ∧ w1 env fun k e1 => ∃ ds n x, owL e1 i ds ∧ k = .int n ∧ 0 ≤ n ∧ n < 2 ^ 62 ∧ ds[n.toNat]? = some (.int x) ∧
  w2 e1 fun y e2 => ∃ ds2 z, owL e2 i ds2 ∧ y = .int z ∧ n.toNat < ds2.length ∧ D.nx (e2.set i (some (.ow (.list (ds2.set n.toNat (.int (f x z)))))))
theorem sd_augIx (i : Nat) {op : Operator} {f : Int → Int → Int} {x : Str} {npos tpos : Pos} (hop : PIp X op (ipI f)) (h : PE X (.Name x npos) (tVar i)) (h1 : ED X b w1) (h2 : ED X e w2)
    (ha : ∀ ov iv new, augStore b ov iv new = (do holding [new, ov, iv] (setItem ov iv new); release [new, ov, iv] []; pure .next) := by intros; rfl) :
    SD1 X (.AugAssign (.Subscript (.Name x npos) b tpos) op e pos) (wAugIx i f w1 w2) := by
  refine ⟨fun D D' env k q => ⟨q.1, h1.mo _ _ _ (fun d e1 ⟨ds, n, x, a1, a2, a3, a4, a5, q⟩ => ⟨ds, n, x, a1, a2, a3, a4, a5, h2.mo _ _ _ (fun d2 e2 ⟨ds, z, x, y, z2, q⟩ => ⟨ds, z, x, y, z2, k.nx _ q⟩) q⟩) q.2⟩, ps_conv (ps_augS h h1.pe pget_list h2.pe hop set_list ha) fun D σ H ⟨G, F, pc, env, r, q⟩ => ?_⟩
  obtain ⟨⟨c, hc⟩, q1⟩ := q
  obtain ⟨v, hv, _⟩ := r.cell i _ hc
  refine ⟨v, hv, G, F, pc, env, r, h1.mo _ _ _ (fun d e1 q2 v1 F1 pc1 H1 s1 p1 r1 rp1 => ?_) q1⟩
  obtain ⟨ds, n, x, ho, e1', n0, n1, hx, q2⟩ := q2
  subst e1'
  obtain ⟨a, vs, g1, g2, g3⟩ := owL_at r1 ho
  rw [hv] at g1; cases g1
  obtain ⟨vx, hvx, rx⟩ := g3.get hx
  refine ⟨a, vs, n, n.toNat, vx, rfl, Rp.int_iff.mp rp1, g2, n0, n1, rfl, hvx, G, F1, pc1, e1, r1, h2.mo _ _ _ (fun y e2 q3 v2 F2 pc2 H2 s2 p2 r2 rp2 => ?_) q2⟩
  obtain ⟨ds2, z, ho2, e3, hl, q4⟩ := q3
  subst e3
  obtain ⟨a', vs2, g1', g2', g3'⟩ := owL_at r2 ho2
  rw [hv] at g1'; cases g1'
  refine ⟨x, z, Rp.int_iff.mp rx, Rp.int_iff.mp rp2, a, vs2, n, n.toNat, rfl, Rp.int_iff.mp rp1, g2', ?_, q4 σ F2 pc2 _ (s1.trans s2) (p1.trans p2) (r2.write ho2 hv ⟨_, upd_same, g3'.set n.toNat (by simp only [Rp])⟩)⟩
  unfold ixN
  rw [if_pos n0, if_pos (by rw [g3'.len]; omega)]
def wSetDk (i : Nat) (w1 w2 : WE) : WS := fun D env => w1 env fun d e1 => (∃ c, e1[i]? = some (some (.ow c))) ∧ w2 e1 fun k e2 => ∃ kvs key, e2[i]? = some (some (.ow (.dict kvs))) ∧ kOf k = some key ∧ kvs.length < sizeLine ∧ D.nx (e2.set i (some (.ow (.dict (dPut kvs key d)))))
theorem sd_setDk (i : Nat) {x : Str} {npos spos : Pos} (hu : X.A.units + 1 < cLine) (h : PE X (.Name x npos) (tVar i)) (h1 : ED X e w1) (h2 : ED X b w2)
    (hs : swapsWith e (some (.Subscript (.Name x npos) b spos)) pos.line X.env = pure false := by rfl) : SD1 X (.Assign [.Subscript (.Name x npos) b spos] e pos) (wSetDk i w1 w2) := by
  refine ⟨fun D D' env k q => h1.mo _ _ _ (fun d e1 ⟨c, q⟩ => ⟨c, h2.mo _ _ _ (fun d2 e2 ⟨ds, n, x, y, z, q⟩ => ⟨ds, n, x, y, z, k.nx _ q⟩) q⟩) q, ps_conv (ps_dput hu h h2.pe h1.pe hs) fun D σ H ⟨G, F, pc, env, r, q⟩ => ⟨G, F, pc, env, r, h1.mo _ _ _ (fun d e1 q1 v1 F1 pc1 H1 s1 p1 r1 rp1 => ?_) q⟩⟩
  obtain ⟨⟨c, hc⟩, q1⟩ := q1
  obtain ⟨v, hv, _⟩ := r1.cell i _ hc
  refine ⟨v, hv, G, F1, pc1, e1, r1, h2.mo _ _ _ (fun d2 e2 q2 v2 F2 pc2 H2 s2 p2 r2 rp2 => ?_) q1⟩
  obtain ⟨kvs, key, ho, hk, hl, q2⟩ := q2
  obtain ⟨v', g1, a, ea, wo⟩ := r2.cell i _ ho
  rw [hv] at g1; cases g1
  subst ea
  obtain ⟨ks, g2, g3⟩ := wo.cnt
  refine ⟨a, _, rfl, by rw [rp2.key hk]; exact DPut.k g2 (by rw [g3.len]; exact hl), q2 σ F2 pc2 _ (s1.trans s2) (p1.trans p2) (r2.write ho hv ⟨_, upd_same, g3.put (Rp.mono s2 _ _ rp1)⟩)⟩
def wAug (i : Nat) (C : Int → Int → Prop) (f : Int → Int → Int) (w : WE) : WS := fun D env => ∃ x, env[i]? = some (some (.sh (.int x))) ∧ w env fun y e2 => ∃ z, y = .int z ∧ C x z ∧ D.nx (e2.set i (some (.sh (.int (f x z)))))
theorem sd_aug (i : Nat) {op : Operator} {C : Int → Int → Prop} {f : Int → Int → Int} {x : Str} {pos' : Pos} (hN : X.N.Nodup) (hi : X.N[i]? = some x) (hx : Loc X.env.scope x) (hop : OpR X (inplaceOp op) (rI C fun i j => .int (f i j))) (h : ED X e w)
    (hf : X.fn x = true ∨ X.env.scope.names.lookup x = some .local := by first | exact .inl rfl | exact .inr rfl | assumption) : SD1 X (.AugAssign (.Name x pos') op e pos) (wAug i C f w) := by
  refine ⟨fun D D' env k ⟨x, a, q⟩ => ⟨x, a, h.mo _ _ _ (fun d e ⟨z, y, c, q⟩ => ⟨z, y, c, k.nx _ q⟩) q⟩, ps_conv (ps_aug (ti := rI C fun i j => .int (f i j)) hN hi hx h.pe (fun pins s σ H x y v u Q I r1 r2 q => hop pins s σ H x y v u Q I r1 r2 q) hf) fun D σ H ⟨G, F, pc, env, r, x, hx, q⟩ => ?_⟩
  obtain ⟨v, hv, rv⟩ := r.cell i _ hx
  have ev := Rp.int_iff.mp (show Rp F (.int x) v from rv)
  subst ev
  refine ⟨_, hv, G, F, pc, env, r, h.mo _ _ _ (fun y e2 q2 v2 F2 pc2 H2 s2 p2 r2 rp2 => ?_) q⟩
  obtain ⟨z, ey, c, q2⟩ := q2
  subst ey
  exact ⟨x, z, rfl, Rp.int_iff.mp rp2, c, q2 _ F2 pc2 H2 s2 p2 (r2.setSh (by simp only [Rp]))⟩

/-! builtins by their name -/
abbrev BC := List PyData → (PyData → Prop) → Prop
def MoC (B : BC) : Prop := ∀ ds P P', (∀ z, P z → P' z) → B ds P → B ds P'
def COk (X : Cx) (B : BC) (r : List V → Hp → VK → Prop) : Prop := ∀ (G F : Hp) (pc : Pc) (env : Nv) (σ : L2.St) (H : Hp) (vs : List V) (ds : List PyData) (P : PyData → Prop) (Q : VK), Rel X.mg G F pc env σ H → RpL F ds vs → B ds P →
  (∀ z v F' H', P z → Same F F' → Rel X.mg G F' pc env σ H' → Rp F' z v → Q v H') → r vs H Q
def wCall (wA : WA) (B : BC) : WE := fun env P => wA env fun ds e => B ds fun z => P z e
theorem moCall {B : BC} (mB : MoC B) (mA : MoA wA) : MoE (wCall wA B) := fun env P P' k q => mA _ _ _ (fun ds e q => mB _ _ _ (fun z q => k _ _ q) q) q
theorem tW_call {B : BC} {r : List V → Hp → VK → Prop} (mB : MoC B) (ok : COk X B r) (mA : MoA wA) {σ : L2.St} {H : Hp} {Q : VK} (h : tW X.mg (wCall wA B) σ H Q) : tCB r (tA X.mg wA) σ H Q := by
  obtain ⟨G, F, pc, env, r0, q⟩ := h
  exact ⟨G, F, pc, env, r0, mA _ _ _ (fun ds e q2 vs F2 pc2 H2 s2 p2 r2 rp2 => ok G F2 pc2 e σ H2 vs ds _ Q r2 rp2 q2 fun z v F' H' pz s r' rz => pz v F' pc2 H' (s2.trans s) p2 r' rz) q⟩
theorem ed_callB {x : Str} {p : Pos} {id : String} {B : BC} {r : List V → Hp → VK → Prop} (mB : MoC B) (ok : COk X B r) (hc : CallR X (.builtin id) r) (hg : Gl X x) (hm : X.mg x = none) (hv : bootBuiltins x = some (.builtin id)) (ha : AD X (e :: es) wA)
    (hn : x ≠ "__name__" := by decide) (hdb : (x == ("__debug__" : Str)) = false := by decide) (he : starEach (e :: es) X.env = (false, eval e X.env) :: starEach es X.env := by rfl) (hpl : (backTo pos (starEach es X.env)).any (·.1) = false := by rfl) :
    ED X (.Call (.Name x p) (e :: es) [] pos) (wCall wA B) := ⟨moCall mB ha.mo, pe_conv (pe_callB hc hg hm hv ha.pa hn hdb he hpl) fun σ H Q h => tW_call mB ok ha.mo h⟩
theorem ed_callTy {x : Str} {p : Pos} {T : String} {B : BC} {r : List V → Hp → VK → Prop} (mB : MoC B) (ok : COk X B r) (hc : CallR X (.type T) r) (hg : Gl X x) (hm : X.mg x = none) (hv : bootBuiltins x = some (.type T)) (ha : AD X (e :: es) wA)
    (hn : x ≠ "__name__" := by decide) (hdb : (x == ("__debug__" : Str)) = false := by decide) (he : starEach (e :: es) X.env = (false, eval e X.env) :: starEach es X.env := by rfl) (hpl : (backTo pos (starEach es X.env)).any (·.1) = false := by rfl) :
    ED X (.Call (.Name x p) (e :: es) [] pos) (wCall wA B) := ⟨moCall mB ha.mo, pe_conv (pe_callTy hc hg hm hv ha.pa hn hdb he hpl) fun σ H Q h => tW_call mB ok ha.mo h⟩
/-- new lists -/
def COkO (X : Cx) (B : BC) (r : List V → Hp → VK → Prop) : Prop := ∀ (G F : Hp) (pc : Pc) (env : Nv) (σ : L2.St) (H : Hp) (vs : List V) (ds : List PyData) (P : PyData → Prop) (Q : VK), Rel X.mg G F pc env σ H → RpL F ds vs → B ds P →
  (∀ z a H', P z → Rel X.mg G F pc env σ H' → Frs G F pc env σ H' a z → Q (.ref a) H') → r vs H Q
theorem tO_call {B : BC} {r : List V → Hp → VK → Prop} (mB : MoC B) (ok : COkO X B r) (mA : MoA wA) {σ : L2.St} {H : Hp} {Q : VK} (h : tO X.mg (wCall wA B) σ H Q) : tCB r (tA X.mg wA) σ H Q := by
  obtain ⟨G, F, pc, env, r0, q⟩ := h
  exact ⟨G, F, pc, env, r0, mA _ _ _ (fun ds e q2 vs F2 pc2 H2 s2 p2 r2 rp2 => ok G F2 pc2 e σ H2 vs ds _ Q r2 rp2 q2 fun z a H' pz r' f => pz a F2 pc2 H' s2 p2 r' f) q⟩
theorem od_callB {x : Str} {p : Pos} {id : String} {B : BC} {r : List V → Hp → VK → Prop} (mB : MoC B) (ok : COkO X B r) (hc : CallR X (.builtin id) r) (hg : Gl X x) (hm : X.mg x = none) (hv : bootBuiltins x = some (.builtin id)) (ha : AD X (e :: es) wA)
    (hn : x ≠ "__name__" := by decide) (hdb : (x == ("__debug__" : Str)) = false := by decide) (he : starEach (e :: es) X.env = (false, eval e X.env) :: starEach es X.env := by rfl) (hpl : (backTo pos (starEach es X.env)).any (·.1) = false := by rfl) :
    OD X (.Call (.Name x p) (e :: es) [] pos) (wCall wA B) := ⟨moCall mB ha.mo, pe_conv (pe_callB hc hg hm hv ha.pa hn hdb he hpl) fun σ H Q h => tO_call mB ok ha.mo h⟩
theorem od_callTy {x : Str} {p : Pos} {T : String} {B : BC} {r : List V → Hp → VK → Prop} (mB : MoC B) (ok : COkO X B r) (hc : CallR X (.type T) r) (hg : Gl X x) (hm : X.mg x = none) (hv : bootBuiltins x = some (.type T)) (ha : AD X (e :: es) wA)
    (hn : x ≠ "__name__" := by decide) (hdb : (x == ("__debug__" : Str)) = false := by decide) (he : starEach (e :: es) X.env = (false, eval e X.env) :: starEach es X.env := by rfl) (hpl : (backTo pos (starEach es X.env)).any (·.1) = false := by rfl) :
    OD X (.Call (.Name x p) (e :: es) [] pos) (wCall wA B) := ⟨moCall mB ha.mo, pe_conv (pe_callTy hc hg hm hv ha.pa hn hdb he hpl) fun σ H Q h => tO_call mB ok ha.mo h⟩
theorem RpL.one {F : Hp} {d : PyData} {vs : List V} (h : RpL F [d] vs) : ∃ v, vs = [v] ∧ Rp F d v := by
  simp only [RpL] at h
  obtain ⟨v, r, e, f, g⟩ := h
  subst g
  exact ⟨v, e, f⟩
theorem RpL.two {F : Hp} {d d' : PyData} {vs : List V} (h : RpL F [d, d'] vs) : ∃ v v', vs = [v, v'] ∧ Rp F d v ∧ Rp F d' v' := by
  simp only [RpL] at h
  obtain ⟨v, r, e, f, v', r', e', f', g⟩ := h
  subst g e'
  exact ⟨v, v', e, f, f'⟩

/-! each of them -/
def absC : BC := fun ds P => ∃ i, ds = [.int i] ∧ P (.int (if i < 0 then -i else i))
theorem ok_abs : COk X absC (fun xs H Q => ∃ i, xs = [.int i] ∧ Q (.int (if i < 0 then -i else i)) H) := by
  intro G F pc env σ H vs ds P Q r rp ⟨i, e, p⟩ k
  subst e
  obtain ⟨v, ev, rv⟩ := rp.one
  subst ev
  exact ⟨i, by rw [Rp.int_iff.mp rv], k _ _ F H p (Same.refl _) r (by simp only [Rp])⟩
theorem ed_abs {p : Pos} (hg : Gl X "abs") (hm : X.mg "abs" = none) (ha : ED X e w) (hs : starEach [e] X.env = (false, eval e X.env) :: starEach [] X.env := by rfl) : ED X (.Call (.Name "abs" p) [e] [] pos) (wCall (wCons w wNil) absC) :=
  ed_callB (fun ds P P' k ⟨i, e, p⟩ => ⟨i, e, k _ p⟩) ok_abs call_abs hg hm (by decide +kernel) (ad_cons ha ad_nil hs) (he := hs)
def intC : BC := fun ds P => (∃ i, ds = [.int i] ∧ P (.int i)) ∨ ∃ k, ds = [.bool k] ∧ P (.int (if k then 1 else 0))
theorem ok_int : COk X intC (fun xs H Q => (∃ i, xs = [.int i] ∧ Q (.int i) H) ∨ ∃ k, xs = [.bl k] ∧ Q (.int (if k then 1 else 0)) H) := by
  intro G F pc env σ H vs ds P Q r rp q k
  rcases q with ⟨i, e, p⟩ | ⟨i, e, p⟩
  · subst e
    obtain ⟨v, ev, rv⟩ := rp.one
    subst ev
    exact .inl ⟨i, by rw [Rp.int_iff.mp rv], k _ _ F H p (Same.refl _) r (by simp only [Rp])⟩
  · subst e
    obtain ⟨v, ev, rv⟩ := rp.one
    subst ev
    exact .inr ⟨i, by rw [Rp.bool_iff.mp rv], k _ _ F H p (Same.refl _) r (by simp only [Rp])⟩
theorem ed_int' {p : Pos} (hg : Gl X "int") (hm : X.mg "int" = none) (ha : ED X e w) (hs : starEach [e] X.env = (false, eval e X.env) :: starEach [] X.env := by rfl) : ED X (.Call (.Name "int" p) [e] [] pos) (wCall (wCons w wNil) intC) :=
  ed_callTy (fun ds P P' k q => by
    rcases q with ⟨i, e, p⟩ | ⟨i, e, p⟩
    · exact .inl ⟨i, e, k _ p⟩
    · exact .inr ⟨i, e, k _ p⟩) ok_int call_int1 hg hm (by decide +kernel) (ad_cons ha ad_nil hs) (he := hs)
def maxC : BC := fun ds P => ∃ i j, ds = [.int i, .int j] ∧ P (.int (if j > i then j else i))
def minC : BC := fun ds P => ∃ i j, ds = [.int i, .int j] ∧ P (.int (if j < i then j else i))
theorem ok_max2 : COk X maxC (fun xs H Q => ∃ i j, xs = [.int i, .int j] ∧ Q (.int (if j > i then j else i)) H) := by
  intro G F pc env σ H vs ds P Q r rp ⟨i, j, e, p⟩ k
  subst e
  obtain ⟨v, v', ev, rv, rv'⟩ := rp.two
  subst ev
  exact ⟨i, j, by rw [Rp.int_iff.mp rv, Rp.int_iff.mp rv'], k _ _ F H p (Same.refl _) r (by simp only [Rp])⟩
theorem ok_min2 : COk X minC (fun xs H Q => ∃ i j, xs = [.int i, .int j] ∧ Q (.int (if j < i then j else i)) H) := by
  intro G F pc env σ H vs ds P Q r rp ⟨i, j, e, p⟩ k
  subst e
  obtain ⟨v, v', ev, rv, rv'⟩ := rp.two
  subst ev
  exact ⟨i, j, by rw [Rp.int_iff.mp rv, Rp.int_iff.mp rv'], k _ _ F H p (Same.refl _) r (by simp only [Rp])⟩
theorem ed_max2 {p : Pos} (hc : X.calm = true) (hg : Gl X "max") (hm : X.mg "max" = none) (h1 : ED X a w1) (h2 : ED X b w2) (hs : starEach [a, b] X.env = (false, eval a X.env) :: starEach [b] X.env := by rfl) (hs2 : starEach [b] X.env = (false, eval b X.env) :: starEach [] X.env := by rfl) (hpl : (backTo pos (starEach [b] X.env)).any (·.1) = false := by rfl) :
    ED X (.Call (.Name "max" p) [a, b] [] pos) (wCall (wCons w1 (wCons w2 wNil)) maxC) :=
  ed_callB (fun ds P P' k ⟨i, j, e, p⟩ => ⟨i, j, e, k _ p⟩) ok_max2 (call_max2 hc) hg hm (by decide +kernel) (ad_cons h1 (ad_cons h2 ad_nil hs2) hs) (he := hs) (hpl := hpl)
theorem ed_min2 {p : Pos} (hc : X.calm = true) (hg : Gl X "min") (hm : X.mg "min" = none) (h1 : ED X a w1) (h2 : ED X b w2) (hs : starEach [a, b] X.env = (false, eval a X.env) :: starEach [b] X.env := by rfl) (hs2 : starEach [b] X.env = (false, eval b X.env) :: starEach [] X.env := by rfl) (hpl : (backTo pos (starEach [b] X.env)).any (·.1) = false := by rfl) :
    ED X (.Call (.Name "min" p) [a, b] [] pos) (wCall (wCons w1 (wCons w2 wNil)) minC) :=
  ed_callB (fun ds P P' k ⟨i, j, e, p⟩ => ⟨i, j, e, k _ p⟩) ok_min2 (call_min2 hc) hg hm (by decide +kernel) (ad_cons h1 (ad_cons h2 ad_nil hs2) hs) (he := hs) (hpl := hpl)
def lenC : BC := fun ds P => ∃ d xs, ds = [d] ∧ itemsOf d = some xs ∧ P (.int xs.length)
theorem ok_len : COk X lenC (fun xs H Q => ∃ p ys, xs = [.ref p] ∧ (SqL X.K H p ys ∨ SqT X.K H p ys) ∧ Q (.int ys.length) H) := by
  intro G F pc env σ H vs ds P Q r rp ⟨d, xs, e, hi, p⟩ k
  subst e
  obtain ⟨v, ev, rv⟩ := rp.one
  subst ev
  cases d with
  | list es =>
    cases hi
    obtain ⟨a, us, e1, f, g⟩ := rv.list
    subst e1
    exact ⟨a, us, rfl, .inl (SqL.of (r.base.f _ _ f)), k _ _ F H p (Same.refl _) r (by simp only [Rp, g.len])⟩
  | tuple es =>
    cases hi
    obtain ⟨a, us, e1, f, g⟩ := rv.tuple
    subst e1
    exact ⟨a, us, rfl, .inr (SqT.of (r.base.f _ _ f)), k _ _ F H p (Same.refl _) r (by simp only [Rp, g.len])⟩
  | _ => cases hi
theorem ed_len {p : Pos} (hg : Gl X "len") (hm : X.mg "len" = none) (ha : ED X e w) (hs : starEach [e] X.env = (false, eval e X.env) :: starEach [] X.env := by rfl) : ED X (.Call (.Name "len" p) [e] [] pos) (wCall (wCons w wNil) lenC) :=
  ed_callB (fun ds P P' k ⟨d, i, e, h, p⟩ => ⟨d, i, e, h, k _ p⟩) ok_len call_len_seq hg hm PySem.boot_len (ad_cons ha ad_nil hs) (he := hs)
/-- len(name) in place -/
def wLenN (i : Nat) : WE := fun env P => ∃ d xs, slD env i = some d ∧ itemsOf d = some xs ∧ P (.int xs.length) env
theorem ed_lenN (i : Nat) {x : Str} {p npos : Pos} (hg : Gl X "len") (hm : X.mg "len" = none) (h : PE X (.Name x npos) (tVar i)) (hs : starEach [.Name x npos] X.env = (false, eval (.Name x npos) X.env) :: starEach [] X.env := by rfl) : ED X (.Call (.Name "len" p) [.Name x npos] [] pos) (wLenN i) := by
  refine ⟨fun env P P' k ⟨d, xs, x, y, q⟩ => ⟨d, xs, x, y, k _ _ q⟩, pe_conv (pe_callB call_len_seq hg hm PySem.boot_len (pa_cons h pa_nil hs) (he := hs)) fun σ H Q ⟨G, F, pc, env, r, d, xs, h1, h2, q⟩ => ?_⟩
  cases d with
  | list es =>
    cases h2
    obtain ⟨a, us, e1, f, g⟩ := slD_seq r h1
    exact ⟨_, e1, a, us, rfl, .inl (SqL.of f), q _ F pc H (Same.refl _) .refl r (by simp only [Rp, g.len])⟩
  | tuple es =>
    cases h2
    obtain ⟨a, us, e1, f, g⟩ := slD_tup r h1
    exact ⟨_, e1, a, us, rfl, .inr (SqT.of f), q _ F pc H (Same.refl _) .refl r (by simp only [Rp, g.len])⟩
  | _ => cases h2
def listC : BC := fun ds P => ∃ d xs, ds = [d] ∧ itemsOf d = some xs ∧ P (.list xs)
theorem ok_listO : COkO X listC (fun xs H Q => ∃ p ys, xs = [.ref p] ∧ (SqL X.K H p ys ∨ SqT X.K H p ys) ∧ ∀ l, H l = none → Q (.ref l) (upd H l (.lst ys))) := by
  intro G F pc env σ H vs ds P Q r rp ⟨d, xs, e, hi, p⟩ k
  subst e
  obtain ⟨v, ev, rv⟩ := rp.one
  subst ev
  cases d with
  | list es =>
    cases hi
    obtain ⟨a, us, e1, f, g⟩ := rv.list
    subst e1
    refine ⟨a, us, rfl, .inl (SqL.of (r.base.f _ _ f)), fun l hl => ?_⟩
    obtain ⟨r2, f2⟩ := r.newLstO hl g
    exact k _ _ _ p r2 f2
  | tuple es =>
    cases hi
    obtain ⟨a, us, e1, f, g⟩ := rv.tuple
    subst e1
    refine ⟨a, us, rfl, .inr (SqT.of (r.base.f _ _ f)), fun l hl => ?_⟩
    obtain ⟨r2, f2⟩ := r.newLstO hl g
    exact k _ _ _ p r2 f2
  | _ => cases hi
theorem od_list {p : Pos} (hg : Gl X "list") (hm : X.mg "list" = none) (ha : ED X e w) (hs : starEach [e] X.env = (false, eval e X.env) :: starEach [] X.env := by rfl) : OD X (.Call (.Name "list" p) [e] [] pos) (wCall (wCons w wNil) listC) :=
  od_callTy (fun ds P P' k ⟨d, i, e, h, p⟩ => ⟨d, i, e, h, k _ p⟩) ok_listO call_list_of hg hm (by decide +kernel) (ad_cons ha ad_nil hs) (he := hs)
def tupleC : BC := fun ds P => ∃ d xs, ds = [d] ∧ itemsOf d = some xs ∧ P (.tuple xs)
theorem ok_tuple : COk X tupleC (fun xs H Q => ∃ p ys, xs = [.ref p] ∧ ((SqL X.K H p ys ∧ ∀ l, H l = none → Q (.ref l) (upd H l (.tup ys))) ∨ (SqT X.K H p ys ∧ Q (.ref p) H))) := by
  intro G F pc env σ H vs ds P Q r rp ⟨d, xs, e, hi, p⟩ k
  subst e
  obtain ⟨v, ev, rv⟩ := rp.one
  subst ev
  cases d with
  | list es =>
    cases hi
    obtain ⟨a, us, e1, f, g⟩ := rv.list
    subst e1
    refine ⟨a, us, rfl, .inl ⟨SqL.of (r.base.f _ _ f), fun l hl => ?_⟩⟩
    obtain ⟨r2, s2, rp2⟩ := r.newTup hl g
    exact k _ _ _ _ p s2 r2 rp2
  | tuple es =>
    cases hi
    obtain ⟨a, us, e1, f, g⟩ := rv.tuple
    subst e1
    exact ⟨a, us, rfl, .inr ⟨SqT.of (r.base.f _ _ f), k _ _ F H p (Same.refl _) r rv⟩⟩
  | _ => cases hi
theorem ed_tuple {p : Pos} (hg : Gl X "tuple") (hm : X.mg "tuple" = none) (ha : ED X e w) (hs : starEach [e] X.env = (false, eval e X.env) :: starEach [] X.env := by rfl) : ED X (.Call (.Name "tuple" p) [e] [] pos) (wCall (wCons w wNil) tupleC) :=
  ed_callTy (fun ds P P' k ⟨d, i, e, h, p⟩ => ⟨d, i, e, h, k _ p⟩) ok_tuple call_tuple_of hg hm (by decide +kernel) (ad_cons ha ad_nil hs) (he := hs)
def sumC : BC := fun ds P => ∃ ns : List Int, ds = [.list (ns.map .int)] ∧ P (.int ns.sum)
theorem ok_sum : COk X sumC (rSum X.K) := by
  intro G F pc env σ H vs ds P Q r rp ⟨ns, e, p⟩ k
  subst e
  obtain ⟨v, ev, rv⟩ := rp.one
  subst ev
  obtain ⟨a, us, e1, f, g⟩ := rv.list
  subst e1
  have := g.int; subst this
  exact ⟨a, ns, rfl, SqL.of (r.base.f _ _ f), k _ _ F H p (Same.refl _) r (by simp only [Rp])⟩
theorem ed_sum {p : Pos} (hc : X.calm = true) (hg : Gl X "sum") (hm : X.mg "sum" = none) (ha : ED X e w) (hs : starEach [e] X.env = (false, eval e X.env) :: starEach [] X.env := by rfl) : ED X (.Call (.Name "sum" p) [e] [] pos) (wCall (wCons w wNil) sumC) :=
  ed_callB (fun ds P P' k ⟨i, e, p⟩ => ⟨i, e, k _ p⟩) ok_sum (cr_sum hc) hg hm (by decide +kernel) (ad_cons ha ad_nil hs) (he := hs)
def allC : BC := fun ds P => ∃ bs : List Bool, ds = [.list (bs.map .bool)] ∧ P (.bool (bs.all id))
theorem ok_all : COk X allC (rAll X.K) := by
  intro G F pc env σ H vs ds P Q r rp ⟨ns, e, p⟩ k
  subst e
  obtain ⟨v, ev, rv⟩ := rp.one
  subst ev
  obtain ⟨a, us, e1, f, g⟩ := rv.list
  subst e1
  have := g.bls; subst this
  exact ⟨a, ns, rfl, SqL.of (r.base.f _ _ f), k _ _ F H p (Same.refl _) r (by simp only [Rp])⟩
theorem ed_all {p : Pos} (hc : X.calm = true) (hg : Gl X "all") (hm : X.mg "all" = none) (ha : ED X e w) (hs : starEach [e] X.env = (false, eval e X.env) :: starEach [] X.env := by rfl) : ED X (.Call (.Name "all" p) [e] [] pos) (wCall (wCons w wNil) allC) :=
  ed_callB (fun ds P P' k ⟨i, e, p⟩ => ⟨i, e, k _ p⟩) ok_all (cr_all hc) hg hm (by decide +kernel) (ad_cons ha ad_nil hs) (he := hs)
def max1C : BC := fun ds P => ∃ ns : List Int, ds = [.list (ns.map .int)] ∧ 0 < ns.length ∧ ∀ m, m ∈ ns → (∀ y, y ∈ ns → y ≤ m) → P (.int m)
theorem ok_max1 : COk X max1C (rMax X.K) := by
  intro G F pc env σ H vs ds P Q r rp ⟨ns, e, hl, p⟩ k
  subst e
  obtain ⟨v, ev, rv⟩ := rp.one
  subst ev
  obtain ⟨a, us, e1, f, g⟩ := rv.list
  subst e1
  have := g.int; subst this
  exact ⟨a, ns, rfl, SqL.of (r.base.f _ _ f), hl, fun m h1 h2 => k _ _ F H (p m h1 h2) (Same.refl _) r (by simp only [Rp])⟩
theorem ed_max1 {p : Pos} (hc : X.calm = true) (hg : Gl X "max") (hm : X.mg "max" = none) (ha : ED X e w) (hs : starEach [e] X.env = (false, eval e X.env) :: starEach [] X.env := by rfl) : ED X (.Call (.Name "max" p) [e] [] pos) (wCall (wCons w wNil) max1C) :=
  ed_callB (fun ds P P' k ⟨i, e, l, p⟩ => ⟨i, e, l, fun m h1 h2 => k _ (p m h1 h2)⟩) ok_max1 (cr_max hc) hg hm (by decide +kernel) (ad_cons ha ad_nil hs) (he := hs)
def min1C : BC := fun ds P => ∃ ns : List Int, ds = [.list (ns.map .int)] ∧ 0 < ns.length ∧ ∀ m, m ∈ ns → (∀ y, y ∈ ns → m ≤ y) → P (.int m)
theorem ok_min1 : COk X min1C (rMin X.K) := by
  intro G F pc env σ H vs ds P Q r rp ⟨ns, e, hl, p⟩ k
  subst e
  obtain ⟨v, ev, rv⟩ := rp.one
  subst ev
  obtain ⟨a, us, e1, f, g⟩ := rv.list
  subst e1
  have := g.int; subst this
  exact ⟨a, ns, rfl, SqL.of (r.base.f _ _ f), hl, fun m h1 h2 => k _ _ F H (p m h1 h2) (Same.refl _) r (by simp only [Rp])⟩
theorem ed_min1 {p : Pos} (hc : X.calm = true) (hg : Gl X "min") (hm : X.mg "min" = none) (ha : ED X e w) (hs : starEach [e] X.env = (false, eval e X.env) :: starEach [] X.env := by rfl) : ED X (.Call (.Name "min" p) [e] [] pos) (wCall (wCons w wNil) min1C) :=
  ed_callB (fun ds P P' k ⟨i, e, l, p⟩ => ⟨i, e, l, fun m h1 h2 => k _ (p m h1 h2)⟩) ok_min1 (cr_min hc) hg hm (by decide +kernel) (ad_cons ha ad_nil hs) (he := hs)
def sortedC : BC := fun ds P => ∃ ns : List Int, ds = [.list (ns.map .int)] ∧ ∀ ms : List Int, ms.Perm ns → ms.Pairwise (· ≤ ·) → P (.list (ms.map .int))
theorem ok_sortedO : COkO X sortedC (rSortedI X.K) := by
  intro G F pc env σ H vs ds P Q r rp ⟨ns, e, p⟩ k
  subst e
  obtain ⟨v, ev, rv⟩ := rp.one
  subst ev
  obtain ⟨a, us, e1, f, g⟩ := rv.list
  subst e1
  have := g.int; subst this
  refine ⟨a, ns, rfl, SqL.of (r.base.f _ _ f), fun ms l h1 h2 hl => ?_⟩
  obtain ⟨r2, f2⟩ := r.newLstO hl (RpL.ofInt ms)
  exact k _ _ _ (p ms h1 h2) r2 f2
theorem od_sorted {p : Pos} (hg : Gl X "sorted") (hm : X.mg "sorted" = none) (ha : ED X e w) (hs : starEach [e] X.env = (false, eval e X.env) :: starEach [] X.env := by rfl) : OD X (.Call (.Name "sorted" p) [e] [] pos) (wCall (wCons w wNil) sortedC) :=
  od_callB (fun ds P P' k ⟨i, e, p⟩ => ⟨i, e, fun m h1 h2 => k _ (p m h1 h2)⟩) ok_sortedO cr_sortedI hg hm (by decide +kernel) (ad_cons ha ad_nil hs) (he := hs)
/-- list(range(..)), tuple(range(..)) -/
theorem rgV_rp {F : Hp} (a b : Int) : RpL F (rgD a (b - a).toNat) (rgV a b) := by
  have : rgD a (b - a).toNat = ((List.range (b - a).toNat).map fun (i : Nat) => a + (i : Int)).map .int := by simp [rgD]
  rw [this]
  have h2 : rgV a b = ((List.range (b - a).toNat).map fun (i : Nat) => a + (i : Int)).map V.int := by simp [rgV]
  rw [h2]
  exact RpL.ofInt _
def wLRg1 (w : WE) : WE := fun env P => w env fun d e => ∃ n : Int, d = .int n ∧ n ≤ 10000000 ∧ -10000000 ≤ n ∧ P (.list (rgD 0 n.toNat)) e
def wTRg1 (w : WE) : WE := fun env P => w env fun d e => ∃ n : Int, d = .int n ∧ n ≤ 10000000 ∧ -10000000 ≤ n ∧ P (.tuple (rgD 0 n.toNat)) e
theorem od_lrg1 {p p2 pos2 : Pos} (hc : X.calm = true) (hg : Gl X "list") (hm : X.mg "list" = none) (hg2 : Gl X "range") (hm2 : X.mg "range" = none) (h : ED X a w) (na : starEach [a] X.env = (false, eval a X.env) :: starEach [] X.env := by rfl)
    (na2 : starEach [.Call (.Name "range" p2) [a] [] pos2] X.env = (false, eval (.Call (.Name "range" p2) [a] [] pos2) X.env) :: starEach [] X.env := by rfl) : OD X (.Call (.Name "list" p) [.Call (.Name "range" p2) [a] [] pos2] [] pos) (wLRg1 w) := by
  refine ⟨fun env P P' k q => h.mo _ _ _ (fun d e ⟨n, x, y, z, q⟩ => ⟨n, x, y, z, k _ _ q⟩) q, pe_conv (pe_listRg hc hg hm (prg_1 hg2 hm2 h.pe na) na2) fun σ H Q ⟨G, F, pc, env, r, q⟩ => ⟨G, F, pc, env, r, h.mo _ _ _ (fun d e ⟨n, x, y, z, q⟩ v F' pc' H' s p r' rp => ?_) q⟩⟩
  subst x
  refine ⟨n, Rp.int_iff.mp rp, ⟨by omega, by omega, by omega, by omega, by omega⟩, fun l hl => ?_⟩
  obtain ⟨r2, f2⟩ := r'.newLstO hl (rgV_rp 0 n)
  rw [Int.sub_zero] at f2
  exact q _ F' pc' _ s p r2 f2
theorem ed_trg1 {p p2 pos2 : Pos} (hc : X.calm = true) (hg : Gl X "tuple") (hm : X.mg "tuple" = none) (hg2 : Gl X "range") (hm2 : X.mg "range" = none) (h : ED X a w) (na : starEach [a] X.env = (false, eval a X.env) :: starEach [] X.env := by rfl)
    (na2 : starEach [.Call (.Name "range" p2) [a] [] pos2] X.env = (false, eval (.Call (.Name "range" p2) [a] [] pos2) X.env) :: starEach [] X.env := by rfl) : ED X (.Call (.Name "tuple" p) [.Call (.Name "range" p2) [a] [] pos2] [] pos) (wTRg1 w) := by
  refine ⟨fun env P P' k q => h.mo _ _ _ (fun d e ⟨n, x, y, z, q⟩ => ⟨n, x, y, z, k _ _ q⟩) q, pe_conv (pe_tupRg hc hg hm (prg_1 hg2 hm2 h.pe na) na2) fun σ H Q ⟨G, F, pc, env, r, q⟩ => ⟨G, F, pc, env, r, h.mo _ _ _ (fun d e ⟨n, x, y, z, q⟩ v F' pc' H' s p r' rp => ?_) q⟩⟩
  subst x
  refine ⟨n, Rp.int_iff.mp rp, ⟨by omega, by omega, by omega, by omega, by omega⟩, fun l hl => ?_⟩
  obtain ⟨r2, s2, rp2⟩ := r'.newTup hl (rgV_rp 0 n)
  rw [Int.sub_zero] at rp2
  exact q _ _ pc' _ (s.trans s2) p r2 rp2
/-- isinstance(e, T), T a built-in class -/
def tyN : PyData → String
  | .none => "NoneType"
  | .bool _ => "bool"
  | .int _ => "int"
  | .str _ => "str"
  | .list _ => "list"
  | .tuple _ => "tuple"
  | .dict _ => "dict"
theorem Rp.ty {K : PySem.W.Frag} {F H : Hp} (s : Same F H) : ∀ {d : PyData} {v : V}, Rp F d v → TyX K H v (.type (tyN d))
  | .none, v, r => by rw [Rp.none_iff.mp r]; exact .base .non
  | .bool b, v, r => by rw [Rp.bool_iff.mp r]; exact .base (.bl b)
  | .int i, v, r => by rw [Rp.int_iff.mp r]; exact .base (.int i)
  | .str x, v, r => by rw [Rp.str_iff.mp r]; exact .base (.str x)
  | .list ds, v, r => by obtain ⟨a, vs, e, f, _⟩ := r.list; rw [e]; exact .base (.lst (s _ _ f))
  | .tuple ds, v, r => by obtain ⟨a, vs, e, f, _⟩ := r.tuple; rw [e]; exact .base (.tup (s _ _ f))
  | .dict ds, v, r => by obtain ⟨a, vs, e, f, _⟩ := r.dict; rw [e]; exact .base (.dK (s _ _ f))
def wIsi (T : PyData → Bool) (w : WE) : WE := fun env P => w env fun d e => P (.bool (T d)) e
theorem ed_isi {x : Str} {n : String} {p p2 : Pos} {T : PyData → Bool} (hT : ∀ d, kitB (tyN d) n = some (T d)) (hg : Gl X "isinstance") (hm : X.mg "isinstance" = none) (hgx : Gl X x) (hmx : X.mg x = none) (hvx : bootBuiltins x = some (.type n)) (h : ED X e w)
    (hnx : x ≠ "__name__" := by decide) (hdx : (x == ("__debug__" : Str)) = false := by decide)
    (hs : starEach [e, .Name x p2] X.env = (false, eval e X.env) :: starEach [.Name x p2] X.env := by rfl) (hs2 : starEach [.Name x p2] X.env = (false, eval (.Name x p2) X.env) :: starEach [] X.env := by rfl) (hpl : (backTo pos (starEach [.Name x p2] X.env)).any (·.1) = false := by rfl) :
    ED X (.Call (.Name "isinstance" p) [e, .Name x p2] [] pos) (wIsi T w) := by
  refine ⟨fun env P P' k q => h.mo _ _ _ (fun d e q => k _ _ q) q, pe_conv (pe_callB call_isi hg hm (by decide +kernel) (pa_cons h.pe (pa_cons (pe_bltn (v := .ty n) hgx hmx hvx rfl hnx hdx) pa_nil hs2) hs) (he := hs) (hpl := hpl)) fun σ H Q ⟨G, F, pc, env, r, q⟩ => ⟨G, F, pc, env, r, h.mo _ _ _ (fun d e q v F' pc' H' s p r' rp => ?_) q⟩⟩
  exact ⟨v, .ty n, .type (tyN d), .type n, T d, rfl, .ty n, rp.ty r'.base.f, kit_ty (hT d), q _ F' pc' H' s p r' (by simp only [Rp])⟩
def isInt : PyData → Bool
  | .int _ => true
  | .bool _ => true
  | _ => false
def isBool : PyData → Bool
  | .bool _ => true
  | _ => false
def isTup : PyData → Bool
  | .tuple _ => true
  | _ => false
def isLst : PyData → Bool
  | .list _ => true
  | _ => false
theorem kit_int : ∀ d, kitB (tyN d) "int" = some (isInt d)
  | .none => (by decide +kernel : kitB "NoneType" "int" = some false)
  | .bool _ => (by decide +kernel : kitB "bool" "int" = some true)
  | .int _ => (by decide +kernel : kitB "int" "int" = some true)
  | .str _ => (by decide +kernel : kitB "str" "int" = some false)
  | .list _ => (by decide +kernel : kitB "list" "int" = some false)
  | .tuple _ => (by decide +kernel : kitB "tuple" "int" = some false)
  | .dict _ => (by decide +kernel : kitB "dict" "int" = some false)
theorem kit_bool : ∀ d, kitB (tyN d) "bool" = some (isBool d)
  | .none => (by decide +kernel : kitB "NoneType" "bool" = some false)
  | .bool _ => (by decide +kernel : kitB "bool" "bool" = some true)
  | .int _ => (by decide +kernel : kitB "int" "bool" = some false)
  | .str _ => (by decide +kernel : kitB "str" "bool" = some false)
  | .list _ => (by decide +kernel : kitB "list" "bool" = some false)
  | .tuple _ => (by decide +kernel : kitB "tuple" "bool" = some false)
  | .dict _ => (by decide +kernel : kitB "dict" "bool" = some false)
theorem kit_tuple : ∀ d, kitB (tyN d) "tuple" = some (isTup d)
  | .none => (by decide +kernel : kitB "NoneType" "tuple" = some false)
  | .bool _ => (by decide +kernel : kitB "bool" "tuple" = some false)
  | .int _ => (by decide +kernel : kitB "int" "tuple" = some false)
  | .str _ => (by decide +kernel : kitB "str" "tuple" = some false)
  | .list _ => (by decide +kernel : kitB "list" "tuple" = some false)
  | .tuple _ => (by decide +kernel : kitB "tuple" "tuple" = some true)
  | .dict _ => (by decide +kernel : kitB "dict" "tuple" = some false)
theorem kit_list : ∀ d, kitB (tyN d) "list" = some (isLst d)
  | .none => (by decide +kernel : kitB "NoneType" "list" = some false)
  | .bool _ => (by decide +kernel : kitB "bool" "list" = some false)
  | .int _ => (by decide +kernel : kitB "int" "list" = some false)
  | .str _ => (by decide +kernel : kitB "str" "list" = some false)
  | .list _ => (by decide +kernel : kitB "list" "list" = some true)
  | .tuple _ => (by decide +kernel : kitB "tuple" "list" = some false)
  | .dict _ => (by decide +kernel : kitB "dict" "list" = some false)
end
end DL
set_option Elab.async false
set_option linter.all false
set_option maxRecDepth 100000
set_option maxHeartbeats 1000000
set_option autoImplicit false
/-! DLg: defs of the text by their data; calls of them. -/
namespace DL
open PySem PySem.Spec PyProof.Rows L2

/-! what is handed over -/
def ClOk (M : Str → Option Value) (F : Hp) (pc : Pc) : Sl → V → Prop
  | .sh d, v => Rp F d v
  | .ow _, _ => False
  | .src, v => ∃ p c, pc = some (p, c) ∧ v = .ref p
  | .fn x, v => FnV M x v
inductive CsOk (M : Str → Option Value) (F : Hp) (pc : Pc) : List Sl → List V → Prop
  | nil : CsOk M F pc [] []
  | cons {c : Sl} {v : V} {cs : List Sl} {vs : List V} : ClOk M F pc c v → CsOk M F pc cs vs → CsOk M F pc (c :: cs) (v :: vs)
theorem PcLe.some {pc pc' : Pc} {p c : Addr} (h : PcLe pc pc') (e : pc = some (p, c)) : pc' = Option.some (p, c) := by
  rcases h with h | h
  · rw [e] at h; cases h
  · rw [h]; exact e
theorem ClOk.mono {M : Str → Option Value} {F F' : Hp} {pc pc' : Pc} {c : Sl} {v : V} (h : ClOk M F pc c v) (s : Same F F') (p : PcLe pc pc') : ClOk M F' pc' c v := by
  cases c with
  | sh d => exact Rp.mono s _ _ h
  | ow d => exact h
  | src => obtain ⟨q, c, e, e2⟩ := h; exact ⟨q, c, p.some e, e2⟩
  | fn x => exact h
theorem CsOk.mono {M : Str → Option Value} {F F' : Hp} {pc pc' : Pc} (s : Same F F') (p : PcLe pc pc') : ∀ {cs : List Sl} {vs : List V}, CsOk M F pc cs vs → CsOk M F' pc' cs vs
  | _, _, .nil => .nil
  | _, _, .cons h t => .cons (h.mono s p) (CsOk.mono s p t)
theorem CsOk.len {M : Str → Option Value} {F : Hp} {pc : Pc} : ∀ {cs : List Sl} {vs : List V}, CsOk M F pc cs vs → cs.length = vs.length
  | _, _, .nil => rfl
  | _, _, .cons _ t => by simp [CsOk.len t]
abbrev DSp := List Sl → (PyData → Prop) → Prop
def MoD (s : DSp) : Prop := ∀ cs P P', (∀ d, P d → P' d) → s cs P → s cs P'
def spD (M : Str → Option Value) (n : Nat) (s : DSp) : Sp := fun vs H Q _ => vs.length = n ∧ ∃ G F pc cs, RelC G F pc H ∧ CsOk M F pc cs vs ∧ s cs fun d => ∀ v F' pc' H', Same F F' → PcLe pc pc' → RelC G F' pc' H' → Rp F' d v → Q v H'
/-- a def's promise, where no repr is under way -/
structure FnG (P : Program) (w : World) (K : PySem.W.Frag) (mg : Str → Option Value) (base : Heap) (CX : CXT) (k : Nat) (f : Addr) (fd : FuncData) (ps : List Str) (sp : Sp) : Prop where
  len : ∀ vs H Q E, sp vs H Q E → vs.length = ps.length
  go : ∀ (A : Around) (around : List Env) (s : Shared) (H : Hp) (args : Args) (us : List Value) (vs : List V) (Q : VK) (E : XK), A.guards = some [] → Room k A → Env0 P w K mg base A around s H →
    BindsTo s fd args (ps.zip us) → Vals vs us → sp vs H Q E → codeAny (model P w) A (.call (.ref f) args) (CR CX around P w H s Q E) s
theorem FnG.of {P : Program} {w : World} {K : PySem.W.Frag} {mg : Str → Option Value} {base : Heap} {CX : CXT} {k : Nat} {f : Addr} {fd : FuncData} {ps : List Str} {sp : Sp} (F : FnOk P w K mg base CX k f fd ps sp) : FnG P w K mg base CX k f fd ps sp :=
  ⟨F.len, fun A around s H args us vs Q E _ => F.run A around s H args us vs Q E⟩
theorem FnG.up {P : Program} {w : World} {K : PySem.W.Frag} {mg : Str → Option Value} {base : Heap} {CX : CXT} {j k : Nat} {f : Addr} {fd : FuncData} {ps : List Str} {sp : Sp} (F : FnG P w K mg base CX j f fd ps sp) (h : j ≤ k) : FnG P w K mg base CX k f fd ps sp :=
  ⟨F.len, fun A around s H args us vs Q E hg hr => F.go A around s H args us vs Q E hg (hr.mono h)⟩
theorem FnG.weak {P : Program} {w : World} {K : PySem.W.Frag} {mg : Str → Option Value} {base : Heap} {CX : CXT} {k : Nat} {f : Addr} {fd : FuncData} {ps : List Str} {sp sp' : Sp} (F : FnG P w K mg base CX k f fd ps sp) (h : ∀ vs H Q E, sp' vs H Q E → sp vs H Q E) : FnG P w K mg base CX k f fd ps sp' :=
  ⟨fun vs H Q E q => F.len vs H Q E (h _ _ _ _ q), fun A around s H args us vs Q E hg hr e b r q => F.go A around s H args us vs Q E hg hr e b r (h _ _ _ _ q)⟩

/-- the rule for a def of the text, by its body -/
theorem Fun.okG {P : Program} {w : World} {K : PySem.W.Frag} {mg : Str → Option Value} {base : Heap} {CX : CXT} {x qual : Str} {st : Stmt} {f : Addr} {fd : FuncData} {N ps : List Str} {k : Nat} {sp : Sp} (F : Fun K x qual st f fd) (S : FnScope N ps (defScope st)) (len : ∀ vs H Q E, sp vs H Q E → vs.length = ps.length)
    (body : ∀ (cdv : Value) (A : Around) (around : List Env) (s : Shared) (H : Hp) (vs : List V) (Q : VK) (E : XK), A.guards = some [] → Room k (A.deeper (envOfC qual (defScope st) s.heap.objs.size f cdv)) → sp vs H Q E →
      ∃ t, PSs (cxOf CX P w K mg base N qual (defScope st) f cdv A around s H E) (defBody st) t ∧ t { nx := fun _ H' => Q .non H', rt := Q } (L2.start N vs) H) : FnG P w K mg base CX (k + 1) f fd ps sp := by
  obtain ⟨oc, od, kV, doc, pm, an, cdv, ct, osl, efd, look, code⟩ := F.ex
  subst efd
  refine ⟨len, ?_⟩
  intro A around s H args us vs Q E hg hr e0 hb hv want
  have inK : K.In s.heap := e0.mod.kin.keeps fun b o z => (e0.bs b o z).1
  have nol : s.heap.NoLimit := e0.mod.nolimit.keeps fun b o z => (e0.bs b o z).1
  have many : vs.length = ps.length := len _ _ _ _ want
  refine codeAny_call_function hr.depth (inK _ _ look) rfl S.co S.gen rfl (PySem.W.codeRec_of inK code) (hb _ _ _ _ ?_)
  refine wpAny_newFunctionEnv_cells S.kind (fun y hy => ?_) fun env henv s1 inside => ?_
  · have hy1 : y.1 ∈ ps := (List.of_mem_zip (show (y.1, y.2) ∈ ps.zip us from hy)).1
    rcases S.par y.1 hy1 with z | z
    · exact .inl z
    · exact .inr ⟨z, PySem.W.cellsFrom_some _ _ _ (.inl z)⟩
  · subst henv
    refine ⟨nol.keeps inside.toInCall.keep, codeAny_func ?_⟩
    obtain ⟨t, walk, reading⟩ := body cdv A around s H vs Q E hg (hr.deeper _) want
    have J : Inv (cxOf CX P w K mg base N qual (defScope st) f cdv A around s H E) [] (L2.start N vs) H s1 := inv_start S hr.hd e0 many hv inside
    refine wpAny_mono (walk.run [] s1 (L2.start N vs) H _ J reading) (fun flow s2 got => ?_) fun e s2 z => z
    cases flow with
    | next => obtain ⟨τ, H', J2, q⟩ := got; exact ⟨.non, H', J2.os, J2.bare, J2.base, J2.hok, rfl, q⟩
    | ret r => obtain ⟨v, τ, H', J2, rv, q⟩ := got; exact ⟨v, H', J2.os, J2.bare, J2.base, J2.hok, rv, q⟩
    | brk => obtain ⟨τ, H', J2, q⟩ := got; exact q.elim
    | cont => obtain ⟨τ, H', J2, q⟩ := got; exact q.elim

/-- what the own slots hold, set among what stays, while a def is called -/
theorem Rel.lend {M : Str → Option Value} {G F H : Hp} {pc : Pc} {env : Nv} {σ : L2.St} (r : Rel M G F pc env σ H) : ∃ G', RelC G' F pc H ∧ ∀ F' pc' H', Same F F' → PcLe pc pc' → RelC G' F' pc' H' → Rel M G F' pc' env σ H' := by
  classical
  let Ow : Addr → Prop := fun a => ∃ (i : Nat) (d : PyData), env[i]? = some (some (.ow d)) ∧ σ[i]? = some (some (.ref a))
  have at_ : ∀ a, Ow a → ∃ d, OwnAt G F pc H a d := fun a ⟨i, d, h1, h2⟩ => by
    obtain ⟨v, h3, b, h4, w⟩ := r.cell i _ h1
    rw [h2] at h3; cases h3; cases h4
    exact ⟨d, w⟩
  let G' : Hp := fun a => if Ow a then H a else G a
  have g1 : ∀ a, Ow a → G' a = H a := fun a h => if_pos h
  have g2 : ∀ a, ¬ Ow a → G' a = G a := fun a h => if_neg h
  refine ⟨G', ⟨fun a x e => ?_, r.base.f, fun a x e => ?_, fun p c e => ?_⟩, fun F' pc' H' s p rc => ?_⟩
  · by_cases h : Ow a
    · rw [g1 a h] at e; exact e
    · rw [g2 a h] at e; exact r.base.g _ _ e
  · have h : ¬ Ow a := fun h => by
      obtain ⟨d, w⟩ := at_ a h
      rw [w.f] at e; cases e
    rw [g2 a h]; exact r.base.fg _ _ e
  · obtain ⟨sr, a1, a2, a3, a4⟩ := r.base.src p c e
    have n1 : ¬ Ow p := fun h => by obtain ⟨d, w⟩ := at_ p h; exact (w.s p c e).1 rfl
    have n2 : ¬ Ow c := fun h => by obtain ⟨d, w⟩ := at_ c h; exact (w.s p c e).2 rfl
    exact ⟨sr, by rw [g2 p n1]; exact a1, by rw [g2 c n2]; exact a2, a3, a4⟩
  · have some_ : ∀ a, Ow a → ∃ x, G' a = some x := fun a h => by
      obtain ⟨d, w⟩ := at_ a h
      obtain ⟨o, ho⟩ := w.cnt.ex
      exact ⟨o, by rw [g1 a h]; exact ho⟩
    have nOf : ∀ a, G' a = none → ¬ Ow a := fun a e h => by
      obtain ⟨x, hx⟩ := some_ a h
      rw [e] at hx; cases hx
    refine ⟨⟨fun a x e => ?_, rc.f, fun a x e => ?_, fun q c e => ?_⟩, r.len, fun i c e => ?_, r.dis⟩
    · have h : ¬ Ow a := fun h => by
        obtain ⟨d, w⟩ := at_ a h
        rw [w.g] at e; cases e
      exact rc.g _ _ (by rw [g2 a h]; exact e)
    · have z := rc.fg _ _ e
      rw [g2 a (nOf a z)] at z; exact z
    · obtain ⟨sr, a1, a2, a3, a4⟩ := rc.src q c e
      exact ⟨sr, by rw [← g2 q (nOf q a1)]; exact a1, by rw [← g2 c (nOf c a2)]; exact a2, a3, a4⟩
    · obtain ⟨v, h1, h2⟩ := r.cell i c e
      refine ⟨v, h1, ?_⟩
      cases c with
      | sh d => exact Rp.mono s _ _ h2
      | ow d =>
        obtain ⟨a, ea, w⟩ := h2
        subst ea
        have ho : Ow a := ⟨i, d, e, h1⟩
        obtain ⟨x, hx⟩ := some_ a ho
        refine ⟨a, rfl, ?_, w.g, fun q c eq => ⟨fun z => ?_, fun z => ?_⟩, w.cnt.grow s fun o hh => ?_⟩
        · cases z : F' a with
          | none => rfl
          | some y => have := rc.fg _ _ z; rw [hx] at this; cases this
        · subst z
          obtain ⟨_, a1, _⟩ := rc.src _ _ eq
          rw [hx] at a1; cases a1
        · subst z
          obtain ⟨_, _, a2, _⟩ := rc.src _ _ eq
          rw [hx] at a2; cases a2
        · exact rc.g _ _ (by rw [g1 a ho]; exact hh)
      | src => obtain ⟨q, c, e1, e2⟩ := h2; exact ⟨q, c, p.some e1, e2⟩
      | fn x => exact h2

section
variable {X : Cx} {e : Expr} {es : List Expr} {w : WE} {pos : Pos}
/-! arguments -/
abbrev WC := Nv → (List Sl → Nv → Prop) → Prop
def MoCs (w : WC) : Prop := ∀ env P P', (∀ d e, P d e → P' d e) → w env P → w env P'
def tCs (M : Str → Option Value) (w : WC) : TA := fun σ H Q => ∃ G F pc env, Rel M G F pc env σ H ∧ w env fun cs env' => ∀ vs F' pc' H', Same F F' → PcLe pc pc' → Rel M G F' pc' env' σ H' → CsOk M F' pc' cs vs → Q vs H'
structure CD (X : Cx) (es : List Expr) (w : WC) : Prop where
  mo : MoCs w
  pa : PA X es (tCs X.mg w)
def wc0 : WC := fun env P => P [] env
def wcD (w : WE) (wr : WC) : WC := fun env P => w env fun d e => wr e fun cs e2 => P (.sh d :: cs) e2
def wcS (i : Nat) (wr : WC) : WC := fun env P => env[i]? = some (some .src) ∧ wr env fun cs e2 => P (.src :: cs) e2
def wcF (x : Str) (wr : WC) : WC := fun env P => wr env fun cs e2 => P (.fn x :: cs) e2
/-- a def in a slot, handed on -/
def wcV (i : Nat) (wr : WC) : WC := fun env P => ∃ x, env[i]? = some (some (.fn x)) ∧ wr env fun cs e2 => P (.fn x :: cs) e2
theorem cd_nil : CD X [] wc0 := ⟨fun env P P' k q => k _ _ q, pa_conv pa_nil fun σ H Q ⟨G, F, pc, env, r, q⟩ => q [] F pc H (Same.refl _) .refl r .nil⟩
theorem cd_cons {wr : WC} (h : ED X e w) (hr : CD X es wr) (hs : starEach (e :: es) X.env = (false, eval e X.env) :: starEach es X.env := by rfl) : CD X (e :: es) (wcD w wr) := by
  refine ⟨fun env P P' k q => h.mo _ _ _ (fun d e p => hr.mo _ _ _ (fun ds e p => k _ _ p) p) q, pa_conv (pa_cons h.pe hr.pa hs) fun σ H Q ⟨G, F, pc, env, r, q⟩ => ⟨G, F, pc, env, r, h.mo _ _ _ (fun d e q1 v F1 pc1 H1 s1 p1 r1 rp1 => ?_) q⟩⟩
  exact ⟨G, F1, pc1, e, r1, hr.mo _ _ _ (fun cs e q2 vs F2 pc2 H2 s2 p2 r2 rp2 => q2 _ F2 pc2 H2 (s1.trans s2) (p1.trans p2) r2 (.cons (show ClOk X.mg F2 pc2 (.sh d) v from Rp.mono s2 _ _ rp1) rp2)) q1⟩
theorem cd_src (i : Nat) {x : Str} {npos : Pos} {wr : WC} (h : PE X (.Name x npos) (tVar i)) (hr : CD X es wr) (hs : starEach (.Name x npos :: es) X.env = (false, eval (.Name x npos) X.env) :: starEach es X.env := by rfl) : CD X (.Name x npos :: es) (wcS i wr) := by
  refine ⟨fun env P P' k q => ⟨q.1, hr.mo _ _ _ (fun ds e p => k _ _ p) q.2⟩, pa_conv (pa_cons h hr.pa hs) fun σ H Q ⟨G, F, pc, env, r, q⟩ => ?_⟩
  obtain ⟨v, hv, p, c, e1, e2⟩ := r.cell i _ q.1
  refine ⟨v, hv, G, F, pc, env, r, hr.mo _ _ _ (fun cs e q2 vs F2 pc2 H2 s2 p2 r2 rp2 => q2 _ F2 pc2 H2 s2 p2 r2 (.cons (show ClOk X.mg F2 pc2 .src v from ⟨p, c, p2.some e1, e2⟩) rp2)) q.2⟩
theorem cd_fn {x : Str} {npos : Pos} {f : Addr} {wr : WC} (hg : Gl X x) (hm : X.mg x = some (.ref f)) (hr : CD X es wr) (hs : starEach (.Name x npos :: es) X.env = (false, eval (.Name x npos) X.env) :: starEach es X.env := by rfl) (hd : (x == ("__debug__" : Str)) = false := by decide) : CD X (.Name x npos :: es) (wcF x wr) := by
  refine ⟨fun env P P' k q => hr.mo _ _ _ (fun ds e p => k _ _ p) q, pa_conv (pa_cons (pe_glob (v := .ref f) hg hm rfl hd) hr.pa hs) fun σ H Q ⟨G, F, pc, env, r, q⟩ => ?_⟩
  exact ⟨G, F, pc, env, r, hr.mo _ _ _ (fun cs e q2 vs F2 pc2 H2 s2 p2 r2 rp2 => q2 _ F2 pc2 H2 s2 p2 r2 (.cons (show ClOk X.mg F2 pc2 (.fn x) (.ref f) from ⟨f, hm, rfl⟩) rp2)) q⟩
theorem cd_var (i : Nat) {x : Str} {npos : Pos} {wr : WC} (h : PE X (.Name x npos) (tVar i)) (hr : CD X es wr) (hs : starEach (.Name x npos :: es) X.env = (false, eval (.Name x npos) X.env) :: starEach es X.env := by rfl) : CD X (.Name x npos :: es) (wcV i wr) := by
  refine ⟨fun env P P' k ⟨y, z, q⟩ => ⟨y, z, hr.mo _ _ _ (fun ds e p => k _ _ p) q⟩, pa_conv (pa_cons h hr.pa hs) fun σ H Q ⟨G, F, pc, env, r, y, z, q⟩ => ?_⟩
  obtain ⟨v, hv, hf⟩ := r.cell i _ z
  refine ⟨v, hv, G, F, pc, env, r, hr.mo _ _ _ (fun cs e q2 vs F2 pc2 H2 s2 p2 r2 rp2 => q2 _ F2 pc2 H2 s2 p2 r2 (.cons (show ClOk X.mg F2 pc2 (.fn y) v from hf) rp2)) q⟩
/-! the call -/
def wUser (s : DSp) (w : WC) : WE := fun env P => w env fun cs e => s cs fun d => P d e
theorem run_fnG {CX : CXT} {k : Nat} {f : Addr} {fd : FuncData} {ps : List Str} {sp : Sp} {E : XK} {pins : List (Addr × Obj)} {σ : L2.St} {H : Hp} {s : Shared} {Q : VK} {us : List Value} {vs : List V} (F : FnG X.prog X.w X.K X.mg X.base CX k f fd ps sp) (hgd : X.A.guards = some []) (hr : Room k X.A) (hb : Binds X.K fd ps []) (hx : Passes CX X E)
    (I : Inv X pins σ H s) (r : Vals vs us) (h : sp vs H Q E) : wpAny (model X.prog X.w) X.A (call (.ref f) us) (EP X pins σ Q) X.xe s := by
  have hl : us.length = ps.length := by rw [← r.length]; exact F.len _ _ _ _ h
  have hb2 := hb s us I.kIn (by rw [List.append_nil]; exact hl)
  rw [List.append_nil] at hb2
  refine wpAny_call (codeAny_mono (F.go X.A X.stack s H ⟨us, []⟩ us vs Q E hgd hr I.env0 hb2 r h) fun res s2 got => ?_)
  match res, got with
  | .error e, got => exact hx pins σ H s e s2 I got
  | .ok (.ret u), got => exact I.after got
  | .ok .next, got => exact got.elim
  | .ok .brk, got => exact got.elim
  | .ok .cont, got => exact got.elim
theorem ed_call {k : Nat} {f : Addr} {fd : FuncData} {ps : List Str} {x : Str} {p : Pos} {s : DSp} {wc : WC} (ms : MoD s) (F : FnG X.prog X.w X.K X.mg X.base CX0 k f fd ps (spD X.mg ps.length s)) (hgd : X.A.guards = some []) (hr : Room k X.A) (hg : Gl X x) (hm : X.mg x = some (.ref f)) (hk : PySem.W.keepIn X.K (.ref f) = true) (hb : Binds X.K fd ps [])
    (ha : CD X (e :: es) wc) (hn : ∀ env P, wc env P → wc env fun cs e2 => cs.length = ps.length ∧ P cs e2) (hdb : (x == ("__debug__" : Str)) = false := by decide) (he : starEach (e :: es) X.env = (false, eval e X.env) :: starEach es X.env := by rfl) (hpl : (backTo pos (starEach es X.env)).any (·.1) = false := by rfl) :
    ED X (.Call (.Name x p) (e :: es) [] pos) (wUser s wc) := by
  refine ⟨fun env P P' k q => ha.mo _ _ _ (fun cs e q => ms _ _ _ (fun d q => k _ _ q) q) q, ⟨fun pins st σ H Q I ⟨G, F0, pc, env, r, q⟩ => ?_⟩⟩
  refine wpAny_Call_Name_kw (ld_glob I hg hm ?_ hdb)
  refine PySem.W.callWith_K (h₀ := X.base) I.ok.mod.kin hk (thn (ha.pa.run pos pins st σ H (fun vs H1 => spD X.mg ps.length s vs H1 Q E0) I ⟨G, F0, pc, env, r, ha.mo _ _ _ (fun cs e2 q1 vs F1 pc1 H1 s1 p1 r1 c1 => ?_) (hn _ _ q)⟩) fun us s1 ⟨vs, H1, I1, r1, q⟩ => ⟨I1.kIn, ?_⟩) he hpl
  · obtain ⟨hlen, q1⟩ := q1
    obtain ⟨G', rc, back⟩ := r1.lend
    refine ⟨by rw [← c1.len]; exact hlen, G', F1, pc1, cs, rc, c1, ms _ _ _ (fun d q2 v F' pc' H' s2 p2 rc2 rp => ?_) q1⟩
    exact q2 v F' pc' H' (s1.trans s2) (p1.trans p2) (back F' pc' H' s2 p2 rc2) rp
  · exact run_fnG F hgd hr hb pass0 I1 r1 q
end

/-! a def's body keeps its promise -/
def envOf (N : List Str) (cs : List Sl) : Nv := cs.map some ++ List.replicate (N.length - cs.length) none
theorem rel_start {M : Str → Option Value} {G F H : Hp} {pc : Pc} {N : List Str} {cs : List Sl} {vs : List V} (rc : RelC G F pc H) (c : CsOk M F pc cs vs) : Rel M G F pc (envOf N cs) (L2.start N vs) H := by
  have hl := c.len
  have noow : ∀ (cs : List Sl) (vs : List V), CsOk M F pc cs vs → ∀ (i : Nat) (c : Sl), cs[i]? = some c → ∃ v, vs[i]? = some v ∧ ClOk M F pc c v := by
    intro cs vs c
    induction c with
    | nil => intro i c e; simp at e
    | cons h t ih =>
      intro i c e
      cases i with
      | zero => simp at e; subst e; exact ⟨_, rfl, h⟩
      | succ i => obtain ⟨v, h1, h2⟩ := ih i c (by simpa using e); exact ⟨v, by simpa using h1, h2⟩
  have here : ∀ (i : Nat) (c : Sl), (envOf N cs)[i]? = some (some c) → cs[i]? = some c := fun i c e => by
    unfold envOf at e
    by_cases hi : i < cs.length
    · rw [List.getElem?_append_left (by simpa using hi), List.getElem?_map] at e
      cases q : cs[i]? with
      | none => rw [q] at e; cases e
      | some y => rw [q] at e; cases e; rfl
    · rw [List.getElem?_append_right (by simpa using hi), List.getElem?_replicate] at e
      split at e <;> cases e
  refine ⟨rc, ?_, fun i c' e => ?_, fun i j a d d2 hij e1 e2 => ?_⟩
  · unfold envOf L2.start
    simp [hl]
  · have e1 := here i c' e
    obtain ⟨v, h1, h2⟩ := noow cs vs c i c' e1
    refine ⟨v, ?_, ?_⟩
    · unfold L2.start
      have hi : i < vs.length := (List.getElem?_eq_some_iff.mp h1).1
      rw [List.getElem?_append_left (by simpa using hi), List.getElem?_map, h1]
      rfl
    · cases c' with
      | sh d => exact h2
      | ow d => exact h2.elim
      | src => exact h2
      | fn x => exact h2
  · obtain ⟨v, _, h2⟩ := noow cs vs c i _ (here i _ e1)
    exact h2.elim
theorem Fun.okD {P : Program} {w : World} {K : PySem.W.Frag} {mg : Str → Option Value} {base : Heap} {x qual : Str} {st : Stmt} {f : Addr} {fd : FuncData} {N ps : List Str} {k : Nat} {u : WS} {s : DSp} (F : Fun K x qual st f fd) (S : FnScope N ps (defScope st))
    (body : ∀ X : Cx, (∃ (cdv : Value) (A : Around) (around : List Env) (sh : Shared) (H : Hp) (E : XK), X = (cxOf CX0 P w K mg base N qual (defScope st) f cdv A around sh H E).nox) → X.A.guards = some [] → Room k X.A → BD X (defBody st) u)
    (hu : ∀ cs Q, cs.length = ps.length → s cs Q → u ⟨fun _ => Q .none, Q⟩ (envOf N cs)) : FnG P w K mg base CX0 (k + 1) f fd ps (spD mg ps.length s) := by
  refine Fun.okG F S (fun vs H Q E q => q.1) fun cdv A around sh H vs Q E hg hr q => ?_
  have B := body _ ⟨cdv, A, around, sh, H, E, rfl⟩ hg hr
  obtain ⟨hl, G, F0, pc, cs, rc, c, q⟩ := q
  refine ⟨_, B.pss.nox, G, F0, pc, envOf N cs, rel_start rc c, ?_⟩
  let Q' : PyData → Prop := fun d => ∀ v F' pc' H', Same F0 F' → PcLe pc pc' → RelC G F' pc' H' → Rp F' d v → Q v H'
  refine B.mo ⟨fun _ => Q' .none, Q'⟩ _ _ ⟨fun e q σ' F' pc' H' s p r => ?_, fun d q v F' pc' H' s p r rp => q v F' pc' H' s p r rp⟩ (hu cs Q' (by rw [c.len]; exact hl) q)
  exact q .non F' pc' H' s p r.base (by simp only [Rp])
end DL
set_option Elab.async false
set_option linter.all false
set_option maxRecDepth 100000
set_option maxHeartbeats 1000000
set_option autoImplicit false
/-! DLh: the source, the law's call. -/
namespace DL
open PySem PySem.Spec PyProof.Rows L2

/-! the source at work -/
structure SrcV (H : Hp) (p c : Addr) (cells : List Int) (left mixed turn : Int) : Prop where
  d : H p = some (.dK [(.inr "cells", .ref c), (.inr "left", .int left), (.inr "mixed", .int mixed), (.inr "turn", .int turn)])
  l : H c = some (.lst (cells.map V.int))
  ne : p ≠ c
theorem SrcV.cells {H : Hp} {p c : Addr} {cs : List Int} {l m t : Int} (s : SrcV H p c cs l m t) : DGet H p (.str "cells") (some (.ref c)) := DGet.k (k := .inr "cells") s.d
theorem SrcV.left {H : Hp} {p c : Addr} {cs : List Int} {l m t : Int} (s : SrcV H p c cs l m t) : DGet H p (.str "left") (some (.int l)) := DGet.k (k := .inr "left") s.d
theorem SrcV.mixed {H : Hp} {p c : Addr} {cs : List Int} {l m t : Int} (s : SrcV H p c cs l m t) : DGet H p (.str "mixed") (some (.int m)) := DGet.k (k := .inr "mixed") s.d
theorem SrcV.turn {H : Hp} {p c : Addr} {cs : List Int} {l m t : Int} (s : SrcV H p c cs l m t) : DGet H p (.str "turn") (some (.int t)) := DGet.k (k := .inr "turn") s.d
theorem SrcV.pop {H : Hp} {p c : Addr} {cs : List Int} {l m t : Int} (s : SrcV H p c cs l m t) : SrcV (upd H c (.lst (cs.dropLast.map V.int))) p c cs.dropLast l m t :=
  ⟨by rw [upd_ne s.ne]; exact s.d, upd_same, s.ne⟩
theorem small4 : (4 : Nat) < sizeLine := by decide
theorem SrcV.setLeft {H : Hp} {p c : Addr} {cs : List Int} {l m t : Int} (s : SrcV H p c cs l m t) (x : Int) : ∃ H', DPut H p (.str "left") (.int x) H' ∧ SrcV H' p c cs x m t ∧ ∀ b, b ≠ p → b ≠ c → H' b = H b :=
  ⟨_, DPut.k (k := .inr "left") s.d small4, ⟨by rw [upd_same]; rfl, by rw [upd_ne s.ne.symm]; exact s.l, s.ne⟩, fun b h _ => upd_ne h⟩
theorem SrcV.setMixed {H : Hp} {p c : Addr} {cs : List Int} {l m t : Int} (s : SrcV H p c cs l m t) (x : Int) : ∃ H', DPut H p (.str "mixed") (.int x) H' ∧ SrcV H' p c cs l x t ∧ ∀ b, b ≠ p → b ≠ c → H' b = H b :=
  ⟨_, DPut.k (k := .inr "mixed") s.d small4, ⟨by rw [upd_same]; rfl, by rw [upd_ne s.ne.symm]; exact s.l, s.ne⟩, fun b h _ => upd_ne h⟩
theorem SrcV.setTurn {H : Hp} {p c : Addr} {cs : List Int} {l m t : Int} (s : SrcV H p c cs l m t) (x : Int) : ∃ H', DPut H p (.str "turn") (.int x) H' ∧ SrcV H' p c cs l m x ∧ ∀ b, b ≠ p → b ≠ c → H' b = H b :=
  ⟨_, DPut.k (k := .inr "turn") s.d small4, ⟨by rw [upd_same]; rfl, by rw [upd_ne s.ne.symm]; exact s.l, s.ne⟩, fun b h _ => upd_ne h⟩
/-- a pick's promise -/
def spPick : Sp := fun vs H Q _ => ∃ p c n, vs = [.ref p, .int n] ∧ SrcAt H p c ∧ p ≠ c ∧ n < 2 ^ 62 ∧ ∀ H' i, 0 ≤ i → i < max 1 n → SrcAt H' p c → (∀ b, b ≠ p → b ≠ c → H' b = H b) → Q (.int i) H'
def spSource (K : PySem.W.Frag) : Sp := fun vs H Q _ => ∃ (a : Addr) (ns : List Int), vs = [.ref a] ∧ SqL K H a (ns.map V.int) ∧ ns.length ≤ 63 ∧ ∀ H' p c, Same H H' → H p = none → H c = none → SrcAt H' p c → Q (.ref p) H'
/-- a block's names -/
def blkB (N : List Str) (sc scope : Scope) (own : List (Str × Nat)) : Bool :=
  decide (scope.kind = .function) && (scope.names.all fun y => decide (scope.names.lookup y.1 = some y.2)) && (own.all fun p => decide (N[p.2]? = some p.1)) &&
  (scope.names.all fun y => decide (y.2 ≠ .free) || decide (sc.names.lookup y.1 = some .cell) || decide (sc.names.lookup y.1 = some .free)) &&
  (scope.names.all fun y => (decide (y.2 ≠ .local) && decide (y.2 ≠ .cell)) || (own.map (·.1)).contains y.1 || !(N.contains y.1))
theorem blk_ok {N : List Str} {sc scope : Scope} {own : List (Str × Nat)} (h : blkB N sc scope own = true) : BlkOk N sc scope own := by
  unfold blkB at h
  simp only [Bool.and_eq_true, decide_eq_true_eq, List.all_eq_true, Bool.or_eq_true, List.contains_iff_mem, Bool.not_eq_true', ← Bool.not_eq_true] at h
  obtain ⟨⟨⟨⟨h1, h2⟩, h3⟩, h4⟩, h5⟩ := h
  refine ⟨h1, h2, h3, fun y hy hf => ?_, fun y hy hf => ?_⟩
  · rcases h4 y hy with (h | h) | h
    · exact absurd hf h
    · exact .inl h
    · exact .inr h
  · rcases h5 y hy with (⟨h, h'⟩ | h) | h
    · rcases hf with hf | hf
      · exact absurd hf h
      · exact absurd hf h'
    · exact .inl h
    · exact .inr h
theorem ifT {c : Bool} {A B : Prop} (h : A) (hc : c = true) : ite (c = true) A B := by subst hc; rw [if_pos rfl]; exact h
theorem ifF {c : Bool} {A B : Prop} (h : B) (hc : c = false) : ite (c = true) A B := by subst hc; rw [if_neg (by decide)]; exact h
theorem max_one (n : Int) : (if n > 1 then n else 1) = max 1 n := by
  rw [Int.max_def]; split <;> split <;> omega
theorem log62 {n : Int} (h0 : 0 < n) (h : n < 2 ^ 62) : n.natAbs.log2 < 9000 := by
  have : n.natAbs.log2 < 62 := (Nat.log2_lt (by omega)).mpr (by omega)
  omega
end DL
set_option Elab.async false
set_option linter.all false
set_option maxRecDepth 100000
set_option maxHeartbeats 1000000
set_option autoImplicit false
/-! DLi: the law's call; what a def hands to its callers. -/
namespace DL
open PySem PySem.Spec PyProof.Rows L2

/-! the head of a law -/
theorem head_call {P : Program} {w : World} {K : PySem.W.Frag} {mg mb : Str → Option Value} {k : Nat} {fa l : Addr} {fd : FuncData} {x : Str} {sp : Sp} {sh : Shared} {us : List Value} {ns : List Int}
    (kin : K.In sh.heap) (glob : sh.heap.Ns mainGlobals mg) (bl : sh.heap.Ns builtinsNs mb) (bb : ∀ x : Str, x ≠ "__name__" → mb x = bootBuiltins x) (nol : sh.heap.NoLimit) (gens : sh.gens = #[])
    (here : sh.heap.get? l = some { cls := .type "list", data := .seq us.toArray }) (numbers : IntsAre us ns) (few : ns.length ≤ sizeLine) (room : Room k callerA)
    (F : ∀ base : Heap, K.In base → base.Ns mainGlobals mg → FnG P w K mg base CX0 k fa fd [x] sp) (binds : ∀ (s : Shared) (u : Value), BindsTo s fd ⟨[u], []⟩ [(x, u)])
    (want : ∀ H : Hp, SqL K H l (ns.map V.int) → sp [.ref l] H (fun v _ => v = .bl true) E0) :
    codeAny (model P w) callerA (.call (.ref fa) ⟨[.ref l], []⟩) (fun r s' => r = .ok (.ret (.bool true)) ∧ OldK sh.heap s'.heap ∧ s'.os = sh.os ∧ AllBare s'.gens) sh := by
  have vals : Vals (ns.map V.int) us := vals_ints numbers
  let ob : Obj := { cls := .type "list", data := .seq us.toArray }
  have main : ∀ H : Hp, (∀ b u, H b = some u → b = l ∧ K.lookup l = none ∧ u = .frz ob (.lst (ns.map V.int))) → SqL K H l (ns.map V.int) →
      codeAny (model P w) callerA (.call (.ref fa) ⟨[.ref l], []⟩) (fun r s' => r = .ok (.ret (.bool true)) ∧ OldK sh.heap s'.heap ∧ s'.os = sh.os ∧ AllBare s'.gens) sh := by
    intro H only seq
    have hok : HOk P w H sh.heap := fun b u e => by
      obtain ⟨h1, _, h3⟩ := only b u e
      subst h1 h3
      exact ⟨here, by rw [List.length_map]; exact few, us, _, vals, here⟩
    have noDict : ∀ {b : Addr} {o : Obj} {es : Array DictEntry} {ep : Nat}, sh.heap.get? b = some o → o.data = .dict es ep → H b = none := by
      intro b o es ep e d
      cases q : H b with
      | none => rfl
      | some u =>
        obtain ⟨h1, _, _⟩ := only b u q
        subst h1
        rw [here] at e
        cases e
        cases d
    have ns_ : ∀ {b : Addr} {m : Str → Option Value}, sh.heap.Ns b m → (hidT sh.heap H).Ns b m := by
      rintro b m ⟨o, es, ep, e, d, r⟩
      exact ⟨o, es, ep, hidT_get e (noDict e d), d, r⟩
    have kin' : K.In (hidT sh.heap H) := by
      intro b o e
      refine hidT_get (kin b o e) ?_
      cases q : H b with
      | none => rfl
      | some u =>
        obtain ⟨h1, h2, _⟩ := only b u q
        subst h1
        rw [h2] at e
        cases e
    have lim' : (hidT sh.heap H).NoLimit := by
      obtain ⟨mc, h1, h2⟩ := nol
      exact ⟨mc, ns_ h1, h2⟩
    have env : Env0 P w K mg (hidT sh.heap H) callerA [] sh H :=
      { frames := rfl, mod := ⟨kin', ns_ glob, ⟨mb, ns_ bl, bb⟩, lim'⟩, bs := fun _ _ e => of_hidT e, bsz := Nat.le_of_eq (hidT_size _ _), funs := trivial,
        frf := fun _ hb => by cases hb
        hok := hok, bare := .of_eq gens }
    refine codeAny_mono ((F _ kin' (ns_ glob)).go callerA [] sh H ⟨[.ref l], []⟩ [.ref l] [.ref l] _ _ rfl room env (binds sh (.ref l)) (.cons rfl .nil) (want H seq)) fun res s' got => ?_
    match res, got with
    | .error e, got => exact False.elim got
    | .ok .next, got => exact False.elim got
    | .ok .brk, got => exact False.elim got
    | .ok .cont, got => exact False.elim got
    | .ok (.ret u), got =>
      obtain ⟨v, H', os, bare, un, hok', rv, ev⟩ := got
      subst ev
      obtain rfl : u = Value.bool true := rv
      refine ⟨rfl, OldK.of_keep fun b o e => ?_, os, bare⟩
      cases q : H b with
      | none => exact un.keep b o e q (by intro z; cases z) (by intro z; cases z)
      | some u =>
        obtain ⟨h1, _, h3⟩ := only b u q
        subst h1 h3
        have kept := un.frzs b ob _ q
        rw [here] at e
        cases e
        exact (hok' b _ kept).1
  cases hk : K.lookup l with
  | some o =>
    have e := kin l o hk
    rw [here] at e
    cases e
    exact main (fun _ => none) (fun b u e => by cases e) (.inr ⟨_, us.toArray, _, hk, rfl, rfl, rfl, by rw [List.size_toArray, ← vals.length, List.length_map]; exact few, by simpa using vals⟩)
  | none =>
    refine main (upd (fun _ => none) l (.frz ob (.lst (ns.map V.int)))) (fun b u e => ?_) (.inl (.inr ⟨_, upd_same⟩))
    by_cases hb : b = l
    · subst hb
      rw [upd_same] at e
      cases e
      exact ⟨rfl, hk, rfl⟩
    · rw [upd_ne hb] at e
      cases e
theorem walk_ofG {l : PySem.W.OpenLaw} {n k : Nat} {q : Program} {loose : List Str} {XP : (Str → Option Value) → Heap → Prop} {YP : World → Heap → Prop} {d : DefRec} {K : Params → PySem.W.Frag} {sp : PySem.W.Frag → Sp} {x : Str}
    (most : l.most = some n) (small : n ≤ sizeLine) (nodef : d.params.defaults = []) (room : Room k callerA) (kin : ∀ (w : World) (h : Heap), YP w h → (K w.params).In h)
    (F : ∀ (w : World) (mg : Str → Option Value) (fa : Addr) (h : Heap), (K w.params).In h → h.Ns mainGlobals mg → mg d.name = some (.ref fa) →
      ∃ fd : FuncData, (∀ (s : Shared) (u : Value), BindsTo s fd ⟨[u], []⟩ [(x, u)]) ∧ ∀ base : Heap, (K w.params).In base → base.Ns mainGlobals mg → FnG l.prog w (K w.params) mg base CX0 k fa fd [x] (sp (K w.params)))
    (want : ∀ (K : PySem.W.Frag) (H : Hp) (a : Addr) (ns : List Int), ns.length ≤ n → SqL K H a (ns.map V.int) → sp K [.ref a] H (fun v _ => v = .bl true) E0) :
    PySem.W.WalkO q loose XP YP l.row.toRowW d [] (fun f vs => PySem.call f vs) := by
  refine Att.attach_call most nodef fun w s₀ sh mg mb fa o pm cd doc a us ns G Y ho hd hcd hmg hobj hints few hg => ?_
  have kin1 := kin w _ Y
  obtain ⟨fd, hb, hF⟩ := F w mg fa _ kin1 G.T.g hmg
  exact head_call kin1 G.T.g G.T.b G.T.builtins G.T.nolimit hg hobj hints (Nat.le_trans few small) room hF hb fun H s => want _ H a ns few s

/-! a def, as its callers see it -/
structure Cal (P : Program) (w : World) (K : PySem.W.Frag) (mg : Str → Option Value) (base : Heap) (x : Str) (ps : List Str) (k : Nat) (s : DSp) : Prop where
  mo : MoD s
  ex : ∃ (f : Addr) (fd : FuncData), FnG P w K mg base CX0 k f fd ps (spD mg ps.length s) ∧ mg x = some (.ref f) ∧ PySem.W.keepIn K (.ref f) = true ∧ Binds K fd ps []
theorem Cal.up {P : Program} {w : World} {K : PySem.W.Frag} {mg : Str → Option Value} {base : Heap} {x : Str} {ps : List Str} {j k : Nat} {s : DSp} (C : Cal P w K mg base x ps j s) (h : j ≤ k) : Cal P w K mg base x ps k s := by
  obtain ⟨mo, f, fd, F, rest⟩ := C
  exact ⟨mo, f, fd, F.up h, rest⟩
/-- what the top has written of a def -/
structure Dfn (K : PySem.W.Frag) (mg : Str → Option Value) (x : Str) (st : Stmt) (ps : List Str) : Prop where
  ex : ∃ (f : Addr) (fd : FuncData), Fun K x x st f fd ∧ mg x = some (.ref f) ∧ Binds K fd ps []
section
variable {X : Cx} {e : Expr} {es : List Expr} {pos : Pos}
theorem ed_callC {k : Nat} {x : Str} {ps : List Str} {p : Pos} {s : DSp} {wc : WC} (C : Cal X.prog X.w X.K X.mg X.base x ps k s) (hgd : X.A.guards = some []) (hr : Room k X.A) (hg : Gl X x)
    (ha : CD X (e :: es) wc) (hn : ∀ env P, wc env P → wc env fun cs e2 => cs.length = ps.length ∧ P cs e2) (hdb : (x == ("__debug__" : Str)) = false := by decide) (he : starEach (e :: es) X.env = (false, eval e X.env) :: starEach es X.env := by rfl) (hpl : (backTo pos (starEach es X.env)).any (·.1) = false := by rfl) :
    ED X (.Call (.Name x p) (e :: es) [] pos) (wUser s wc) := by
  obtain ⟨mo, f, fd, F, hm, hk, hb⟩ := C
  exact ed_call mo F hgd hr hg hm hk hb ha hn hdb he hpl
/-- the number of what is handed over -/
theorem wc_len : ∀ (env : Nv) (P : List Sl → Nv → Prop), wc0 env P → wc0 env fun cs e2 => cs.length = 0 ∧ P cs e2 := fun _ _ q => ⟨rfl, q⟩
def LenC (w : WC) (n : Nat) : Prop := ∀ env P, w env P → w env fun cs e2 => cs.length = n ∧ P cs e2
theorem len0 : LenC wc0 0 := fun _ _ q => ⟨rfl, q⟩
theorem lenD {w : WE} {wr : WC} {n : Nat} (h : MoE w) (hr : MoCs wr) (l : LenC wr n) : LenC (wcD w wr) (n + 1) := fun env P q => h _ _ _ (fun d e q => hr _ _ _ (fun cs e2 ⟨q1, q2⟩ => ⟨by simp [q1], q2⟩) (l _ _ q)) q
theorem lenS {i : Nat} {wr : WC} {n : Nat} (hr : MoCs wr) (l : LenC wr n) : LenC (wcS i wr) (n + 1) := fun env P q => ⟨q.1, hr _ _ _ (fun cs e2 ⟨q1, q2⟩ => ⟨by simp [q1], q2⟩) (l _ _ q.2)⟩
theorem lenF {x : Str} {wr : WC} {n : Nat} (hr : MoCs wr) (l : LenC wr n) : LenC (wcF x wr) (n + 1) := fun env P q => hr _ _ _ (fun cs e2 ⟨q1, q2⟩ => ⟨by simp [q1], q2⟩) (l _ _ q)
theorem lenV {i : Nat} {wr : WC} {n : Nat} (hr : MoCs wr) (l : LenC wr n) : LenC (wcV i wr) (n + 1) := fun env P ⟨y, z, q⟩ => ⟨y, z, hr _ _ _ (fun cs e2 ⟨q1, q2⟩ => ⟨by simp [q1], q2⟩) (l _ _ q)⟩
/-- the arguments with their number -/
structure CN (X : Cx) (es : List Expr) (w : WC) (n : Nat) : Prop where
  cd : CD X es w
  len : LenC w n
theorem cn_nil : CN X [] wc0 0 := ⟨cd_nil, len0⟩
theorem cn_cons {w : WE} {wr : WC} {n : Nat} (h : ED X e w) (hr : CN X es wr n) (hs : starEach (e :: es) X.env = (false, eval e X.env) :: starEach es X.env := by rfl) : CN X (e :: es) (wcD w wr) (n + 1) := ⟨cd_cons h hr.cd hs, lenD h.mo hr.cd.mo hr.len⟩
theorem cn_src (i : Nat) {x : Str} {npos : Pos} {wr : WC} {n : Nat} (h : PE X (.Name x npos) (tVar i)) (hr : CN X es wr n) (hs : starEach (.Name x npos :: es) X.env = (false, eval (.Name x npos) X.env) :: starEach es X.env := by rfl) : CN X (.Name x npos :: es) (wcS i wr) (n + 1) := ⟨cd_src i h hr.cd hs, lenS hr.cd.mo hr.len⟩
theorem cn_fn {x : Str} {npos : Pos} {f : Addr} {wr : WC} {n : Nat} (hg : Gl X x) (hm : X.mg x = some (.ref f)) (hr : CN X es wr n) (hs : starEach (.Name x npos :: es) X.env = (false, eval (.Name x npos) X.env) :: starEach es X.env := by rfl) (hd : (x == ("__debug__" : Str)) = false := by decide) : CN X (.Name x npos :: es) (wcF x wr) (n + 1) := ⟨cd_fn hg hm hr.cd hs hd, lenF hr.cd.mo hr.len⟩
theorem cn_var (i : Nat) {x : Str} {npos : Pos} {wr : WC} {n : Nat} (h : PE X (.Name x npos) (tVar i)) (hr : CN X es wr n) (hs : starEach (.Name x npos :: es) X.env = (false, eval (.Name x npos) X.env) :: starEach es X.env := by rfl) : CN X (.Name x npos :: es) (wcV i wr) (n + 1) := ⟨cd_var i h hr.cd hs, lenV hr.cd.mo hr.len⟩
theorem ed_callN {j k n : Nat} {x : Str} {ps : List Str} {p : Pos} {s : DSp} {wc : WC} (C : Cal X.prog X.w X.K X.mg X.base x ps j s) (hgd : X.A.guards = some []) (hr : Room k X.A) (ha : CN X (e :: es) wc n) (hg : Gl X x := by rfl) (hn : n = ps.length := by rfl) (hj : j ≤ k := by omega)
    (hdb : (x == ("__debug__" : Str)) = false := by decide) (he : starEach (e :: es) X.env = (false, eval e X.env) :: starEach es X.env := by rfl) (hpl : (backTo pos (starEach es X.env)).any (·.1) = false := by rfl) :
    ED X (.Call (.Name x p) (e :: es) [] pos) (wUser s wc) := ed_callC (C.up hj) hgd hr hg ha.cd (by subst hn; exact ha.len) hdb he hpl
end
theorem cal_of {P : Program} {w : World} {K : PySem.W.Frag} {mg : Str → Option Value} {base : Heap} {x : Str} {st : Stmt} {N ps : List Str} {k : Nat} {u : WS} {s : DSp} (D : Dfn K mg x st ps) (S : FnScope N ps (defScope st)) (mo : MoD s)
    (body : ∀ X : Cx, (∃ (f : Addr) (cdv : Value) (A : Around) (around : List Env) (sh : Shared) (H : Hp) (E : XK), X = (cxOf CX0 P w K mg base N x (defScope st) f cdv A around sh H E).nox) → X.A.guards = some [] → Room k X.A → BD X (defBody st) u)
    (hu : ∀ cs Q, cs.length = ps.length → s cs Q → u ⟨fun _ => Q .none, Q⟩ (envOf N cs)) : Cal P w K mg base x ps (k + 1) s := by
  obtain ⟨f, fd, F, hm, hb⟩ := D
  exact ⟨mo, f, fd, Fun.okD F S (fun X ⟨cdv, A, around, sh, H, E, hX⟩ hg hr => body X ⟨f, cdv, A, around, sh, H, E, hX⟩ hg hr) hu, hm, F.kp, hb⟩

/-! the pick -/
def sPick : DSp := fun cs P => ∃ n : Int, cs = [.src, .sh (.int n)] ∧ n < 2 ^ 62 ∧ ∀ i : Int, 0 ≤ i → i < max 1 n → P (.int i)
theorem moPick : MoD sPick := fun cs P P' k ⟨n, e, h, q⟩ => ⟨n, e, h, fun i h1 h2 => k _ (q i h1 h2)⟩
theorem cal_pick {P : Program} {w : World} {K : PySem.W.Frag} {mg : Str → Option Value} {base : Heap} {st : Stmt} {k : Nat} (D : Dfn K mg "_law_pick" st ["source", "many"])
    (G : ∀ (f : Addr) (fd : FuncData), Fun K "_law_pick" "_law_pick" st f fd → FnG P w K mg base CX0 k f fd ["source", "many"] spPick) : Cal P w K mg base "_law_pick" ["source", "many"] k sPick := by
  obtain ⟨f, fd, F, hm, hb⟩ := D
  refine ⟨moPick, f, fd, (G f fd F).weak fun vs H Q E q => ?_, hm, F.kp, hb⟩
  obtain ⟨hl, G0, F0, pc, cs, rc, c, n, ec, hn, q⟩ := q
  subst ec
  cases c with
  | cons h1 t =>
    cases t with
    | cons h2 t2 =>
      cases t2
      obtain ⟨p, a, ep, ev⟩ := h1
      have e2 := Rp.int_iff.mp (show Rp F0 (.int n) _ from h2)
      subst ev e2
      obtain ⟨s, g1, g2, f1, f2⟩ := rc.src p a ep
      have hne : p ≠ a := fun z => by
        subst z
        obtain ⟨_, _, _, _, _, d1, d2, _⟩ := s
        rw [d1] at d2; cases d2
      refine ⟨p, a, n, rfl, s, hne, hn, fun H' i i0 i1 s' old => q i i0 i1 _ F0 pc H' (Same.refl _) .refl ⟨fun b o e => ?_, fun b o e => ?_, rc.fg, fun p' a' e' => ?_⟩ (by simp only [Rp])⟩
      · rw [old b (fun z => by subst z; rw [g1] at e; cases e) (fun z => by subst z; rw [g2] at e; cases e)]
        exact rc.g _ _ e
      · rw [old b (fun z => by subst z; rw [f1] at e; cases e) (fun z => by subst z; rw [f2] at e; cases e)]
        exact rc.f _ _ e
      · rw [ep] at e'; cases e'
        exact ⟨s', g1, g2, f1, f2⟩
end DL
set_option Elab.async false
set_option linter.all false
set_option maxRecDepth 100000
set_option maxHeartbeats 1000000
set_option autoImplicit false
/-! DLj: the law's body behind its source. -/
namespace DL
open PySem PySem.Spec PyProof.Rows L2
theorem pe_callG {X : Cx} {k : Nat} {f : Addr} {fd : FuncData} {ps : List Str} {sp : Sp} {x : Str} {p pos : Pos} {e : Expr} {es : List Expr} {t : TA} (F : FnG X.prog X.w X.K X.mg X.base CX0 k f fd ps sp) (hgd : X.A.guards = some []) (hr : Room k X.A) (hg : Gl X x) (hm : X.mg x = some (.ref f)) (hk : PySem.W.keepIn X.K (.ref f) = true) (hb : Binds X.K fd ps [])
    (ha : PA X (e :: es) t) (hdb : (x == ("__debug__" : Str)) = false := by decide) (he : starEach (e :: es) X.env = (false, eval e X.env) :: starEach es X.env := by rfl) (hpl : (backTo pos (starEach es X.env)).any (·.1) = false := by rfl) :
    PE X (.Call (.Name x p) (e :: es) [] pos) fun σ H Q => t σ H fun vs H1 => sp vs H1 Q E0 :=
  ⟨fun pins st σ H Q I q => wpAny_Call_Name_kw (ld_glob I hg hm (PySem.W.callWith_K (h₀ := X.base) I.ok.mod.kin hk (thn (ha.run pos pins st σ H _ I q) fun us s1 ⟨vs, H1, I1, r1, q1⟩ => ⟨I1.kIn, run_fnG F hgd hr hb pass0 I1 r1 q1⟩) he hpl) hdb)⟩
def spLaw (K : PySem.W.Frag) : Sp := fun vs H Q _ => ∃ (a : Addr) (ns : List Int), vs = [.ref a] ∧ SqL K H a (ns.map V.int) ∧ ns.length ≤ 63 ∧ ∀ H', Q (.bl true) H'
def lawEnv (N : List Str) : Nv := none :: some .src :: List.replicate (N.length - 2) none
theorem law_reads {M : Str → Option Value} {K : PySem.W.Frag} {N : List Str} {u : WS} {a : Addr} {ns : List Int} {H : Hp} {Q : VK} (mo : MoS u) (h2 : 2 ≤ N.length) (hS : SqL K H a (ns.map V.int)) (few : ns.length ≤ 63) (q : ∀ H', Q (.bl true) H')
    (hu : ∀ R : PyData → Prop, R (.bool true) → u ⟨fun _ => R .none, R⟩ (lawEnv N)) :
    spSource K [.ref a] H (fun x H1 => tS M u ⟨fun _ H' => Q .non H', Q, fun _ _ => False, fun _ _ => False⟩ ((L2.start N [.ref a]).set 1 (some x)) H1) E0 := by
  refine ⟨a, ns, rfl, hS, few, fun H' p c same hp hc src => ⟨fun _ => none, fun _ => none, some (p, c), lawEnv N, ⟨⟨fun _ _ e => (nomatch e), fun _ _ e => (nomatch e), fun _ _ e => (nomatch e), fun p' c' e => ?_⟩, ?_, fun i s e => ?_, fun i j b d d' hij e1 e2 => ?_⟩, ?_⟩⟩
  · cases e; exact ⟨src, rfl, rfl, rfl, rfl⟩
  · unfold lawEnv L2.start
    simp
    omega
  · match i with
    | 0 => cases e
    | 1 =>
      cases e
      refine ⟨.ref p, ?_, p, c, rfl, rfl⟩
      rw [List.getElem?_set_self]
      unfold L2.start
      simp
      omega
    | i + 2 =>
      have e' : (List.replicate (N.length - 2) (none : Option Sl))[i]? = some (some s) := e
      rw [List.getElem?_replicate] at e'
      split at e' <;> cases e'
  · match i with
    | 0 => cases e1
    | 1 => cases e1
    | i + 2 =>
      have e' : (List.replicate (N.length - 2) (none : Option Sl))[i]? = some (some _) := e1
      rw [List.getElem?_replicate] at e'
      split at e' <;> cases e'
  · let R : PyData → Prop := fun d => ∀ v F' pc' H2, Same (fun _ => none) F' → PcLe (some (p, c)) pc' → RelC (fun _ => none) F' pc' H2 → Rp F' d v → Q v H2
    refine mo ⟨fun _ => R .none, R⟩ _ _ ⟨fun e q σ' F' pc' H' s p r => ?_, fun d q v F' pc' H' s p r rp => q v F' pc' H' s p r rp⟩ (hu R fun v F' pc' H2 _ _ _ rp => ?_)
    · exact q .non F' pc' H' s p r.base (by simp only [Rp])
    · rw [Rp.bool_iff.mp rp]; exact q H2
structure CalS (P : Program) (w : World) (K : PySem.W.Frag) (mg : Str → Option Value) (base : Heap) (k : Nat) : Prop where
  ex : ∃ (f : Addr) (fd : FuncData), FnG P w K mg base CX0 k f fd ["script"] (spSource K) ∧ mg "_law_source" = some (.ref f) ∧ PySem.W.keepIn K (.ref f) = true ∧ Binds K fd ["script"] []
theorem law_ok {P : Program} {w : World} {K : PySem.W.Frag} {mg : Str → Option Value} {base : Heap} {st : Stmt} {f : Addr} {fd : FuncData} {N : List Str} {k j : Nat} {u : WS} (F : Fun K "law" "law" st f fd) (S : FnScope N ["script"] (defScope st)) (C : CalS P w K mg base j) (hj : j ≤ k) (h2 : 2 ≤ N.length)
    (first : ∀ (X : Cx) (g : Addr) (gd : FuncData), (∃ (cdv : Value) (A : Around) (around : List Env) (sh : Shared) (H : Hp) (E : XK), X = (cxOf CX0 P w K mg base N "law" (defScope st) f cdv A around sh H E).nox) → X.A.guards = some [] → Room k X.A →
      FnG X.prog X.w X.K X.mg X.base CX0 k g gd ["script"] (spSource X.K) → X.mg "_law_source" = some (.ref g) → PySem.W.keepIn X.K (.ref g) = true → Binds X.K gd ["script"] [] →
      ∀ t2 : TS, PSs X (defBody st).tail t2 → PSs X (defBody st) fun D σ H => ∃ v, σ[0]? = some (some v) ∧ spSource X.K [v] H (fun x H1 => t2 D (σ.set 1 (some x)) H1) E0)
    (body : ∀ X : Cx, (∃ (cdv : Value) (A : Around) (around : List Env) (sh : Shared) (H : Hp) (E : XK), X = (cxOf CX0 P w K mg base N "law" (defScope st) f cdv A around sh H E).nox) → X.A.guards = some [] → Room k X.A → BD X (defBody st).tail u)
    (hu : ∀ R : PyData → Prop, R (.bool true) → u ⟨fun _ => R .none, R⟩ (lawEnv N)) : FnG P w K mg base CX0 (k + 1) f fd ["script"] (spLaw K) := by
  obtain ⟨g, gd, G, hm, hk, hb⟩ := C
  refine Fun.okG F S (fun vs H Q E ⟨a, ns, e, _⟩ => by rw [e]; rfl) fun cdv A around sh H vs Q E hg hr ⟨a, ns, e, hS, few, q⟩ => ?_
  subst e
  have B := body _ ⟨cdv, A, around, sh, H, E, rfl⟩ hg hr
  refine ⟨_, (first _ g gd ⟨cdv, A, around, sh, H, E, rfl⟩ hg hr (G.up hj) hm hk hb _ B.pss).nox, .ref a, ?_, law_reads B.mo h2 hS few q hu⟩
  cases N with
  | nil => exact absurd h2 (by simp)
  | cons y r => rfl
end DL
set_option Elab.async false
set_option linter.all false
set_option maxRecDepth 100000
set_option maxHeartbeats 2000000
set_option autoImplicit false
/-! DLz: zip of two sequences of any kind, strict or not. -/
namespace DZ
open PySem
open PySem.Sem (wp)
def itN : Bool → String
  | true => "tuple_iterator"
  | false => "list_iterator"
def sqN : Bool → String
  | true => "tuple"
  | false => "list"
def IsIt (t : Bool) (h : Heap) (it l : Addr) (k : Nat) : Prop := ∃ o, h.get? it = some o ∧ o.cls = .type (itN t) ∧ o.data = .fields #[.ref l, .int k 0]
def IsSq (t : Bool) (h : Heap) (l : Addr) (xs : Array Value) : Prop := ∃ o, h.get? l = some o ∧ o.cls = .type (sqN t) ∧ ∃ n, o.data = .seq xs n
theorem IsIt.stay {t : Bool} {h h' : Heap} {it l b : Addr} {k : Nat} (x : IsIt t h it l k) (hs : Heap.ExtBut b h h') (hb : it ≠ b) : IsIt t h' it l k := by
  obtain ⟨o, ho, r⟩ := x
  exact ⟨o, hs _ _ hb ho, r⟩
theorem IsSq.stay {t : Bool} {h h' : Heap} {l b : Addr} {xs : Array Value} (x : IsSq t h l xs) (hs : Heap.ExtBut b h h') (hb : l ≠ b) : IsSq t h' l xs := by
  obtain ⟨o, ho, r⟩ := x
  exact ⟨o, hs _ _ hb ho, r⟩
theorem IsIt.at' {t : Bool} {h h' : Heap} {it l : Addr} {k : Nat} (x : IsIt t h it l k) (hs : ∀ o, h.get? it = some o → h'.get? it = some o) : IsIt t h' it l k := by
  obtain ⟨o, ho, r⟩ := x
  exact ⟨o, hs _ ho, r⟩
theorem IsIt.lt {t : Bool} {h : Heap} {it l : Addr} {k : Nat} (x : IsIt t h it l k) : it < h.objs.size := by
  obtain ⟨o, ho, _⟩ := x
  exact Heap.lt_size ho
theorem IsSq.more {t : Bool} {h : Heap} {l : Addr} {xs : Array Value} (x : IsSq t h l xs) (o : Obj) : IsSq t (h.push o) l xs := by
  obtain ⟨ob, ho, r⟩ := x
  exact ⟨ob, Heap.get?_push_of_some _ ho, r⟩
section
variable {prog : Program} {w : World} {A : Around} {E : Value → Shared → Prop} {s : Shared}
def drawB (st : Bool) (it : Value) : Sem (Option Value) := if st = true then Builtin.SmallTypes.nextOrEnd it else (do return some (← Builtin.SmallTypes.nextOf it))
theorem next_item {t : Bool} {it l : Addr} {i : Nat} {xs : Array Value} {x : Value} {Q : Value → Shared → Prop} (hit : IsIt t s.heap it l i) (hl : IsSq t s.heap l xs) (hx : xs[i]? = some x)
    (q : ∀ h', IsIt t h' it l (i + 1) → Heap.SameBut it s.heap h' → Q x { s with heap := h' }) : wpAny (model prog w) A (Builtin.SmallTypes.nextOf (.ref it)) Q E s := by
  cases t with
  | true => exact RZ.nextOf_tuple_item (l := l) (i := i) (items := xs) hit hl hx q
  | false => exact wpAny_nextOf_list_item (l := l) (i := i) (items := xs) hit hl hx q
theorem next_end {t : Bool} {it l : Addr} {i : Nat} {xs : Array Value} {Q : Value → Shared → Prop} (hh : A.handled = none) (hit : IsIt t s.heap it l i) (hl : IsSq t s.heap l xs) (hx : xs[i]? = none)
    (q : ∀ h' e, Heap.ExtBut it s.heap h' → (∃ o, h'.get? e = some o ∧ o.cls = .type "StopIteration") → E (.ref e) { s with heap := h' }) : wpAny (model prog w) A (Builtin.SmallTypes.nextOf (.ref it)) Q E s := by
  cases t with
  | true => exact RZ.nextOf_tuple_end (l := l) (i := i) (items := xs) hh hit hl hx q
  | false => exact wpAny_nextOf_list_end (l := l) (i := i) (items := xs) hh hit hl hx q
theorem draw_item {st t : Bool} {it l : Addr} {i : Nat} {xs : Array Value} {x : Value} {Q : Option Value → Shared → Prop} (hit : IsIt t s.heap it l i) (hl : IsSq t s.heap l xs) (hx : xs[i]? = some x)
    (q : ∀ h', IsIt t h' it l (i + 1) → Heap.SameBut it s.heap h' → Q (some x) { s with heap := h' }) : wpAny (model prog w) A (drawB st (.ref it)) Q E s := by
  cases st with
  | true =>
    show wpAny _ _ (Builtin.SmallTypes.nextOrEnd (.ref it)) _ _ _
    unfold Builtin.SmallTypes.nextOrEnd
    exact wpAny_bind (wpAny_attempt (next_item hit hl hx fun h' a b => wpAny_pure (q h' a b)))
  | false =>
    show wpAny _ _ (Builtin.SmallTypes.nextOf (.ref it) >>= _) _ _ _
    exact wpAny_bind (next_item hit hl hx fun h' a b => wpAny_pure (q h' a b))
theorem end_item {t : Bool} {it l : Addr} {i : Nat} {xs : Array Value} {Q : Option Value → Shared → Prop} (hh : A.handled = none) (hit : IsIt t s.heap it l i) (hl : IsSq t s.heap l xs) (hx : xs[i]? = none)
    (q : ∀ h', Heap.ExtBut it s.heap h' → Q none { s with heap := h' }) : wpAny (model prog w) A (Builtin.SmallTypes.nextOrEnd (.ref it)) Q E s := by
  unfold Builtin.SmallTypes.nextOrEnd
  refine wpAny_bind (wpAny_attempt (next_end hh hit hl hx fun h' e a b => ?_))
  obtain ⟨o, ho, hc⟩ := b
  refine wpAny_bind (wpAny_isInstance (T := "StopIteration") (b := true) ⟨o, ho, hc⟩ isSubtype_stop ?_)
  exact wpAny_pure (q _ a)
abbrev Zp (st : Bool) (h : Heap) (z TI TO : Addr) (f0 : Value) : Prop := h.get? z = some { cls := .type "zip", dict := none, data := .fields #[f0, .bool false, .bool st, .ref TI, .ref TO], slots := #[] }
theorem zip_item {st t1 t2 : Bool} {z TI TO i1 i2 l1 l2 : Addr} {k1 k2 : Nat} {xs ys : Array Value} {x y a b : Value} {Q : Value → Shared → Prop} (D : ZipApart z TI TO i1 i2 l1 l2)
    (hz : Zp st s.heap z TI TO .none) (hTI : IsPair s.heap TI (.ref i1) (.ref i2)) (hTO : IsPair s.heap TO a b)
    (h1 : IsIt t1 s.heap i1 l1 k1) (h2 : IsIt t2 s.heap i2 l2 k2) (hl1 : IsSq t1 s.heap l1 xs) (hl2 : IsSq t2 s.heap l2 ys) (hx : xs[k1]? = some x) (hy : ys[k2]? = some y)
    (q : ∀ h', Zp st h' z TI TO (rawInt s.heap.objs.size) → IsPair h' TO x y → IsIt t1 h' i1 l1 (k1 + 1) → IsIt t2 h' i2 l2 (k2 + 1) → IsPair h' s.heap.objs.size x y →
      (∀ c o, c ≠ z → c ≠ TO → c ≠ i1 → c ≠ i2 → s.heap.get? c = some o → h'.get? c = some o) → Q (.ref s.heap.objs.size) { s with heap := h' }) :
    wpAny (model prog w) A (Builtin.«zip.__next__» ⟨[.ref z], []⟩) (fun fin s' => ∃ v, fin = .done (.ret v) ∧ Q v s') E s := by
  cases st
  all_goals
    show wpAny _ _ (field (.ref z) 2 >>= _) _ _ _
    refine wpAny_bind (wpAny_field hz rfl (x := .bool _) rfl ?_)
    show wpAny _ _ (field (.ref z) 3 >>= _) _ _ _
    refine wpAny_bind (wpAny_field hz rfl (x := .ref TI) rfl ?_)
    refine wpAny_bind (wpAny_seqItems hTI rfl ?_)
    show wpAny _ _ (Builtin.SmallTypes.ownedTupleIsFree (.ref z) >>= _) _ _ _
    refine wpAny_bind ?_
    unfold Builtin.SmallTypes.ownedTupleIsFree
    refine wpAny_bind (wpAny_field hz rfl (x := .none) rfl (wpAny_pure ?_))
    simp only [if_true]
    refine wpAny_bind (wpAny_rule ?_)
    refine wpAny_bind (wpAny_field hz rfl (x := .ref TO) rfl ?_)
    refine wpAny_bind (wpAny_setField_rec hz (by simp) fun g1 z1 e1 => ?_)
    replace z1 : Zp _ g1 z TI TO .ellipsis := z1
    refine wpAny_bind ?_
    simp only [List.zipIdx_cons, List.zipIdx_nil, List.forIn_cons, List.forIn_nil]
    refine wpAny_bind (wpAny_bind (wpAny_onRaise ?_))
  case false =>
    show wpAny _ _ (drawB false (.ref i1)) _ _ _
    refine draw_item (h1.stay e1.extBut D.i1z) (hl1.stay e1.extBut D.l1z) hx fun g2 a2 e2 => ?_
    have p2 : IsPair g2 TO a b := e2.extBut _ _ D.TOi1 (e1.extBut _ _ D.TOz hTO)
    refine wpAny_bind (wpAny_seqItems p2 rfl ?_)
    refine wpAny_bind (wpAny_updateSeq_pair p2 fun g3 p3 e3 => ?_)
    replace p3 : IsPair g3 TO x b := p3
    refine wpAny_bind (wpAny_letGo (wpAny_pure ?_))
    refine wpAny_bind (wpAny_bind (wpAny_onRaise ?_))
    show wpAny _ _ (drawB false (.ref i2)) _ _ _
    refine draw_item (((h2.stay e1.extBut D.i2z).stay e2.extBut D.i12.symm).stay e3.extBut D.TOi2.symm) (((hl2.stay e1.extBut D.l2z).stay e2.extBut D.l2i1).stay e3.extBut D.l2TO) hy fun g4 a4 e4 => ?_
    have p4 : IsPair g4 TO x b := e4.extBut _ _ D.TOi2 p3
    refine wpAny_bind (wpAny_seqItems p4 rfl ?_)
    refine wpAny_bind (wpAny_updateSeq_pair p4 fun g5 p5 e5 => ?_)
    replace p5 : IsPair g5 TO x y := p5
    refine wpAny_bind (wpAny_letGo (wpAny_pure (wpAny_pure ?_)))
    refine wpAny_bind (wpAny_seqItems p5 rfl ?_)
    refine wpAny_bind (wpAny_newTuple ?_)
    have size : g5.objs.size = s.heap.objs.size := by rw [e5.1, e4.1, e3.1, e2.1, e1.1]
    have z5 : Zp false g5 z TI TO .ellipsis := e5.extBut _ _ D.TOz.symm (e4.extBut _ _ D.i2z.symm (e3.extBut _ _ D.TOz.symm (e2.extBut _ _ D.i1z.symm z1)))
    have old5 : ∀ c o, c ≠ z → c ≠ TO → c ≠ i1 → c ≠ i2 → s.heap.get? c = some o → g5.get? c = some o := fun c o c1 c2 c3 c4 e => e5.extBut _ _ c2 (e4.extBut _ _ c4 (e3.extBut _ _ c2 (e2.extBut _ _ c3 (e1.extBut _ _ c1 e))))
    have a5 : IsIt t1 g5 i1 l1 (k1 + 1) := ((a2.stay e3.extBut D.TOi1.symm).stay e4.extBut D.i12).stay e5.extBut D.TOi1.symm
    have b5 : IsIt t2 g5 i2 l2 (k2 + 1) := a4.stay e5.extBut D.TOi2.symm
    have zlt : z < g5.objs.size := Heap.lt_size z5
    show wpAny _ _ (Builtin.SmallTypes.ownedTupleHandOut (.ref z) (.ref g5.objs.size) >>= _) _ _ _
    refine wpAny_bind ?_
    unfold Builtin.SmallTypes.ownedTupleHandOut
    have z6 : Zp false (g5.push { cls := .type "tuple", data := .seq #[x, y] }) z TI TO .ellipsis := Heap.get?_push_of_some _ z5
    refine wpAny_bind (wpAny_setField_rec z6 (by simp) fun g7 z7 e7 => ?_)
    replace z7 : Zp false g7 z TI TO (rawInt g5.objs.size) := z7
    refine wpAny_setField_rec z7 (by simp) fun g8 z8 e8 => ?_
    replace z8 : Zp false g8 z TI TO (rawInt g5.objs.size) := z8
    have up : ∀ c o, c ≠ z → g5.get? c = some o → g8.get? c = some o := fun c o c1 e => e8.extBut _ _ c1 (e7.extBut _ _ c1 (Heap.get?_push_of_some _ e))
    have new : IsPair g8 g5.objs.size x y := e8.extBut _ _ (Nat.ne_of_gt zlt) (e7.extBut _ _ (Nat.ne_of_gt zlt) (Heap.get?_push_size _ rfl))
    rw [size] at z8 new
    refine wpAny_pure ⟨_, rfl, ?_⟩
    show Q (.ref g5.objs.size) _
    rw [size]
    exact q g8 z8 (up _ _ D.TOz p5) (a5.at' fun o e => up _ o D.i1z e) (b5.at' fun o e => up _ o D.i2z e) new fun c o c1 c2 c3 c4 e => up c o c1 (old5 c o c1 c2 c3 c4 e)
  case true =>
    show wpAny _ _ (drawB true (.ref i1)) _ _ _
    refine draw_item (h1.stay e1.extBut D.i1z) (hl1.stay e1.extBut D.l1z) hx fun g2 a2 e2 => ?_
    have p2 : IsPair g2 TO a b := e2.extBut _ _ D.TOi1 (e1.extBut _ _ D.TOz hTO)
    refine wpAny_bind (wpAny_seqItems p2 rfl ?_)
    refine wpAny_bind (wpAny_updateSeq_pair p2 fun g3 p3 e3 => ?_)
    replace p3 : IsPair g3 TO x b := p3
    refine wpAny_bind (wpAny_letGo (wpAny_pure ?_))
    refine wpAny_bind (wpAny_bind (wpAny_onRaise ?_))
    show wpAny _ _ (drawB true (.ref i2)) _ _ _
    refine draw_item (((h2.stay e1.extBut D.i2z).stay e2.extBut D.i12.symm).stay e3.extBut D.TOi2.symm) (((hl2.stay e1.extBut D.l2z).stay e2.extBut D.l2i1).stay e3.extBut D.l2TO) hy fun g4 a4 e4 => ?_
    have p4 : IsPair g4 TO x b := e4.extBut _ _ D.TOi2 p3
    refine wpAny_bind (wpAny_seqItems p4 rfl ?_)
    refine wpAny_bind (wpAny_updateSeq_pair p4 fun g5 p5 e5 => ?_)
    replace p5 : IsPair g5 TO x y := p5
    refine wpAny_bind (wpAny_letGo (wpAny_pure (wpAny_pure ?_)))
    refine wpAny_bind (wpAny_seqItems p5 rfl ?_)
    refine wpAny_bind (wpAny_newTuple ?_)
    have size : g5.objs.size = s.heap.objs.size := by rw [e5.1, e4.1, e3.1, e2.1, e1.1]
    have z5 : Zp true g5 z TI TO .ellipsis := e5.extBut _ _ D.TOz.symm (e4.extBut _ _ D.i2z.symm (e3.extBut _ _ D.TOz.symm (e2.extBut _ _ D.i1z.symm z1)))
    have old5 : ∀ c o, c ≠ z → c ≠ TO → c ≠ i1 → c ≠ i2 → s.heap.get? c = some o → g5.get? c = some o := fun c o c1 c2 c3 c4 e => e5.extBut _ _ c2 (e4.extBut _ _ c4 (e3.extBut _ _ c2 (e2.extBut _ _ c3 (e1.extBut _ _ c1 e))))
    have a5 : IsIt t1 g5 i1 l1 (k1 + 1) := ((a2.stay e3.extBut D.TOi1.symm).stay e4.extBut D.i12).stay e5.extBut D.TOi1.symm
    have b5 : IsIt t2 g5 i2 l2 (k2 + 1) := a4.stay e5.extBut D.TOi2.symm
    have zlt : z < g5.objs.size := Heap.lt_size z5
    show wpAny _ _ (Builtin.SmallTypes.ownedTupleHandOut (.ref z) (.ref g5.objs.size) >>= _) _ _ _
    refine wpAny_bind ?_
    unfold Builtin.SmallTypes.ownedTupleHandOut
    have z6 : Zp true (g5.push { cls := .type "tuple", data := .seq #[x, y] }) z TI TO .ellipsis := Heap.get?_push_of_some _ z5
    refine wpAny_bind (wpAny_setField_rec z6 (by simp) fun g7 z7 e7 => ?_)
    replace z7 : Zp true g7 z TI TO (rawInt g5.objs.size) := z7
    refine wpAny_setField_rec z7 (by simp) fun g8 z8 e8 => ?_
    replace z8 : Zp true g8 z TI TO (rawInt g5.objs.size) := z8
    have up : ∀ c o, c ≠ z → g5.get? c = some o → g8.get? c = some o := fun c o c1 e => e8.extBut _ _ c1 (e7.extBut _ _ c1 (Heap.get?_push_of_some _ e))
    have new : IsPair g8 g5.objs.size x y := e8.extBut _ _ (Nat.ne_of_gt zlt) (e7.extBut _ _ (Nat.ne_of_gt zlt) (Heap.get?_push_size _ rfl))
    rw [size] at z8 new
    refine wpAny_pure ⟨_, rfl, ?_⟩
    show Q (.ref g5.objs.size) _
    rw [size]
    exact q g8 z8 (up _ _ D.TOz p5) (a5.at' fun o e => up _ o D.i1z e) (b5.at' fun o e => up _ o D.i2z e) new fun c o c1 c2 c3 c4 e => up c o c1 (old5 c o c1 c2 c3 c4 e)

/-- the end: one of them is through; of a strict one both -/
theorem zip_end {st t1 t2 : Bool} {z TI TO i1 i2 l1 l2 : Addr} {k1 k2 : Nat} {xs ys : Array Value} {a b : Value} {Q : Fin → Shared → Prop} (hh : A.handled = none) (D : ZipApart z TI TO i1 i2 l1 l2)
    (hz : Zp st s.heap z TI TO .none) (hTI : IsPair s.heap TI (.ref i1) (.ref i2)) (hTO : IsPair s.heap TO a b)
    (h1 : IsIt t1 s.heap i1 l1 k1) (h2 : IsIt t2 s.heap i2 l2 k2) (hl1 : IsSq t1 s.heap l1 xs) (hl2 : IsSq t2 s.heap l2 ys) (hend : (st = false ∧ (xs[k1]? = none ∨ ys[k2]? = none)) ∨ (xs[k1]? = none ∧ ys[k2]? = none))
    (q : ∀ h' e, (∀ c o, c ≠ z → c ≠ TO → c ≠ i1 → c ≠ i2 → s.heap.get? c = some o → h'.get? c = some o) → (∃ o, h'.get? e = some o ∧ o.cls = .type "StopIteration") → E (.ref e) { s with heap := h' }) :
    wpAny (model prog w) A (Builtin.«zip.__next__» ⟨[.ref z], []⟩) Q E s := by
  cases st
  all_goals
    show wpAny _ _ (field (.ref z) 2 >>= _) _ _ _
    refine wpAny_bind (wpAny_field hz rfl (x := .bool _) rfl ?_)
    show wpAny _ _ (field (.ref z) 3 >>= _) _ _ _
    refine wpAny_bind (wpAny_field hz rfl (x := .ref TI) rfl ?_)
    refine wpAny_bind (wpAny_seqItems hTI rfl ?_)
    show wpAny _ _ (Builtin.SmallTypes.ownedTupleIsFree (.ref z) >>= _) _ _ _
    refine wpAny_bind ?_
    unfold Builtin.SmallTypes.ownedTupleIsFree
    refine wpAny_bind (wpAny_field hz rfl (x := .none) rfl (wpAny_pure ?_))
    simp only [if_true]
    refine wpAny_bind (wpAny_rule ?_)
    refine wpAny_bind (wpAny_field hz rfl (x := .ref TO) rfl ?_)
    refine wpAny_bind (wpAny_setField_rec hz (by simp) fun g1 z1 e1 => ?_)
    replace z1 : Zp _ g1 z TI TO .ellipsis := z1
    refine wpAny_bind ?_
    simp only [List.zipIdx_cons, List.zipIdx_nil, List.forIn_cons, List.forIn_nil]
    refine wpAny_bind (wpAny_bind (wpAny_onRaise ?_))
  case false =>
    show wpAny _ _ (Builtin.SmallTypes.nextOf (.ref i1) >>= _) _ _ _
    have hend' : xs[k1]? = none ∨ ys[k2]? = none := by
      rcases hend with h | h
      · exact h.2
      · exact .inl h.1
    cases hx : xs[k1]? with
    | none =>
      refine wpAny_bind (next_end hh (h1.stay e1.extBut D.i1z) (hl1.stay e1.extBut D.l1z) hx fun g2 e e2 he => ?_)
      obtain ⟨oe, hoe, hce⟩ := he
      have z2 : Zp false g2 z TI TO .ellipsis := e2 _ _ D.i1z.symm z1
      have hez : e ≠ z := fun x => by subst x; rw [z2] at hoe; cases hoe; simp at hce
      refine wpAny_setField_rec z2 (by simp) fun g3 _ e3 => q g3 e (fun c o c1 _ c3 _ x => e3.extBut _ _ c1 (e2 _ _ c3 (e1.extBut _ _ c1 x))) ⟨oe, e3.extBut _ _ hez hoe, hce⟩
    | some x =>
      have hy : ys[k2]? = none := by
        rcases hend' with h | h
        · rw [hx] at h; cases h
        · exact h
      refine wpAny_bind (next_item (h1.stay e1.extBut D.i1z) (hl1.stay e1.extBut D.l1z) hx fun g2 a2 e2 => wpAny_pure ?_)
      have p2 : IsPair g2 TO a b := e2.extBut _ _ D.TOi1 (e1.extBut _ _ D.TOz hTO)
      refine wpAny_bind (wpAny_seqItems p2 rfl ?_)
      refine wpAny_bind (wpAny_updateSeq_pair p2 fun g3 p3 e3 => ?_)
      refine wpAny_bind (wpAny_letGo (wpAny_pure ?_))
      refine wpAny_bind (wpAny_bind (wpAny_onRaise ?_))
      show wpAny _ _ (Builtin.SmallTypes.nextOf (.ref i2) >>= _) _ _ _
      refine wpAny_bind (next_end hh (((h2.stay e1.extBut D.i2z).stay e2.extBut D.i12.symm).stay e3.extBut D.TOi2.symm) (((hl2.stay e1.extBut D.l2z).stay e2.extBut D.l2i1).stay e3.extBut D.l2TO) hy fun g4 e e4 he => ?_)
      obtain ⟨oe, hoe, hce⟩ := he
      have z4 : Zp false g4 z TI TO .ellipsis := e4 _ _ D.i2z.symm (e3.extBut _ _ D.TOz.symm (e2.extBut _ _ D.i1z.symm z1))
      have hez : e ≠ z := fun x => by subst x; rw [z4] at hoe; cases hoe; simp at hce
      refine wpAny_setField_rec z4 (by simp) fun g5 _ e5 => q g5 e (fun c o c1 c2 c3 c4 x => e5.extBut _ _ c1 (e4 _ _ c4 (e3.extBut _ _ c2 (e2.extBut _ _ c3 (e1.extBut _ _ c1 x))))) ⟨oe, e5.extBut _ _ hez hoe, hce⟩
  case true =>
    have hx : xs[k1]? = none := by
      rcases hend with h | h
      · cases h.1
      · exact h.1
    have hy : ys[k2]? = none := by
      rcases hend with h | h
      · cases h.1
      · exact h.2
    show wpAny _ _ (Builtin.SmallTypes.nextOrEnd (.ref i1)) _ _ _
    refine end_item hh (h1.stay e1.extBut D.i1z) (hl1.stay e1.extBut D.l1z) hx fun g2 e2 => ?_
    have z2 : Zp true g2 z TI TO .ellipsis := e2 _ _ D.i1z.symm z1
    refine wpAny_bind (wpAny_setField_rec z2 (by simp) fun g3 z3 e3 => ?_)
    refine wpAny_bind ?_
    refine wpAny_bind (m := forIn _ _ _) ?_
    simp only [List.drop_succ_cons, List.drop_zero, List.zipIdx_cons, List.zipIdx_nil, List.forIn_cons, List.forIn_nil]
    refine wpAny_bind (wpAny_bind ?_)
    refine end_item hh (((h2.stay e1.extBut D.i2z).stay e2 D.i12.symm).stay e3.extBut D.i2z) (((hl2.stay e1.extBut D.l2z).stay e2 D.l2i1).stay e3.extBut D.l2z) hy fun g4 e4 => ?_
    refine wpAny_pure (wpAny_pure ?_)
    refine wpAny_bind (wpAny_rule ?_)
    show wpAny _ _ (newExc (.type "StopIteration") [] >>= _) _ _ _
    refine wpAny_bind ?_
    simp only [newExc, newTuple]
    refine wpAny_bind (wpAny_newObj_type ?_ (by size_fits))
    refine wpAny_bind (m := firstArgMember _ _) (wpAny_of_eq (a := Value.none) (by first | rfl | (simp only [firstArgMember]; rfl)) ?_)
    refine wpAny_newObj_type ?_ (by size_fits)
    simp only [raiseNew]
    refine wpAny_bind (wpAny_handled ?_)
    first | rw [show A.in1.handled = none from hh] | rw [hh]
    refine wpAny_bind (wpAny_pure (wpAny_throw ?_))
    refine q _ _ (fun c o c1 c2 c3 c4 e => ?_) ⟨_, Heap.get?_push_size _ rfl, rfl⟩
    exact Heap.get?_push_of_some _ (Heap.get?_push_of_some _ (e4 _ _ c4 (e3.extBut _ _ c1 (e2 _ _ c3 (e1.extBut _ _ c1 e)))))

theorem isZip {h : Heap} {st : Bool} {z TI TO : Addr} {f0 : Value} (hz : Zp st h z TI TO f0) : ∃ o, h.get? z = some o ∧ o.cls = .type "zip" := ⟨_, hz, rfl⟩
theorem pyNext_item {st t1 t2 : Bool} {z TI TO i1 i2 l1 l2 : Addr} {k1 k2 : Nat} {xs ys : Array Value} {x y a b : Value} {Q : Option Value → Shared → Prop} (D : ZipApart z TI TO i1 i2 l1 l2)
    (hz : Zp st s.heap z TI TO .none) (hTI : IsPair s.heap TI (.ref i1) (.ref i2)) (hTO : IsPair s.heap TO a b)
    (h1 : IsIt t1 s.heap i1 l1 k1) (h2 : IsIt t2 s.heap i2 l2 k2) (hl1 : IsSq t1 s.heap l1 xs) (hl2 : IsSq t2 s.heap l2 ys) (hx : xs[k1]? = some x) (hy : ys[k2]? = some y)
    (q : ∀ h', Zp st h' z TI TO (rawInt s.heap.objs.size) → IsPair h' TO x y → IsIt t1 h' i1 l1 (k1 + 1) → IsIt t2 h' i2 l2 (k2 + 1) → IsPair h' s.heap.objs.size x y →
      (∀ c o, c ≠ z → c ≠ TO → c ≠ i1 → c ≠ i2 → s.heap.get? c = some o → h'.get? c = some o) → Q (some (.ref s.heap.objs.size)) { s with heap := h' }) : wpAny (model prog w) A (pyNext (.ref z)) Q E s := by
  have hT : s.TypeIs (.ref z) "zip" := ⟨_, hz, rfl⟩
  unfold pyNext
  refine wpAny_bind (wpAny_attempt (wpAny_callSpecial?_slot (name := Str.ofString "__next__") hT F.slot_zip_next (wpAny_call_entry F.slot_zip_next hT F.entry_zip_next ?_ (F.args_zip_next_1 _))))
  exact zip_item D hz hTI hTO h1 h2 hl1 hl2 hx hy fun h' a1 a2 a3 a4 a5 a6 => wpAny_pure (q h' a1 a2 a3 a4 a5 a6)
theorem pyNext_end {st t1 t2 : Bool} {z TI TO i1 i2 l1 l2 : Addr} {k1 k2 : Nat} {xs ys : Array Value} {a b : Value} {Q : Option Value → Shared → Prop} (hh : A.handled = none) (D : ZipApart z TI TO i1 i2 l1 l2)
    (hz : Zp st s.heap z TI TO .none) (hTI : IsPair s.heap TI (.ref i1) (.ref i2)) (hTO : IsPair s.heap TO a b)
    (h1 : IsIt t1 s.heap i1 l1 k1) (h2 : IsIt t2 s.heap i2 l2 k2) (hl1 : IsSq t1 s.heap l1 xs) (hl2 : IsSq t2 s.heap l2 ys) (hend : (st = false ∧ (xs[k1]? = none ∨ ys[k2]? = none)) ∨ (xs[k1]? = none ∧ ys[k2]? = none))
    (q : ∀ h', (∀ c o, c ≠ z → c ≠ TO → c ≠ i1 → c ≠ i2 → s.heap.get? c = some o → h'.get? c = some o) → Q none { s with heap := h' }) : wpAny (model prog w) A (pyNext (.ref z)) Q E s := by
  have hT : s.TypeIs (.ref z) "zip" := ⟨_, hz, rfl⟩
  unfold pyNext
  refine wpAny_bind (wpAny_attempt (wpAny_callSpecial?_slot (name := Str.ofString "__next__") hT F.slot_zip_next (wpAny_call_entry F.slot_zip_next hT F.entry_zip_next (zip_end hh D hz hTI hTO h1 h2 hl1 hl2 hend fun h' e hk he => ?_) (F.args_zip_next_1 _))))
  obtain ⟨o, ho, hc⟩ := he
  refine wpAny_bind (wpAny_isInstance (T := "StopIteration") (b := true) ⟨o, ho, hc⟩ isSubtype_stop ?_)
  exact wpAny_pure (q _ hk)
theorem letGo_zip {st : Bool} {elts : List Expr} {x1 : Nat} {pos : Pos} {z TI TO T : Addr} {Q : Unit → Shared → Prop} (hz : Zp st s.heap z TI TO (rawInt T))
    (q : ∀ h', Zp st h' z TI TO .none → Heap.SameBut z s.heap h' → Q () { s with heap := h' }) : wpAny (model prog w) A (letOwnedTupleGo (.Tuple elts x1 pos) (.ref z) (.ref T)) Q E s := by
  unfold letOwnedTupleGo
  refine wpAny_bind (wpAny_load hz ?_)
  show wpAny _ _ (if (["enumerate", "zip", "dict_itemiterator", "dict_reverseitemiterator", "odict_iterator", "itertools.zip_longest", "itertools.pairwise"].contains "zip" &&
      (#[rawInt T, .bool false, .bool st, .ref TI, .ref TO] : Array Value)[0]? == some (rawInt T)) = true then _ else _) Q E s
  rw [if_pos (by simp)]
  refine wpAny_bind (wpAny_rule ?_)
  show wpAny _ _ (setField (.ref z) 0 .none) Q E s
  exact wpAny_setField_rec hz (by simp) fun h' hz' hs' => q h' hz' hs'
theorem iter_zip {st : Bool} {z TI TO : Addr} {f0 : Value} {Q : Value → Shared → Prop} (hz : Zp st s.heap z TI TO f0) (h : Q (.ref z) s) : wpAny (model prog w) A (pyIter (.ref z)) Q E s := by
  have hT : s.TypeIs (.ref z) "zip" := ⟨_, hz, rfl⟩
  refine wpAny_pyIter_slot hT F.slot_zip_iter (wpAny_call_entry F.slot_zip_iter hT F.entry_zip_iter ?_ (F.args_zip_iter_1 _))
  show wpAny _ _ (ret (.ref z)) _ _ s
  exact wpAny_pure ⟨_, rfl, "zip", _, hT, F.slot_zip_next.lookup, h⟩
theorem iter_sq {t : Bool} {l : Addr} {xs : Array Value} {Q : Value → Shared → Prop} (hl : IsSq t s.heap l xs)
    (q : Q (.ref s.heap.objs.size) { s with heap := s.heap.push { cls := .type (itN t), data := .fields #[.ref l, .int 0 0] } }) : wpAny (model prog w) A (pyIter (.ref l)) Q E s := by
  cases t with
  | true => exact wpAny_pyIter_tuple (items := xs) hl q
  | false => exact wpAny_pyIter_list (items := xs) hl q
end
/-! the heaps of a call -/
abbrev g1 (t1 : Bool) (h : Heap) (l1 : Addr) : Heap := h.push { cls := .type (itN t1), data := .fields #[.ref l1, .int 0 0] }
abbrev g2 (t1 t2 : Bool) (h : Heap) (l1 l2 : Addr) : Heap := (g1 t1 h l1).push { cls := .type (itN t2), data := .fields #[.ref l2, .int 0 0] }
abbrev g3 (t1 t2 : Bool) (h : Heap) (l1 l2 : Addr) : Heap := (g2 t1 t2 h l1 l2).push { cls := .type "tuple", data := .seq #[.ref h.objs.size, .ref (g1 t1 h l1).objs.size] }
abbrev g4 (t1 t2 : Bool) (h : Heap) (l1 l2 : Addr) : Heap := (g3 t1 t2 h l1 l2).push { cls := .type "tuple", data := .seq #[.none, .none] }
abbrev g5 (st t1 t2 : Bool) (h : Heap) (l1 l2 : Addr) : Heap := (g4 t1 t2 h l1 l2).push { cls := .type "zip", data := .fields #[.none, .bool false, .bool st, .ref (g2 t1 t2 h l1 l2).objs.size, .ref (g3 t1 t2 h l1 l2).objs.size] }
theorem new_plain (t1 t2 : Bool) (l1 l2 : Addr) (xs ys : Array Value) :
    Meets (Builtin.«zip.__new__» ⟨[.type "zip", .ref l1, .ref l2], []⟩) (fun _ R s => IsSq t1 s.heap l1 xs ∧ IsSq t2 s.heap l2 ys ∧ R (.ok (.ret (.ref (g4 t1 t2 s.heap l1 l2).objs.size))) { s with heap := g5 false t1 t2 s.heap l1 l2 }) :=
  .of_wp fun prog w A R s h => by
    obtain ⟨hp, g, d, tk, os⟩ := s
    obtain ⟨hl1, hl2, h⟩ := h
    have hsub := sub_zip
    have hL1 : IsSq t1 (Shared.heap ⟨hp, g, d, tk, os⟩) l1 xs := hl1
    have hL2 : IsSq t2 (Shared.heap ⟨hp.push { cls := .type (itN t1), data := .fields #[.ref l1, .int 0 0] }, g, d, tk, os⟩) l2 ys := IsSq.more hl2 _
    wp_walk using iter_sq hL1, iter_sq hL2
    exact ⟨_, rfl, h⟩
theorem new_strict (t1 t2 : Bool) (l1 l2 : Addr) (xs ys : Array Value) (b : Bool) :
    Meets (Builtin.«zip.__new__» ⟨[.type "zip", .ref l1, .ref l2], [("strict", .bool b)]⟩) (fun _ R s => IsSq t1 s.heap l1 xs ∧ IsSq t2 s.heap l2 ys ∧ R (.ok (.ret (.ref (g4 t1 t2 s.heap l1 l2).objs.size))) { s with heap := g5 b t1 t2 s.heap l1 l2 }) :=
  .of_wp fun prog w A R s h => by
    obtain ⟨hp, g, d, tk, os⟩ := s
    obtain ⟨hl1, hl2, h⟩ := h
    have hsub := sub_zip
    have hL1 : IsSq t1 (Shared.heap ⟨hp, g, d, tk, os⟩) l1 xs := hl1
    have hL2 : IsSq t2 (Shared.heap ⟨hp.push { cls := .type (itN t1), data := .fields #[.ref l1, .int 0 0] }, g, d, tk, os⟩) l2 ys := IsSq.more hl2 _
    wp_walk using iter_sq hL1, iter_sq hL2
    exact ⟨_, rfl, h⟩
end DZ
set_option Elab.async false
set_option linter.all false
set_option maxRecDepth 100000
set_option maxHeartbeats 2000000
set_option autoImplicit false
/-! DLy: loops over zip(..). -/
namespace DZ
open PySem PySem.Spec PyProof.Rows L2
def Sq (t : Bool) (K : PySem.W.Frag) (H : Hp) (a : Addr) (xs : List V) : Prop := match t with
  | true => SqT K H a xs
  | false => SqL K H a xs
theorem sq_inj {t : Bool} {X : Cx} {pins : List (Addr × Obj)} {σ : L2.St} {H : Hp} {s : Shared} {a : Addr} {xs ys : List V} (I : Inv X pins σ H s) (h : Sq t X.K H a xs) (h' : Sq t X.K H a ys) : xs = ys := by
  cases t with
  | true => exact I.tuple_inj h h'
  | false => exact I.list_inj h h'
theorem sq_obj {t : Bool} {X : Cx} {pins : List (Addr × Obj)} {σ : L2.St} {H : Hp} {s : Shared} {a : Addr} {xs : List V} (I : Inv X pins σ H s) (h : Sq t X.K H a xs) : ∃ its : List Value, Vals xs its ∧ IsSq t s.heap a its.toArray ∧ a < s.heap.objs.size := by
  cases t with
  | true =>
    obtain ⟨its, rv, p, _⟩ := I.tuple h
    have p' : s.heap.IsTuple a its.toArray := p
    obtain ⟨o, ho, _⟩ := id p'
    exact ⟨its, rv, p', Heap.lt_size ho⟩
  | false =>
    obtain ⟨its, rv, p, _⟩ := I.list h
    have p' : s.heap.IsList a its.toArray := p.isList
    obtain ⟨o, ho, _⟩ := id p'
    exact ⟨its, rv, p', Heap.lt_size ho⟩
/-- two sequences as they stand at each turn -/
def Itz2 (st t1 t2 : Bool) (K : PySem.W.Frag) (a b : Addr) : It :=
  ⟨fun i H => ∃ (xs ys : List V) (x y : V), Sq t1 K H a xs ∧ Sq t2 K H b ys ∧ xs[i]? = some x ∧ ys[i]? = some y,
    fun i H v H' => ∃ T x y, v = .ref T ∧ H T = none ∧ H' = upd H T (.tup [x, y]) ∧ (∀ xs, Sq t1 K H a xs → xs[i]? = some x) ∧ ∀ ys, Sq t2 K H b ys → ys[i]? = some y,
    fun i H => ∃ xs ys : List V, Sq t1 K H a xs ∧ Sq t2 K H b ys ∧ ((st = false ∧ (xs.length ≤ i ∨ ys.length ≤ i)) ∨ (xs.length ≤ i ∧ ys.length ≤ i))⟩
theorem turn2 {P : Program} {w : World} {K : PySem.W.Frag} {elts : List Expr} {kk : Nat} {tpos : Pos} {st t1 t2 : Bool} {a b z TI TO i1 i2 : Addr} (D : ZipApart z TI TO i1 i2 a b) :
    Turn P w K (.Tuple elts kk tpos) (Itz2 st t1 t2 K a b) [z, TI, TO, i1, i2] z (fun i h => Zp st h z TI TO .none ∧ IsPair h TI (.ref i1) (.ref i2) ∧ (∃ x y, IsPair h TO x y) ∧ IsIt t1 h i1 a i ∧ IsIt t2 h i2 b i) where
  mem := by simp
  obj := fun i h st c hc => by
    obtain ⟨hz, hTI, ⟨x, y, hTO⟩, ⟨o1, e1, _, d1⟩, ⟨o2, e2, _, d2⟩⟩ := st
    have e' : c = z ∨ c = TI ∨ c = TO ∨ c = i1 ∨ c = i2 := by simpa using hc
    rcases e' with q | q | q | q | q
    · rw [q]; exact ⟨_, hz, fun v q => nomatch q⟩
    · rw [q]; exact ⟨_, hTI, fun v q => nomatch q⟩
    · rw [q]; exact ⟨_, hTO, fun v q => nomatch q⟩
    · rw [q]; exact ⟨o1, e1, fun v q => by rw [d1] at q; cases q⟩
    · rw [q]; exact ⟨o2, e2, fun v q => by rw [d2] at q; cases q⟩
  keep := fun i h h' st k => by
    obtain ⟨hz, hTI, ⟨x, y, hTO⟩, h1, h2⟩ := st
    exact ⟨k z (by simp) _ hz, k TI (by simp) _ hTI, ⟨x, y, k TO (by simp) _ hTO⟩, h1.at' fun o q => k i1 (by simp) o q, h2.at' fun o q => k i2 (by simp) o q⟩
  item := by
    intro X hP hw hK hc i pins s σ H E I hf st hg
    subst hP hw hK
    obtain ⟨hz, hTI, ⟨x0, y0, hTO⟩, h1, h2⟩ := st
    obtain ⟨xs, ys, x, y, hqx, hqy, hx, hy⟩ := hg
    obtain ⟨its, rv, p, _⟩ := sq_obj I hqx
    obtain ⟨its2, rv2, p2, _⟩ := sq_obj I hqy
    obtain ⟨u, hu, ru⟩ := rv.get hx
    obtain ⟨u2, hu2, ru2⟩ := rv2.get hy
    have hzl : z < s.heap.objs.size := Heap.lt_size hz
    have hl1 := h1.lt
    have hl2 := h2.lt
    refine pyNext_item D hz hTI hTO h1 h2 p p2 (x := u) (y := u2) (by simpa using hu) (by simpa using hu2) fun h' z' TO' h1' h2' hT hk => ?_
    refine ⟨_, rfl, letGo_zip (s := { s with heap := h' }) z' fun h'' z'' sb => ?_⟩
    have hT2 : h''.get? s.heap.objs.size = some { cls := .type "tuple", data := .seq #[u, u2] } := (sb.2 _ (Nat.ne_of_gt hzl)).trans hT
    have new : ObjOk X.prog X.w (upd H s.heap.objs.size (.tup [x, y])) h'' s.heap.objs.size (.tup [x, y]) := ⟨by show 2 ≤ sizeLine; decide, [u, u2], .cons ru (.cons ru2 .nil), ⟨_, hT2, rfl, _, rfl⟩⟩
    have I1 : Inv X pins σ (upd H s.heap.objs.size (.tup [x, y])) { s with heap := h'' } := by
      refine I.turnedNew (t' := s.toks) (ch := [z, TI, TO, i1, i2]) (fun c o hb q => ?_) hf (Nat.le_refl _) new
      simp only [List.mem_cons, List.not_mem_nil, or_false, not_or] at hb
      exact (sb.2 c hb.1).trans (hk c o hb.1 hb.2.2.1 hb.2.2.2.1 hb.2.2.2.2 q)
    refine ⟨.ref s.heap.objs.size, _, I1, rfl, ⟨_, x, y, rfl, I.hok.fresh (Nat.le_refl _), rfl, fun l hl => by rw [sq_inj I hl hqx]; exact hx, fun l hl => by rw [sq_inj I hl hqy]; exact hy⟩, ⟨z'', ?_, ⟨u, u2, ?_⟩, ?_, ?_⟩, fun c hcm => ?_⟩
    · exact (sb.2 _ D.TIz).trans (hk _ _ D.TIz D.TITO D.TIi1 D.TIi2 hTI)
    · exact (sb.2 _ D.TOz).trans TO'
    · exact h1'.at' fun o q => (sb.2 _ D.i1z).trans q
    · exact h2'.at' fun o q => (sb.2 _ D.i2z).trans q
    · have hlt : c < s.heap.objs.size := by
        have e' : c = z ∨ c = TI ∨ c = TO ∨ c = i1 ∨ c = i2 := by simpa using hcm
        rcases e' with q | q | q | q | q
        · rw [q]; exact hzl
        · rw [q]; exact Heap.lt_size hTI
        · rw [q]; exact Heap.lt_size hTO
        · rw [q]; exact hl1
        · rw [q]; exact hl2
      rw [upd_ne (Nat.ne_of_lt hlt)]
      exact (hf c hcm).1
  done := by
    intro X hP hw hK hc i pins s σ H E I hf st hg
    subst hP hw hK
    obtain ⟨hz, hTI, ⟨x0, y0, hTO⟩, h1, h2⟩ := st
    obtain ⟨xs, ys, hqx, hqy, hend⟩ := hg
    obtain ⟨its, rv, p, _⟩ := sq_obj I hqx
    obtain ⟨its2, rv2, p2, _⟩ := sq_obj I hqy
    have l1 := rv.length
    have l2 := rv2.length
    refine pyNext_end (I.ok.hd hc) D hz hTI hTO h1 h2 p p2 ?_ fun h' hk => ⟨rfl, I.turnedL (t' := s.toks) (ch := [z, TI, TO, i1, i2]) (fun c o hb q => ?_) hf⟩
    · rcases hend with ⟨q0, q⟩ | ⟨q, q'⟩
      · refine .inl ⟨q0, ?_⟩
        rcases q with q | q
        · exact .inl (by simp; omega)
        · exact .inr (by simp; omega)
      · exact .inr ⟨by simp; omega, by simp; omega⟩
    · simp only [List.mem_cons, List.not_mem_nil, or_false, not_or] at hb
      exact hk c o hb.1 hb.2.2.1 hb.2.2.2.1 hb.2.2.2.2 q
  self := fun A i s Q E st h => iter_zip st.1 h

/-! the call, with and without strict -/
section
variable {prog : Program} {w : World} {A : Around} {E : Value → Shared → Prop} {s : Shared}
theorem typeCall_strict (a b : Value) (c : Bool) : checkTypeCall "zip" ⟨[a, b], [("strict", .bool c)]⟩ = pure () := by kernel_rfl
theorem newCall_strict (a b : Value) (c : Bool) : checkBuiltinCall "zip.__new__" ⟨[.type "zip", a, b], [("strict", .bool c)]⟩ = pure () := by kernel_rfl
theorem args_strict (a b o : Value) (c : Bool) : argsOk "object.__init__" ⟨[o, a, b], [("strict", .bool c)]⟩ := by
  unfold argsOk; rw [signature?_of (id := "object.__init__") (n := ['_', '_', 't', 'i', 'n', 'i', '_', '_']) (o := ['t', 'c', 'e', 'j', 'b', 'o']) (by kernel_rfl) F.owner_object]; kernel_rfl
theorem init_strict {T newId : String} {self a b c : Value} (hl : typeLookup (.type T) "__init__" = pure (some (.builtin "object.__init__"))) (hm : Bind.madeBy (.type T) = pure (some newId)) (hne : (some newId != some "object.__new__") = true) :
    Meets (Builtin.«object.__init__» ⟨[self, a, b], [("strict", c)]⟩) (fun _ R s => s.TypeIs self T ∧ R (.ok (.ret .none)) s) := by
  refine Meets.of_wp fun prog w A R s hs => ?_
  obtain ⟨hT, hq⟩ := hs
  repeat (any_goals (first | assumption | wp_step))
  exact ⟨_, rfl, hq⟩
/-- a call of a type with one keyword -/
theorem call_typeK {T newId : String} {Bn : Builtin} {a b c : Value} {S : PySem.Spec} {Q : Value → Shared → Prop} (ft : TypeCalled T newId "object.__init__") (hne : (some newId != some "object.__new__") = true)
    (ct : checkTypeCall T ⟨[a, b], [("strict", c)]⟩ = pure ()) (cn : checkBuiltinCall newId ⟨[.type T, a, b], [("strict", c)]⟩ = pure ()) (ok : ∀ obj, argsOk "object.__init__" ⟨[obj, a, b], [("strict", c)]⟩)
    (entryN : entryFor table newId = some Bn) (g : Meets (Bn ⟨[.type T, a, b], [("strict", c)]⟩) S)
    (h : S A.in1 (wants (fun obj s₁ => s₁.TypeIs obj T ∧ Q obj s₁) E) s) : wpAny (model prog w) A (call (.type T) [a, b] [("strict", c)]) Q E s := by
  obtain ⟨cc, tl, hmro⟩ := ft.mro
  have hmade := ft.made
  have hsub := ft.sub
  refine wpAny_call (codeAny_of_tree ?_)
  show wpAny _ _ (callAny (.type T) _) _ _ _
  refine wpAny_pure ⟨Code.quiet_builtin _ (by decide +kernel), codeAny_builtin F.entry_type_call ?_⟩
  rw [Around.under_plain (weight_type_call_type T [a, b] [("strict", c)]) (units_type_call_type T [a, b] [("strict", c)])]
  have k1 := ft.notType
  have k2 := ft.canCreate
  repeat (any_goals (first | assumption | wp_step))
  refine codeAny_mono (codeAny_call_builtin ft.plain entryN (wpAny_of_eq cn (g prog w A.in1 _ s h))) fun r s₁ hr => ?_
  match r, hr with
  | .error e, hr => exact hr
  | .ok .next, hr => exact hr.elim
  | .ok .brk, hr => exact hr.elim
  | .ok .cont, hr => exact hr.elim
  | .ok (.ret obj), hr =>
    obtain ⟨hT, hq⟩ := hr
    have hli := ft.init.lookup
    have hbi := ft.init.bind obj
    repeat (any_goals (first | assumption | wp_step))
    refine codeAny_mono (codeAny_call_builtin ft.init.plain F.entry_object_init (ft.init.check _ _ _ _ _ _ _ _ hT (ok obj) ((init_strict ft.init.lookup ft.made hne) prog w A.in1 (wants (fun r s₂ => r = .none ∧ Q obj s₂) E) s₁ ⟨hT, ⟨rfl, hq⟩⟩))) fun r₂ s₂ hr₂ => ?_
    match r₂, hr₂ with
    | .error e, hr₂ => exact hr₂
    | .ok .next, hr₂ => exact hr₂.elim
    | .ok .brk, hr₂ => exact hr₂.elim
    | .ok .cont, hr₂ => exact hr₂.elim
    | .ok (.ret r), hr₂ =>
      obtain ⟨rfl, hq⟩ := hr₂
      repeat (any_goals (first | assumption | wp_step))
end
end DZ
namespace DZ
open PySem PySem.Spec PyProof.Rows L2
section
variable {prog : Program} {w : World} {A : Around} {E : Value → Shared → Prop} {s : Shared}
theorem heaps (st t1 t2 : Bool) {l1 l2 : Addr} {Q : Value → Shared → Prop}
    (q : ∀ h', Zp st h' (s.heap.objs.size + 4) (s.heap.objs.size + 2) (s.heap.objs.size + 3) .none → IsPair h' (s.heap.objs.size + 2) (.ref s.heap.objs.size) (.ref (s.heap.objs.size + 1)) → IsPair h' (s.heap.objs.size + 3) .none .none →
      IsIt t1 h' s.heap.objs.size l1 0 → IsIt t2 h' (s.heap.objs.size + 1) l2 0 → (∀ c o, s.heap.get? c = some o → h'.get? c = some o) → Q (.ref (s.heap.objs.size + 4)) { s with heap := h' }) :
    Shared.TypeIs { s with heap := g5 st t1 t2 s.heap l1 l2 } (.ref (g4 t1 t2 s.heap l1 l2).objs.size) "zip" ∧ Q (.ref (g4 t1 t2 s.heap l1 l2).objs.size) { s with heap := g5 st t1 t2 s.heap l1 l2 } := by
  have n1 : (g1 t1 s.heap l1).objs.size = s.heap.objs.size + 1 := Heap.size_push ..
  have n2 : (g2 t1 t2 s.heap l1 l2).objs.size = s.heap.objs.size + 2 := by rw [Heap.size_push, n1]
  have n3 : (g3 t1 t2 s.heap l1 l2).objs.size = s.heap.objs.size + 3 := by rw [Heap.size_push, n2]
  have n4 : (g4 t1 t2 s.heap l1 l2).objs.size = s.heap.objs.size + 4 := by rw [Heap.size_push, n3]
  have a5 : (g5 st t1 t2 s.heap l1 l2).get? (g4 t1 t2 s.heap l1 l2).objs.size = some _ := Heap.get?_push_size _ rfl
  have a4 : (g5 st t1 t2 s.heap l1 l2).get? (g3 t1 t2 s.heap l1 l2).objs.size = some _ := Heap.get?_push_of_some _ (Heap.get?_push_size _ rfl)
  have a3 : (g5 st t1 t2 s.heap l1 l2).get? (g2 t1 t2 s.heap l1 l2).objs.size = some _ := Heap.get?_push_of_some _ (Heap.get?_push_of_some _ (Heap.get?_push_size _ rfl))
  have a2 : (g5 st t1 t2 s.heap l1 l2).get? (g1 t1 s.heap l1).objs.size = some _ := Heap.get?_push_of_some _ (Heap.get?_push_of_some _ (Heap.get?_push_of_some _ (Heap.get?_push_size _ rfl)))
  have a1 : (g5 st t1 t2 s.heap l1 l2).get? s.heap.objs.size = some _ := Heap.get?_push_of_some _ (Heap.get?_push_of_some _ (Heap.get?_push_of_some _ (Heap.get?_push_of_some _ (Heap.get?_push_size _ rfl))))
  refine ⟨⟨_, a5, rfl⟩, ?_⟩
  rw [n2, n3, n4] at a5
  rw [n1, n2] at a3
  rw [n3] at a4
  rw [n1] at a2
  rw [n4]
  exact q _ a5 a3 a4 ⟨_, a1, rfl, rfl⟩ ⟨_, a2, rfl, rfl⟩ fun c o x => Heap.get?_push_of_some _ (Heap.get?_push_of_some _ (Heap.get?_push_of_some _ (Heap.get?_push_of_some _ (Heap.get?_push_of_some _ x))))
theorem call_plain {t1 t2 : Bool} {l1 l2 : Addr} {xs ys : Array Value} {Q : Value → Shared → Prop} (hl1 : IsSq t1 s.heap l1 xs) (hl2 : IsSq t2 s.heap l2 ys)
    (q : ∀ h', Zp false h' (s.heap.objs.size + 4) (s.heap.objs.size + 2) (s.heap.objs.size + 3) .none → IsPair h' (s.heap.objs.size + 2) (.ref s.heap.objs.size) (.ref (s.heap.objs.size + 1)) → IsPair h' (s.heap.objs.size + 3) .none .none →
      IsIt t1 h' s.heap.objs.size l1 0 → IsIt t2 h' (s.heap.objs.size + 1) l2 0 → (∀ c o, s.heap.get? c = some o → h'.get? c = some o) → Q (.ref (s.heap.objs.size + 4)) { s with heap := h' }) :
    wpAny (model prog w) A (call (.type "zip") [.ref l1, .ref l2]) Q E s :=
  callType_new F.called_zip (by decide) (F.typeCall_zip_2 _ _) (F.newCall_zip_2 _ _) (fun obj => F.args_object_init_3 obj _ _) F.entry_zip_new (new_plain t1 t2 l1 l2 xs ys) ⟨hl1, hl2, heaps false t1 t2 q⟩
theorem call_strict {t1 t2 : Bool} {l1 l2 : Addr} {xs ys : Array Value} {c : Bool} {Q : Value → Shared → Prop} (hl1 : IsSq t1 s.heap l1 xs) (hl2 : IsSq t2 s.heap l2 ys)
    (q : ∀ h', Zp c h' (s.heap.objs.size + 4) (s.heap.objs.size + 2) (s.heap.objs.size + 3) .none → IsPair h' (s.heap.objs.size + 2) (.ref s.heap.objs.size) (.ref (s.heap.objs.size + 1)) → IsPair h' (s.heap.objs.size + 3) .none .none →
      IsIt t1 h' s.heap.objs.size l1 0 → IsIt t2 h' (s.heap.objs.size + 1) l2 0 → (∀ c o, s.heap.get? c = some o → h'.get? c = some o) → Q (.ref (s.heap.objs.size + 4)) { s with heap := h' }) :
    wpAny (model prog w) A (call (.type "zip") [.ref l1, .ref l2] [("strict", .bool c)]) Q E s :=
  call_typeK F.called_zip (by decide) (typeCall_strict _ _ _) (newCall_strict _ _ _) (fun obj => args_strict _ _ obj _) F.entry_zip_new (new_strict t1 t2 l1 l2 xs ys c) ⟨hl1, hl2, heaps c t1 t2 q⟩
theorem apart5 {n l1 l2 : Addr} (h1 : l1 < n) (h2 : l2 < n) : ZipApart (n + 4) (n + 2) (n + 3) n (n + 1) l1 l2 := PySem.W.ktu_apart n l1 l2 h1 h2
/-- a call of a type with keywords, its arguments -/
theorem with_typeK {M : Model} {E : Value → Shared → Prop} {env : Env} {pos : Pos} {T : String} {e : Expr} {rest : List Expr} {kws : List Keyword} {Q : Value → Shared → Prop}
    (h : wpAny M A (spliced (backTo pos (starEach (e :: rest) env))) (fun vs s₁ => wpAny M A (evalAll ((backToKw pos (keywordEach kws env)).map (·.2))) (fun kvs s₂ => wpAny M A (call (.type T) vs (((backToKw pos (keywordEach kws env)).filterMap (·.1)).zip kvs)) Q E s₂) E s₁) E s)
    (he : backTo pos (starEach (e :: rest) env) = (false, eval e env) :: backTo pos (starEach rest env)) (hp : (backTo pos (starEach (e :: rest) env)).any (·.1) = false)
    (ha : (backToKw pos (keywordEach kws env)).all (·.1.isSome) = true) (hk : (backToKw pos (keywordEach kws env)).any (·.1.isNone) = false) :
    wpAny M A (callWith pos (.type T) [] (backTo pos (starEach (e :: rest) env)) (backToKw pos (keywordEach kws env))) Q E s := by
  have h2 : wpAny M A (evalArgs (.type T) true (backTo pos (starEach (e :: rest) env)) (backToKw pos (keywordEach kws env))) (fun a s₁ => wpAny M A (call (.type T) ([] ++ a.pos) a.kw) Q E s₁) E s := by
    rw [he] at h ⊢
    exact evalArgs_kwB ha h
  unfold callWith
  refine wpAny_bind (wpAny_holding (wpAny_mono h2 (fun a s₁ h₁ => wpAny_bind (wpAny_standAt ?_)) fun _ _ x => x))
  simp only [hp, hk, Bool.or_false]
  refine wpAny_bind (wpAny_pure ?_)
  exact wpAny_bind (wpAny_mono h₁ (fun r s₂ hr => wpAny_bind (wpAny_holding (wpAny_point (wpAny_pure hr)))) fun _ _ x => x)
end
end DZ
namespace DL
open PySem PySem.Spec PyProof.Rows L2 DZ
def zipD (as bs : List PyData) : List PyData := (as.zip bs).map fun p => .tuple [p.1, p.2]
theorem zipD_get {as bs : List PyData} {i : Nat} {d : PyData} (h : (zipD as bs)[i]? = some d) : ∃ a b, as[i]? = some a ∧ bs[i]? = some b ∧ d = .tuple [a, b] := by
  unfold zipD at h
  rw [List.getElem?_map] at h
  cases e : (as.zip bs)[i]? with
  | none => rw [e] at h; cases h
  | some p =>
    rw [e] at h
    cases h
    obtain ⟨h1, h2⟩ := List.getElem?_zip_eq_some.mp e
    exact ⟨_, _, h1, h2, rfl⟩
theorem zipD_len {as bs : List PyData} : (zipD as bs).length = min as.length bs.length := by unfold zipD; rw [List.length_map, List.length_zip]
theorem iter_zip2 {K : PySem.W.Frag} {G F : Hp} {st t1 t2 : Bool} {a b : Addr} {vs ws : List V} {as bs : List PyData} (f1 : ∀ H, Same F H → Sq t1 K H a vs) (f2 : ∀ H, Same F H → Sq t2 K H b ws) (g1 : RpL F as vs) (g2 : RpL F bs ws)
    (hs : st = true → as.length = bs.length) : IterOk (Itz2 st t1 t2 K a b) G F (zipD as bs) where
  go := fun i H _ s hi => by
    rw [zipD_len] at hi
    have h1 : i < vs.length := by rw [g1.len]; omega
    have h2 : i < ws.length := by rw [g2.len]; omega
    exact ⟨vs, ws, vs[i], ws[i], f1 H s, f2 H s, List.getElem?_eq_getElem h1, List.getElem?_eq_getElem h2⟩
  yld := fun i H x H' d _ s e y => by
    obtain ⟨da, db, e1, e2, ed⟩ := zipD_get e
    obtain ⟨T, x', y', ex, hT, eH, k1, k2⟩ := y
    obtain ⟨v, hv, rv⟩ := g1.get e1
    obtain ⟨w, hw, rw_⟩ := g2.get e2
    have q1 := k1 _ (f1 H s)
    have q2 := k2 _ (f2 H s)
    rw [hv] at q1; cases q1
    rw [hw] at q2; cases q2
    exact .inr ⟨T, _, _, hT, eH, ed, ex, RpL.cons rv (RpL.cons rw_ RpL.nil)⟩
  stop := fun i H _ s hi => by
    rw [zipD_len] at hi
    refine ⟨vs, ws, f1 H s, f2 H s, ?_⟩
    rw [g1.len, g2.len]
    cases st with
    | false => exact .inl ⟨rfl, by omega⟩
    | true => exact .inr (by have := hs rfl; omega)
theorem seq_sq {K : PySem.W.Frag} {F : Hp} {d : PyData} {ds : List PyData} {v : V} (rp : Rp F d v) (h : itemsOf d = some ds) : ∃ (t : Bool) (a : Addr) (vs : List V), v = .ref a ∧ RpL F ds vs ∧ ∀ H, Same F H → Sq t K H a vs := by
  cases d with
  | list es => cases h; obtain ⟨a, vs, ev, f, g⟩ := rp.list; exact ⟨false, a, vs, ev, g, fun H s => SqL.of (s _ _ f)⟩
  | tuple es => cases h; obtain ⟨a, vs, ev, f, g⟩ := rp.tuple; exact ⟨true, a, vs, ev, g, fun H s => SqT.of (s _ _ f)⟩
  | _ => cases h
def wZip (st : Bool) (w1 w2 : WE) : WI := fun env P => w1 env fun d e1 => w2 e1 fun d2 e2 => ∃ as bs, itemsOf d = some as ∧ itemsOf d2 = some bs ∧ (st = true → as.length = bs.length) ∧ P (zipD as bs) e2
section
variable {X : Cx} {tg a b : Expr} {w1 w2 : WE} {pos : Pos}
theorem moZip {st : Bool} (h1 : MoE w1) (h2 : MoE w2) : MoA (wZip st w1 w2) := fun env P P' k q => h1 _ _ _ (fun d e q => h2 _ _ _ (fun d2 e2 ⟨as, bs, x, y, z, q⟩ => ⟨as, bs, x, y, z, k _ _ q⟩) q) q
/-- what zip is handed -/
theorem zip_args {st : Bool} (h1 : ED X a w1) (h2 : ED X b w2) {σ : L2.St} {H : Hp} {R : It → Hp → Prop} (h : tI X.mg (wZip st w1 w2) σ H R) :
    tW X.mg w1 σ H fun x H1 => tW X.mg w2 σ H1 fun y H2 => ∃ (t1 t2 : Bool) (p q : Addr) (vs ws : List V), x = .ref p ∧ y = .ref q ∧ Sq t1 X.K H2 p vs ∧ Sq t2 X.K H2 q ws ∧ R (Itz2 st t1 t2 X.K p q) H2 := by
  obtain ⟨G, F, pc, env, r, q⟩ := h
  refine ⟨G, F, pc, env, r, h1.mo _ _ _ (fun d e1 q1 v F1 pc1 H1 s1 p1 r1 rp1 => ?_) q⟩
  refine ⟨G, F1, pc1, e1, r1, h2.mo _ _ _ (fun d2 e2 q2 v2 F2 pc2 H2 s2 p2 r2 rp2 => ?_) q1⟩
  obtain ⟨as, bs, ea, eb, hs, k⟩ := q2
  obtain ⟨t1, p, vs, ev, g1, f1⟩ := seq_sq (K := X.K) (Rp.mono s2 _ _ rp1) ea
  obtain ⟨t2, p', ws, ew, g2, f2⟩ := seq_sq (K := X.K) rp2 eb
  exact ⟨t1, t2, p, p', vs, ws, ev, ew, f1 _ r2.base.f, f2 _ r2.base.f, k _ F2 pc2 H2 (s1.trans s2) (p1.trans p2) r2 (iter_zip2 f1 f2 g1 g2 hs)⟩
theorem zip_fresh {pins : List (Addr × Obj)} {σ : L2.St} {H : Hp} {s : Shared} (I : Inv X pins σ H s) : ∀ c, c ∈ [s.heap.objs.size + 4, s.heap.objs.size + 2, s.heap.objs.size + 3, s.heap.objs.size, s.heap.objs.size + 1] → FpOk X pins H c := by
  intro c hc
  have hle : s.heap.objs.size ≤ c := by
    simp only [List.mem_cons, List.not_mem_nil, or_false] at hc
    omega
  exact I.fpOk hle (I.hok.fresh hle)
theorem id_zip {p tpos : Pos} {elts : List Expr} {kk : Nat} (hg : Gl X "zip") (hm : X.mg "zip" = none) (h1 : ED X a w1) (h2 : ED X b w2) (hs : starEach [a, b] X.env = (false, eval a X.env) :: starEach [b] X.env := by rfl) (hs2 : starEach [b] X.env = (false, eval b X.env) :: starEach [] X.env := by rfl)
    (hpl : (backTo pos (starEach [b] X.env)).any (·.1) = false := by rfl) : ID X (.Tuple elts kk tpos) (.Call (.Name "zip" p) [a, b] [] pos) (wZip false w1 w2) := by
  refine ⟨moZip h1.mo h2.mo, ⟨fun pins s σ H R I h => ?_⟩⟩
  have hq := zip_args h1 h2 h
  refine Call_ (ld_blt I hg hm PyProof.Rows.boot_zip (PyProof.Rows.callWith_type1 (thn ((pa_cons h1.pe (pa_cons h2.pe pa_nil hs2) hs).run pos pins s σ H (fun vs H2 => ∃ (t1 t2 : Bool) (p q : Addr) (xs ys : List V), vs = [.ref p, .ref q] ∧ Sq t1 X.K H2 p xs ∧ Sq t2 X.K H2 q ys ∧ R (Itz2 false t1 t2 X.K p q) H2) I ?_) fun us s1 ⟨vs, H1, I1, r1, q1⟩ => ?_) hs hpl))
  · refine tW_mono h1.mo hq fun x H1 k => tW_mono h2.mo k fun y H2 ⟨t1, t2, p, q, xs, ys, ex, ey, k1, k2, k3⟩ => ⟨t1, t2, p, q, xs, ys, by rw [ex, ey], k1, k2, k3⟩
  · obtain ⟨t1, t2, p, q, xs, ys, ev, k1, k2, k3⟩ := q1
    subst ev
    cases r1 with
    | cons r rr =>
      cases rr with
      | cons r' rr =>
        cases rr
        cases r
        cases r'
        obtain ⟨its, _, o1, l1⟩ := sq_obj I1 k1
        obtain ⟨its2, _, o2, l2⟩ := sq_obj I1 k2
        exact call_plain o1 o2 fun h' a1 a2 a3 a4 a5 a6 => DZ.iter_zip a1 ⟨_, _, _, _, H1, rfl, I1.kept (t' := s1.toks) a6, turn2 (apart5 l1 l2), ⟨a1, a2, ⟨_, _, a3⟩, a4, a5⟩, zip_fresh I1, k3⟩
theorem id_zipS {p tpos kpos cpos : Pos} {elts : List Expr} {kk j : Nat} (hg : Gl X "zip") (hm : X.mg "zip" = none) (h1 : ED X a w1) (h2 : ED X b w2) (hs : starEach [a, b] X.env = (false, eval a X.env) :: starEach [b] X.env := by rfl) (hs2 : starEach [b] X.env = (false, eval b X.env) :: starEach [] X.env := by rfl)
    (he : backTo pos (starEach [a, b] X.env) = (false, eval a X.env) :: backTo pos (starEach [b] X.env) := by rfl) (hp : (backTo pos (starEach [a, b] X.env)).any (·.1) = false := by rfl) :
    ID X (.Tuple elts kk tpos) (.Call (.Name "zip" p) [a, b] [⟨some "strict", .Constant (.bool true) j cpos, kpos⟩] pos) (wZip true w1 w2) := by
  refine ⟨moZip h1.mo h2.mo, ⟨fun pins s σ H R I h => ?_⟩⟩
  have hq := zip_args h1 h2 h
  refine wpAny_Call_Name_kw (ld_blt I hg hm PyProof.Rows.boot_zip (with_typeK (thn ((pa_cons h1.pe (pa_cons h2.pe pa_nil hs2) hs).run pos pins s σ H (fun vs H2 => ∃ (t1 t2 : Bool) (p q : Addr) (xs ys : List V), vs = [.ref p, .ref q] ∧ Sq t1 X.K H2 p xs ∧ Sq t2 X.K H2 q ys ∧ R (Itz2 true t1 t2 X.K p q) H2) I ?_) fun us s1 ⟨vs, H1, I1, r1, q1⟩ => ?_) he hp rfl rfl))
  · refine tW_mono h1.mo hq fun x H1 k => tW_mono h2.mo k fun y H2 ⟨t1, t2, p, q, xs, ys, ex, ey, k1, k2, k3⟩ => ⟨t1, t2, p, q, xs, ys, by rw [ex, ey], k1, k2, k3⟩
  · refine thn ((pk_cons (kws := []) (nm := some "strict") (kpos := kpos) (pe_bl (b := true) (j := j) (pos := cpos)) pk_nil).run pos pins s1 σ H1 (fun zs H2 => zs = [.bl true] ∧ H2 = H1) I1 ⟨rfl, rfl⟩) fun ks s2 ⟨zs, H2, I2, r2, ez, eh⟩ => ?_
    subst ez eh
    obtain ⟨t1, t2, p, q, xs, ys, ev, k1, k2, k3⟩ := q1
    subst ev
    cases r2 with
    | cons rk rr2 =>
      cases rr2
      cases rk
      cases r1 with
      | cons r rr =>
        cases rr with
        | cons r' rr =>
          cases rr
          cases r
          cases r'
          obtain ⟨its, _, o1, l1⟩ := sq_obj I2 k1
          obtain ⟨its2, _, o2, l2⟩ := sq_obj I2 k2
          exact call_strict (c := true) o1 o2 fun h' a1 a2 a3 a4 a5 a6 => DZ.iter_zip a1 ⟨_, _, _, _, H2, rfl, I2.kept (t' := s2.toks) a6, turn2 (apart5 l1 l2), ⟨a1, a2, ⟨_, _, a3⟩, a4, a5⟩, zip_fresh I2, k3⟩
end
end DL
set_option Elab.async false
set_option linter.all false
set_option maxRecDepth 100000
set_option maxHeartbeats 2000000
set_option autoImplicit false
/-! DLw: loops over enumerate(..) of a list or a tuple. -/
namespace DZ
open PySem AutoSeq1
open PySem.Sem (wp)
theorem new_enum (t : Bool) (l : Addr) (items : Array Value) (n : Nat) (dct : Option Addr) (sl : Array (Option Value)) :
    Meets (Builtin.«enumerate.__new__» ⟨[.type "enumerate", .ref l], []⟩) (fun _ R s => s.heap.get? l = some { cls := .type (sqN t), dict := dct, data := .seq items n, slots := sl } ∧
      R (.ok (.ret (.ref (g1 t s.heap l).objs.size))) { s with heap := (g1 t s.heap l).push { cls := .type "enumerate", data := .fields #[.none, .bool false, .ref s.heap.objs.size, rawInt 0, .none, .none] } }) :=
  .of_wp fun prog w A R s h => by
    obtain ⟨hp, g, d, tk, os⟩ := s
    obtain ⟨hl, h⟩ := h
    have hsub := sub_enumerate
    have hL : IsSq t (Shared.heap ⟨hp, g, d, tk, os⟩) l items := ⟨_, hl, rfl, n, rfl⟩
    wp_walk using wpAny_loadPart' hl
    refine wpAny_stack_any fun st => wpAny_pure ?_
    split
    · rename_i c _ _ _ _ _
      cases (c == Value.type "enumerate")
      all_goals
        wp_walk using wpAny_loadPart' hl, iter_sq hL
        exact ⟨_, rfl, h⟩
    · wp_walk using wpAny_loadPart' hl, iter_sq hL
      exact ⟨_, rfl, h⟩
section
variable {prog : Program} {w : World} {A : Around} {E : Value → Shared → Prop} {s : Shared}
theorem call_enum {t : Bool} {l : Addr} {xs : Array Value} {Q : Value → Shared → Prop} (hl : IsSq t s.heap l xs)
    (q : ∀ h', IsEnum h' (s.heap.objs.size + 1) s.heap.objs.size 0 .none → IsIt t h' s.heap.objs.size l 0 → (∀ b o, s.heap.get? b = some o → h'.get? b = some o) → Q (.ref (s.heap.objs.size + 1)) { s with heap := h' }) :
    wpAny (model prog w) A (call (.type "enumerate") [.ref l]) Q E s := by
  obtain ⟨⟨c, dct, dt, sl⟩, ho, hc, n, hd⟩ := hl
  have hc' : c = .type (sqN t) := hc
  have hd' : dt = .seq xs n := hd
  subst hc' hd'
  refine callType_new F.called_enumerate (by decide) (F.typeCall_enumerate_1 _) (F.newCall_enumerate_1 _) (fun obj => F.args_object_init_2 obj _) F.entry_enumerate_new (new_enum t l xs n dct sl) ⟨ho, ?_⟩
  have hz : (g1 t s.heap l).objs.size = s.heap.objs.size + 1 := Heap.size_push ..
  show _ ∧ _
  have he : ((g1 t s.heap l).push { cls := .type "enumerate", data := .fields #[.none, .bool false, .ref s.heap.objs.size, rawInt 0, .none, .none] }).get? (g1 t s.heap l).objs.size = some _ := Heap.get?_push_size _ rfl
  refine ⟨⟨_, he, rfl⟩, ?_⟩
  rw [hz] at he ⊢
  exact q _ he ⟨_, Heap.get?_push_of_some _ (Heap.get?_push_size _ rfl), rfl, rfl⟩ fun b o x => Heap.get?_push_of_some _ (Heap.get?_push_of_some _ x)
theorem enum_item {t : Bool} {e it l : Addr} {i : Nat} {xs : Array Value} {x old : Value} {Q : Value → Shared → Prop} (he : IsEnum s.heap e it i old) (hit : IsIt t s.heap it l i) (hl : IsSq t s.heap l xs) (hx : xs[i]? = some x) (hne : e ≠ it)
    (q : ∀ h', IsEnumOut h' e it ((i : Int) + 1) x s.heap.objs.size → IsIt t h' it l (i + 1) → h'.get? s.heap.objs.size = some { cls := .type "tuple", data := .seq #[.int i s.toks, x] } →
      (∀ b o, b ≠ e → b ≠ it → s.heap.get? b = some o → h'.get? b = some o) → Q (.ref s.heap.objs.size) { s with heap := h', toks := s.toks + 1 }) :
    wpAny (model prog w) A (Builtin.«enumerate.__next__» ⟨[.ref e], []⟩) (fun fin s' => ∃ v, fin = .done (.ret v) ∧ Q v s') E s := by
  obtain ⟨hp, g, d, tk, os⟩ := s
  show wpAny _ _ (field (.ref e) 2 >>= _) _ _ _
  refine wpAny_bind (wpAny_field he rfl (x := .ref it) rfl ?_)
  refine wpAny_bind (next_item hit hl hx fun k1 hit1 e1 => ?_)
  replace e1 : Heap.SameBut it hp k1 := e1
  have he1 : IsEnum k1 e it i old := (e1.2 e hne).trans he
  show wpAny _ _ (field (.ref e) 3 >>= _) _ _ ⟨k1, g, d, tk, os⟩
  refine wpAny_bind (wpAny_field he1 rfl (x := rawInt i) rfl ?_)
  show wpAny _ _ (field (.ref e) 4 >>= _) _ _ ⟨k1, g, d, tk, os⟩
  refine wpAny_bind (wpAny_field he1 rfl (x := .none) rfl ?_)
  show wpAny _ _ (mkInt i >>= _) _ _ ⟨k1, g, d, tk, os⟩
  refine wpAny_bind (wpAny_mkInt ?_)
  show wpAny _ _ (setField (.ref e) 3 (rawInt ((i : Int) + 1)) >>= _) _ _ ⟨k1, g, d, tk + 1, os⟩
  refine wpAny_bind (wpAny_setField_rec he1 (by simp) fun k2 he2 e2 => ?_)
  replace e2 : Heap.SameBut e k1 k2 := e2
  replace he2 : IsEnum k2 e it ((i : Int) + 1) old := he2
  show wpAny _ _ (setField (.ref e) 4 .none >>= _) _ _ ⟨k2, g, d, tk + 1, os⟩
  refine wpAny_bind (wpAny_setField_rec he2 (by simp) fun k3 he3 e3 => ?_)
  replace e3 : Heap.SameBut e k2 k3 := e3
  replace he3 : IsEnum k3 e it ((i : Int) + 1) old := he3
  show wpAny _ _ (newTuple [.int i tk, x] >>= _) _ _ ⟨k3, g, d, tk + 1, os⟩
  refine wpAny_bind (wpAny_newTuple ?_)
  have he4 : IsEnum (k3.push { cls := .type "tuple", data := .seq #[.int i tk, x] }) e it ((i : Int) + 1) old := Heap.get?_push_of_some _ he3
  generalize hk4 : k3.push { cls := .type "tuple", data := .seq #[.int i tk, x] } = k4 at he4
  have size : k3.objs.size = hp.objs.size := by rw [e3.1, e2.1, e1.1]
  have hel : e < hp.objs.size := Heap.lt_size he
  have new4 : k4.get? hp.objs.size = some { cls := .type "tuple", data := .seq #[.int i tk, x] } := by rw [← hk4, ← size]; exact Heap.get?_push_size _ rfl
  have old4 : ∀ b o, b ≠ e → b ≠ it → hp.get? b = some o → k4.get? b = some o := fun b o b1 b2 hb => by
    rw [← hk4]; exact Heap.get?_push_of_some _ (e3.extBut b o b1 (e2.extBut b o b1 (e1.extBut b o b2 hb)))
  have hit4 : IsIt t k4 it l (i + 1) := by
    rw [← hk4]
    exact ((hit1.stay e2.extBut (Ne.symm hne)).stay e3.extBut (Ne.symm hne)).at' fun o ho => Heap.get?_push_of_some _ ho
  show wpAny _ _ (Builtin.SmallTypes.ownedTupleIsFree (.ref e) >>= _) _ _ ⟨k4, g, d, tk + 1, os⟩
  rw [size]
  refine wpAny_bind ?_
  unfold Builtin.SmallTypes.ownedTupleIsFree
  refine wpAny_bind (wpAny_field he4 rfl (x := .none) rfl (wpAny_pure ?_))
  simp only [if_true]
  refine wpAny_bind (wpAny_rule ?_)
  refine wpAny_bind (wpAny_field he4 rfl (x := old) rfl ?_)
  refine wpAny_bind (wpAny_setField_rec he4 (by simp) fun k5 he5 e5 => ?_)
  replace e5 : Heap.SameBut e k4 k5 := e5
  replace he5 : IsEnum k5 e it ((i : Int) + 1) x := he5
  show wpAny _ _ (Builtin.SmallTypes.ownedTupleHandOut (.ref e) (.ref hp.objs.size) >>= _) _ _ ⟨k5, g, d, tk + 1, os⟩
  refine wpAny_bind ?_
  unfold Builtin.SmallTypes.ownedTupleHandOut
  refine wpAny_bind (wpAny_setField_rec he5 (by simp) fun k6 he6 e6 => ?_)
  replace e6 : Heap.SameBut e k5 k6 := e6
  replace he6 : IsEnumOut k6 e it ((i : Int) + 1) x hp.objs.size := he6
  refine wpAny_setField_rec he6 (by simp) fun k7 he7 e7 => ?_
  replace e7 : Heap.SameBut e k6 k7 := e7
  replace he7 : IsEnumOut k7 e it ((i : Int) + 1) x hp.objs.size := he7
  refine wpAny_bind (wpAny_letGo (wpAny_pure ⟨_, rfl, q k7 he7 ?_ ?_ ?_⟩))
  · exact ((hit4.stay e5.extBut (Ne.symm hne)).stay e6.extBut (Ne.symm hne)).stay e7.extBut (Ne.symm hne)
  · exact e7.extBut _ _ (Nat.ne_of_gt hel) (e6.extBut _ _ (Nat.ne_of_gt hel) (e5.extBut _ _ (Nat.ne_of_gt hel) new4))
  · exact fun b o b1 b2 hb => e7.extBut b o b1 (e6.extBut b o b1 (e5.extBut b o b1 (old4 b o b1 b2 hb)))
theorem pyNext_enum {t : Bool} {e it l : Addr} {i : Nat} {xs : Array Value} {x old : Value} {Q : Option Value → Shared → Prop} (he : IsEnum s.heap e it i old) (hit : IsIt t s.heap it l i) (hl : IsSq t s.heap l xs) (hx : xs[i]? = some x) (hne : e ≠ it)
    (q : ∀ h', IsEnumOut h' e it ((i : Int) + 1) x s.heap.objs.size → IsIt t h' it l (i + 1) → h'.get? s.heap.objs.size = some { cls := .type "tuple", data := .seq #[.int i s.toks, x] } →
      (∀ b o, b ≠ e → b ≠ it → s.heap.get? b = some o → h'.get? b = some o) → Q (some (.ref s.heap.objs.size)) { s with heap := h', toks := s.toks + 1 }) : wpAny (model prog w) A (pyNext (.ref e)) Q E s := by
  have hT : s.TypeIs (.ref e) "enumerate" := ⟨_, he, rfl⟩
  unfold pyNext
  refine wpAny_bind (wpAny_attempt (wpAny_callSpecial?_slot (name := Str.ofString "__next__") hT F.slot_enumerate_next (wpAny_call_entry F.slot_enumerate_next hT F.entry_enumerate_next ?_ (F.args_enumerate_next_1 _))))
  exact enum_item he hit hl hx hne fun h' a b c d => wpAny_pure (q h' a b c d)
theorem pyNext_enumEnd {t : Bool} {e it l : Addr} {i : Nat} {xs : Array Value} {old : Value} {Q : Option Value → Shared → Prop} (hh : A.handled = none) (he : IsEnum s.heap e it i old) (hit : IsIt t s.heap it l i) (hl : IsSq t s.heap l xs) (hx : xs[i]? = none)
    (q : ∀ h', Heap.ExtBut it s.heap h' → Q none { s with heap := h' }) : wpAny (model prog w) A (pyNext (.ref e)) Q E s := by
  have hT : s.TypeIs (.ref e) "enumerate" := ⟨_, he, rfl⟩
  unfold pyNext
  refine wpAny_bind (wpAny_attempt (wpAny_callSpecial?_slot (name := Str.ofString "__next__") hT F.slot_enumerate_next (wpAny_call_entry F.slot_enumerate_next hT F.entry_enumerate_next ?_ (F.args_enumerate_next_1 _))))
  show wpAny _ _ (field (.ref e) 2 >>= _) _ _ _
  refine wpAny_bind (wpAny_field he rfl (x := .ref it) rfl ?_)
  refine wpAny_bind (next_end hh hit hl hx fun h' x he' hx' => ?_)
  obtain ⟨o, ho, hc⟩ := hx'
  refine wpAny_bind (wpAny_isInstance (T := "StopIteration") (b := true) ⟨o, ho, hc⟩ isSubtype_stop ?_)
  exact wpAny_pure (q _ he')
end
end DZ
namespace DZ
open PySem PySem.Spec PyProof.Rows L2
def Ite2 (t : Bool) (K : PySem.W.Frag) (a : Addr) : It :=
  ⟨fun i H => ∃ (xs : List V) (x : V), Sq t K H a xs ∧ xs[i]? = some x, fun i H v H' => ∃ T x, v = .ref T ∧ H T = none ∧ H' = upd H T (.tup [.int (i : Nat), x]) ∧ ∀ xs, Sq t K H a xs → xs[i]? = some x, fun i H => ∃ xs : List V, Sq t K H a xs ∧ xs.length ≤ i⟩
theorem turn_enum2 {P : Program} {w : World} {K : PySem.W.Frag} {elts : List Expr} {kk : Nat} {tpos : Pos} {t : Bool} (a e it : Addr) :
    Turn P w K (.Tuple elts kk tpos) (Ite2 t K a) [e, it] e (fun i h => (∃ old, IsEnum h e it ((i : Nat) : Int) old) ∧ IsIt t h it a i ∧ e ≠ it) where
  mem := by simp
  obj := fun i h st b hb => by
    obtain ⟨⟨old, he⟩, ⟨o, ho, hc, hd⟩, _⟩ := st
    simp only [List.mem_cons, List.not_mem_nil, or_false] at hb
    rcases hb with z | z
    · rw [z]; exact ⟨_, he, fun v q => nomatch q⟩
    · rw [z]; exact ⟨o, ho, fun v q => by rw [hd] at q; cases q⟩
  keep := fun i h h' st k => by
    obtain ⟨⟨old, he⟩, hi, hne⟩ := st
    exact ⟨⟨old, k e (by simp) _ he⟩, hi.at' fun o q => k it (by simp) o q, hne⟩
  item := by
    intro X hP hw hK hc i pins s σ H E I hf st hg
    subst hP hw hK
    obtain ⟨⟨old, he⟩, hit, hne⟩ := st
    obtain ⟨xs, x, hq, hx⟩ := hg
    obtain ⟨its, rv, p, _⟩ := sq_obj I hq
    obtain ⟨u, hu, ru⟩ := rv.get hx
    have hel : e < s.heap.objs.size := Heap.lt_size he
    have hil := hit.lt
    refine pyNext_enum he hit p (x := u) (by simpa using hu) hne fun h' ho hit' hT hk => ?_
    refine ⟨_, rfl, wpAny_letOwnedTupleGo_enum (s := { s with heap := h', toks := s.toks + 1 }) ho fun h'' he' sb => ?_⟩
    have hT2 : h''.get? s.heap.objs.size = some { cls := .type "tuple", data := .seq #[.int i s.toks, u] } := (sb.2 _ (Nat.ne_of_gt hel)).trans hT
    have new : ObjOk X.prog X.w (upd H s.heap.objs.size (.tup [.int (i : Nat), x])) h'' s.heap.objs.size (.tup [.int (i : Nat), x]) := ⟨by show 2 ≤ sizeLine; decide, [.int i s.toks, u], .cons ⟨_, rfl⟩ (.cons ru .nil), ⟨_, hT2, rfl, _, rfl⟩⟩
    have I1 : Inv X pins σ (upd H s.heap.objs.size (.tup [.int (i : Nat), x])) { s with heap := h'', toks := s.toks + 1 } := by
      refine I.turnedNew (ch := [e, it]) (fun b ob hb q => ?_) hf (Nat.le_refl _) new
      simp only [List.mem_cons, List.not_mem_nil, or_false, not_or] at hb
      exact (sb.2 b hb.1).trans (hk b ob hb.1 hb.2 q)
    refine ⟨.ref s.heap.objs.size, _, I1, rfl, ⟨_, x, rfl, I.hok.fresh (Nat.le_refl _), rfl, fun ys hy => by rw [sq_inj I hy hq]; exact hx⟩, ⟨⟨u, ?_⟩, hit'.at' fun o q => (sb.2 it (Ne.symm hne)).trans q, hne⟩, fun b hb => ?_⟩
    · have e1 : ((i + 1 : Nat) : Int) = (i : Int) + 1 := by omega
      rw [e1]; exact he'
    · have hb' : b < s.heap.objs.size := by
        simp only [List.mem_cons, List.not_mem_nil, or_false] at hb
        rcases hb with z | z
        · rw [z]; exact hel
        · rw [z]; exact hil
      rw [upd_ne (Nat.ne_of_lt hb')]
      exact (hf b hb).1
  done := by
    intro X hP hw hK hc i pins s σ H E I hf st hg
    subst hP hw hK
    obtain ⟨⟨old, he⟩, hit, hne⟩ := st
    obtain ⟨xs, hq, hx⟩ := hg
    obtain ⟨its, rv, p, _⟩ := sq_obj I hq
    have hl := rv.length
    obtain ⟨f0, f1, f2, f3, f4, f5⟩ := hf it (by simp)
    exact pyNext_enumEnd (I.ok.hd hc) he hit p (by simp; omega) fun h' eb => ⟨rfl, I.turned (t' := s.toks) (fun b o hb q => eb b o hb q) f0 f1 f3 f4 f5⟩
  self := fun A i s Q E st h => by
    obtain ⟨⟨_, he⟩, _⟩ := st
    exact wpAny_pyIter_enum he h
end DZ
namespace DL
open PySem PySem.Spec PyProof.Rows L2 DZ
def enD (ds : List PyData) : List PyData := ds.mapIdx fun i d => .tuple [.int (i : Nat), d]
theorem enD_len {ds : List PyData} : (enD ds).length = ds.length := by simp [enD]
theorem enD_get {ds : List PyData} {i : Nat} {d : PyData} (h : (enD ds)[i]? = some d) : ∃ a, ds[i]? = some a ∧ d = .tuple [.int (i : Nat), a] := by
  unfold enD at h
  rw [List.getElem?_mapIdx] at h
  cases e : ds[i]? with
  | none => rw [e] at h; cases h
  | some a => rw [e] at h; cases h; exact ⟨a, rfl, rfl⟩
theorem iter_enum2 {K : PySem.W.Frag} {G F : Hp} {t : Bool} {a : Addr} {vs : List V} {ds : List PyData} (f : ∀ H, Same F H → Sq t K H a vs) (g : RpL F ds vs) : IterOk (Ite2 t K a) G F (enD ds) where
  go := fun i H _ s hi => by
    rw [enD_len] at hi
    have h1 : i < vs.length := by rw [g.len]; omega
    exact ⟨vs, vs[i], f H s, List.getElem?_eq_getElem h1⟩
  yld := fun i H x H' d _ s e y => by
    obtain ⟨da, e1, ed⟩ := enD_get e
    obtain ⟨T, x', ex, hT, eH, k⟩ := y
    obtain ⟨v, hv, rv⟩ := g.get e1
    have q := k _ (f H s)
    rw [hv] at q; cases q
    exact .inr ⟨T, _, _, hT, eH, ed, ex, RpL.cons (by simp only [Rp]) (RpL.cons rv RpL.nil)⟩
  stop := fun i H _ s hi => by
    rw [enD_len] at hi
    exact ⟨vs, f H s, by rw [g.len]; exact hi⟩
def wEnum (w : WE) : WI := fun env P => w env fun d e => ∃ ds, itemsOf d = some ds ∧ P (enD ds) e
theorem id_enum {X : Cx} {a : Expr} {w : WE} {p pos tpos : Pos} {elts : List Expr} {kk : Nat} (hg : Gl X "enumerate") (hm : X.mg "enumerate" = none) (h : ED X a w) (hs : starEach [a] X.env = (false, eval a X.env) :: starEach [] X.env := by rfl) :
    ID X (.Tuple elts kk tpos) (.Call (.Name "enumerate" p) [a] [] pos) (wEnum w) := by
  refine ⟨fun env P P' k q => h.mo _ _ _ (fun d e ⟨ds, x, q⟩ => ⟨ds, x, k _ _ q⟩) q, ⟨fun pins s σ H R I hq => ?_⟩⟩
  refine Call_ (ld_blt I hg hm boot_enumerate (PyProof.Rows.callWith_type1 (thn ((pa_cons h.pe pa_nil hs).run pos pins s σ H (fun vs H2 => ∃ (t : Bool) (p : Addr) (xs : List V), vs = [.ref p] ∧ Sq t X.K H2 p xs ∧ R (Ite2 t X.K p) H2) I ?_) fun us s1 ⟨vs, H1, I1, r1, q1⟩ => ?_) hs rfl))
  · obtain ⟨G, F, pc, env, r, q⟩ := hq
    refine ⟨G, F, pc, env, r, h.mo _ _ _ (fun d e ⟨ds, x, q⟩ v F' pc' H' s p r' rp => ?_) q⟩
    obtain ⟨t, p', vs, ev, g1, f1⟩ := seq_sq (K := X.K) rp x
    exact ⟨t, p', vs, by rw [ev], f1 _ r'.base.f, q _ F' pc' H' s p r' (iter_enum2 f1 g1)⟩
  · obtain ⟨t, p, xs, ev, k1, k3⟩ := q1
    subst ev
    cases r1 with
    | cons r rr =>
      cases rr
      cases r
      obtain ⟨its, _, o1, l1⟩ := sq_obj I1 k1
      refine call_enum o1 fun h' a1 a2 a3 => wpAny_pyIter_enum a1 ⟨_, [s1.heap.objs.size + 1, s1.heap.objs.size], _, _, H1, rfl, I1.kept (t' := s1.toks) a3, turn_enum2 p (s1.heap.objs.size + 1) s1.heap.objs.size, ⟨⟨.none, a1⟩, a2, Nat.succ_ne_self _⟩, fun b hb => ?_, k3⟩
      have hle : s1.heap.objs.size ≤ b := by
        simp only [List.mem_cons, List.not_mem_nil, or_false] at hb
        rcases hb with z | z
        · rw [z]; exact Nat.le_succ _
        · rw [z]; exact Nat.le_refl _
      exact I1.fpOk hle (I1.hok.fresh hle)
end DL
set_option Elab.async false
set_option linter.all false
set_option maxRecDepth 100000
set_option maxHeartbeats 2000000
set_option autoImplicit false
/-! DLk: x[::-1], tuple * int. -/
namespace DZ
open PySem PySem.Spec PyProof.Rows L2 HT
section
variable {prog : Program} {w : World} {A : Around} {E : Value → Shared → Prop} {s : Shared}
theorem adjust_back (n : Nat) : Builtin.Slice.sliceAdjust none none (-1) (n : Int) = ((n : Int) - 1, -1) := by
  unfold Builtin.Slice.sliceAdjust
  simp
theorem places_back (n : Nat) : Builtin.Slice.slicePlaces ((n : Int) - 1) (-1) (-1) = n := by
  unfold Builtin.Slice.slicePlaces
  simp
  omega
theorem pick_back (xs : List Value) : ((List.range xs.length).filterMap fun (m : Nat) => xs.toArray[((xs.length : Int) - 1 + (m : Int) * (-1)).toNat]?) = xs.reverse := by
  have e : ∀ m ∈ List.range xs.length, (xs.toArray[((xs.length : Int) - 1 + (m : Int) * (-1)).toNat]?) = xs.reverse[m]? := by
    intro m hm
    have hm' := List.mem_range.mp hm
    rw [List.getElem?_toArray, List.getElem?_reverse hm']
    congr 1
    omega
  have cong : ∀ (l : List Nat) (f g : Nat → Option Value), (∀ m ∈ l, f m = g m) → l.filterMap f = l.filterMap g := by
    intro l f g h
    induction l with
    | nil => rfl
    | cons a r ih => rw [List.filterMap_cons, List.filterMap_cons, h a (by simp), ih fun m hm => h m (by simp [hm])]
  have key : ∀ (ys : List Value), (List.range ys.length).filterMap (fun m => ys[m]?) = ys := by
    intro ys
    induction ys with
    | nil => rfl
    | cons y r ih =>
      rw [List.length_cons, List.range_succ_eq_map, List.filterMap_cons]
      simp only [List.getElem?_cons_zero, List.filterMap_map]
      congr 1
  rw [cong _ _ _ e]
  have := key xs.reverse
  rwa [List.length_reverse] at this
theorem applied_back {sl : Addr} {vl vu vs : Value} {n : Nat} {Q : Int × Int × Nat → Shared → Prop} (hs : s.heap.IsSliceOf sl vl vu vs) (pl : IsPart vl none) (pu : IsPart vu none) (ps : IsPart vs (some (-1)))
    (h : Q ((n : Int) - 1, -1, n) s) : wpAny (model prog w) A (Builtin.Slice.sliceApplied (.ref sl) (pure (n : Int))) Q E s := by
  obtain ⟨os, hos, hcs, hds⟩ := id hs
  unfold Builtin.Slice.sliceApplied Builtin.Slice.sliceFields
  refine wpAny_bind (wpAny_bind (wpAny_field hos hds (x := vl) rfl (wpAny_bind (wpAny_field hos hds (x := vu) rfl (wpAny_bind (wpAny_field hos hds (x := vs) rfl (wpAny_pure ?_)))))))
  refine wpAny_bind (slicePart_ ps ?_)
  show wpAny _ _ (if ((-1 : Int) == 0) = true then _ else _) _ _ s
  rw [if_neg (by decide)]
  refine wpAny_bind (slicePart_ pl (wpAny_bind (slicePart_ pu (wpAny_bind (wpAny_pure ?_)))))
  show wpAny _ _ (match Builtin.Slice.sliceAdjust none none (-1) (n : Int) with | (lo, hi) => pure (lo, (-1 : Int), Builtin.Slice.slicePlaces lo hi (-1))) _ _ s
  rw [adjust_back n]
  show wpAny _ _ (pure ((n : Int) - 1, (-1 : Int), Builtin.Slice.slicePlaces ((n : Int) - 1) (-1) (-1))) _ _ s
  rw [places_back]
  exact wpAny_pure h
theorem getItem_back {t sl : Addr} {xs : List Value} {vl vu vs : Value} {Q : Value → Shared → Prop} (ht : IsTup s.heap t xs.toArray) (hs : s.heap.IsSliceOf sl vl vu vs) (pl : IsPart vl none) (pu : IsPart vu none) (ps : IsPart vs (some (-1)))
    (h : Q (.ref s.heap.objs.size) { s with heap := s.heap.push { cls := .type "tuple", data := .seq xs.reverse.toArray } }) (hz : xs.length ≤ sizeLine) : wpAny (model prog w) A (getItem (.ref t) (.ref sl)) Q E s := by
  have fits : sizeOk (.seq xs.reverse.toArray) := by
    show xs.reverse.toArray.size ≤ sizeLine
    rw [List.size_toArray, List.length_reverse]
    exact hz
  obtain ⟨os, hos, hcs, hds⟩ := id hs
  have hTs : s.TypeIs (.ref sl) "slice" := ⟨os, hos, hcs⟩
  unfold getItem
  try with_reducible refine wpAny_holding ?_
  first | refine wpAny_bind (wpAny_pure ?_) | skip
  refine wpAny_bind (wpAny_sequenceKey ht.typeIs (by decide) ?_)
  refine wpAny_bind (wpAny_callSpecial?_slot (name := Str.ofString "__getitem__") ht.typeIs PyProof.Rows.slot_tuple_getitem (wpAny_call_entry PyProof.Rows.slot_tuple_getitem ht.typeIs entry_tuple_getitem ?_ (args_tuple_getitem _ _)))
  show wpAny _ _ (Builtin.Tuple.tupleItemsOf (.ref t) >>= _) _ _ s
  refine wpAny_bind (tupleItemsOf_ ht ?_)
  refine wpAny_bind (wpAny_typeOf hTs ?_)
  rw [if_pos (by decide)]
  rw [List.size_toArray]
  refine wpAny_bind (applied_back hs pl pu ps ?_)
  have no : ¬ (((((xs.length : Nat) : Int) - 1) == 0 && (-1 : Int) == 1 && xs.length == xs.length) = true) := by simp
  show wpAny _ _ (if ((((xs.length : Nat) : Int) - 1) == 0 && (-1 : Int) == 1 && xs.length == xs.length) = true then _ else _) _ _ s
  rw [if_neg no, pick_back]
  first
    | exact wpAny_bind (m := Builtin.Tuple.tupleExact _) (wpAny_newObj_type (wpAny_pure ⟨_, rfl, wpAny_pure h⟩) fits)
    | exact wpAny_bind (wpAny_bind (m := Builtin.Tuple.tupleExact _) (wpAny_newObj_type (wpAny_pure ⟨_, rfl, wpAny_pure h⟩) fits))
    | exact wpAny_bind (wpAny_bind (m := Builtin.Tuple.tupleExact _) (wpAny_newObj_type (wpAny_pure (wpAny_pure ⟨_, rfl, wpAny_pure h⟩)) fits))
end
end DZ
namespace DL
open PySem PySem.Spec PyProof.Rows L2 DZ
def revB (d : PyData) (P : PyData → Prop) : Prop := match d with
  | .list ds => P (.list ds.reverse)
  | .tuple ds => P (.tuple ds.reverse)
  | _ => False
def wRev (w : WE) : WE := fun env P => w env fun d e => revB d fun z => P z e
theorem moRev {d : PyData} {P P' : PyData → Prop} (k : ∀ z, P z → P' z) (q : revB d P) : revB d P' := by
  cases d with
  | list ds => exact k _ q
  | tuple ds => exact k _ q
  | _ => exact q
theorem ed_rev {X : Cx} {e : Expr} {w : WE} {k : Nat} {p1 p2 p3 pos : Pos} (he : ED X e w) : ED X (.Subscript e (.Slice none none (some (.UnaryOp .USub (.Constant (.int 1) k p1) p2)) p3) pos) (wRev w) := by
  refine ⟨fun env P P' kk q => he.mo _ _ _ (fun d e q => moRev (fun z q => kk _ _ q) q) q, ⟨fun pins s σ H Q I ⟨G, F, pc, env, r, hq⟩ => ?_⟩⟩
  refine Subscript_ (thn (he.pe.run pins s σ H (fun v H1 => ∃ F' pc' env' d, Rel X.mg G F' pc' env' σ H1 ∧ Rp F' d v ∧ revB d fun z => ∀ v F2 pc2 H2, Same F' F2 → PcLe pc' pc2 → Rel X.mg G F2 pc2 env' σ H2 → Rp F2 z v → Q v H2) I ⟨G, F, pc, env, r, he.mo _ _ _ (fun d e q v F' pc' H' s p r' rp => ⟨F', pc', e, d, r', rp, moRev (fun z q v F2 pc2 H2 s2 p2 r2 rp2 => q v F2 pc2 H2 (s.trans s2) (p.trans p2) r2 rp2) q⟩) hq⟩) fun v s1 h1 => ?_)
  obtain ⟨x, H1, I1, r1, F', pc', env', d, rel, rp, q⟩ := h1
  have hst : PO X (some (.UnaryOp .USub (.Constant (.int 1) k p1) p2)) (tPart (tUn (rU fun i => .int (-i)) (tC (.int 1)))) := po_some (pe_un un_neg pe_int)
  refine wpAny_Slice (thn (po_none.run pins s1 σ H1 (fun o H2 => o = none ∧ H2 = H1) I1 ⟨rfl, rfl⟩) fun vl s2 ⟨l, H2, I2, pl, el, e2⟩ => ?_)
  subst el e2
  refine thn (po_none.run pins s2 σ H2 (fun o H3 => o = none ∧ H3 = H2) I2 ⟨rfl, rfl⟩) fun vu s3 ⟨u, H3, I3, pu, eu, e3⟩ => ?_
  subst eu e3
  refine thn (hst.run pins s3 σ H3 (fun o H4 => o = some (-1) ∧ H4 = H3) I3 ⟨1, rfl, -1, rfl, rfl, rfl⟩) fun vs s4 ⟨o, H4, I4, ps, eo, e4⟩ => ?_
  subst eo e4
  have I5 : Inv X pins σ H4 { s4 with heap := s4.heap.push { cls := .type "slice", data := .fields #[vl, vu, vs] } } := I4.kept (t' := s4.toks) fun b ob q => Heap.get?_push_of_some _ q
  cases d with
  | list ds =>
    obtain ⟨a, xs, ev, f, g⟩ := rp.list
    subst ev
    cases r1
    have hx : SqL X.K H4 a xs := SqL.of (rel.base.f _ _ f)
    obtain ⟨its, r, ht, hz⟩ := I5.list hx
    have hlen := r.length
    show wpAny (model X.prog X.w) X.A (subscriptTail e (.Slice none none (some (.UnaryOp .USub (.Constant (.int 1) k p1) p2)) p3) (.ref a) (.ref s4.heap.objs.size)) (EP X pins σ Q) X.xe { s4 with heap := s4.heap.push { cls := .type "slice", data := .fields #[vl, vu, vs] } }
    refine tail_any (ops := [.ref a, .ref s4.heap.objs.size]) ht.isList.typeIs (PySem.slot_list_getitem.lookup) ?_ (by with_unfolding_all rfl)
    refine wpAny_getItem_list_slice ht.isList (Heap.IsSliceOf.new _ vl vu vs) pl pu ps (by decide) ?_ (by rw [List.size_toArray]; omega)
    rw [PySem.W.krv_pick]
    have hn := I5.hok.fresh (Nat.le_refl _)
    refine ⟨.ref _, _, I5.laid (t' := s4.toks) (o := .lst xs.reverse) (fun b ob q => Heap.get?_push_of_some _ q) (Nat.le_refl _) ⟨by rw [List.length_reverse]; exact hz, _, 0, r.reverse, Heap.get?_push_size _ rfl⟩, rfl, ?_⟩
    obtain ⟨r3, s3, rp3⟩ := rel.newLst hn g.rev
    exact q _ _ pc' _ s3 .refl r3 rp3
  | tuple ds =>
    obtain ⟨a, xs, ev, f, g⟩ := rp.tuple
    subst ev
    cases r1
    have hx : SqT X.K H4 a xs := SqT.of (rel.base.f _ _ f)
    obtain ⟨its, r, ht, hz⟩ := I5.tuple hx
    have hlen := r.length
    show wpAny (model X.prog X.w) X.A (subscriptTail e (.Slice none none (some (.UnaryOp .USub (.Constant (.int 1) k p1) p2)) p3) (.ref a) (.ref s4.heap.objs.size)) (EP X pins σ Q) X.xe { s4 with heap := s4.heap.push { cls := .type "slice", data := .fields #[vl, vu, vs] } }
    refine tail_any (ops := [.ref a, .ref s4.heap.objs.size]) ht.typeIs (PyProof.Rows.slot_tuple_getitem.lookup) ?_ (by with_unfolding_all rfl)
    refine getItem_back ht (Heap.IsSliceOf.new _ vl vu vs) pl pu ps ?_ (by omega)
    have hn := I5.hok.fresh (Nat.le_refl _)
    refine ⟨.ref _, _, I5.laid (t' := s4.toks) (o := .tup xs.reverse) (fun b ob q => Heap.get?_push_of_some _ q) (Nat.le_refl _) ⟨by rw [List.length_reverse]; exact hz, _, r.reverse, IsTup.new _ _⟩, rfl, ?_⟩
    obtain ⟨r3, s3, rp3⟩ := rel.newTup hn g.rev
    exact q _ _ pc' _ s3 .refl r3 rp3
  | _ => exact q.elim
end DL
set_option Elab.async false
set_option linter.all false
set_option maxRecDepth 100000
set_option maxHeartbeats 2000000
set_option autoImplicit false
/-! DLm: repr. -/
namespace DL
open PySem PySem.Spec PyProof.Rows L2 DZ
mutual
def noLst : PyData → Bool
  | .list _ => false
  | .tuple ds => noLstAll ds
  | .dict kvs => noLstKv kvs
  | _ => true
def noLstAll : List PyData → Bool
  | [] => true
  | d :: ds => noLst d && noLstAll ds
def noLstKv : List (PyData × PyData) → Bool
  | [] => true
  | (_, d) :: ds => noLst d && noLstKv ds
end
section
variable {X : Cx} {pins : List (Addr × Obj)} {σ : L2.St} {F H : Hp} {s : Shared}
mutual
theorem Rp.reads (I : Inv X pins σ H s) (sm : Same F H) : ∀ (d : PyData) (v : V) (u : Value), Rp F d v → RelV v u → ∃ as, Reads s.heap u d as ∧ (noLst d = true → sysModules ∉ as)
  | .none, v, u, h, r => by
    simp only [Rp] at h
    subst h
    cases r
    exact ⟨_, .none, fun _ z => by cases z⟩
  | .bool b, v, u, h, r => by
    simp only [Rp] at h
    subst h
    cases r
    exact ⟨_, .bool b, fun _ z => by cases z⟩
  | .int b, v, u, h, r => by
    simp only [Rp] at h
    subst h
    obtain ⟨t, rfl⟩ := r
    exact ⟨_, .int b t, fun _ z => by cases z⟩
  | .str b, v, u, h, r => by
    simp only [Rp] at h
    subst h
    obtain ⟨t, rfl⟩ := r
    exact ⟨_, .str b t, fun _ z => by cases z⟩
  | .list ds, v, u, h, r => by
    simp only [Rp] at h
    obtain ⟨a, vs, rfl, f, g⟩ := h
    cases r
    obtain ⟨its, rv, ⟨o, n, ho, hc, _, hd⟩, _⟩ := I.list (SqL.of (sm _ _ f))
    obtain ⟨as, hr, _⟩ := RpL.reads I sm ds vs its g rv
    exact ⟨_, .list ho hc hd hr, fun z => by simp [noLst] at z⟩
  | .tuple ds, v, u, h, r => by
    simp only [Rp] at h
    obtain ⟨a, vs, rfl, f, g⟩ := h
    cases r
    obtain ⟨its, rv, ⟨o, ho, hc, n, hd⟩, _⟩ := I.tuple (SqT.of (sm _ _ f))
    obtain ⟨as, hr, hn⟩ := RpL.reads I sm ds vs its g rv
    exact ⟨_, .tuple ho hc hd hr, fun z => hn (by simpa [noLst] using z)⟩
  | .dict kvs, v, u, h, r => by
    simp only [Rp] at h
    obtain ⟨a, ks, rfl, f, g⟩ := h
    cases r
    obtain ⟨z, hsys, vs, kv, o, es, ep, ho, hx, hd, hk, hp, _⟩ := I.hok a _ (sm _ _ f)
    obtain ⟨as, bs, h1, h2, hn⟩ := RpK.reads I sm kvs ks vs es.toList g kv hp
    refine ⟨_, .dict ho hx.1 hd h1 h2, fun q => ?_⟩
    have hne : a ≠ sysModules := by
      intro e
      rw [e] at hsys
      simp at hsys
    have := hn (by simpa [noLst] using q)
    intro m
    rw [List.cons_append] at m
    rcases List.mem_cons.mp m with e | m
    · exact hne e.symm
    · rcases List.mem_append.mp m with m | m
      · exact this.1 m
      · exact this.2 m
theorem RpL.reads (I : Inv X pins σ H s) (sm : Same F H) : ∀ (ds : List PyData) (vs : List V) (us : List Value), RpL F ds vs → Vals vs us → ∃ as, ReadsAll s.heap us ds as ∧ (noLstAll ds = true → sysModules ∉ as)
  | [], vs, us, h, r => by
    simp only [RpL] at h
    subst h
    cases r
    exact ⟨_, .nil, fun _ z => by cases z⟩
  | d :: ds, vs, us, h, r => by
    simp only [RpL] at h
    obtain ⟨v, q, rfl, h1, h2⟩ := h
    cases r with
    | cons r1 r2 =>
      obtain ⟨as, a1, a2⟩ := Rp.reads I sm d v _ h1 r1
      obtain ⟨bs, b1, b2⟩ := RpL.reads I sm ds q _ h2 r2
      refine ⟨_, .cons a1 b1, fun z m => ?_⟩
      simp only [noLstAll, Bool.and_eq_true] at z
      rcases List.mem_append.mp m with m | m
      · exact a2 z.1 m
      · exact b2 z.2 m
theorem RpK.reads (I : Inv X pins σ H s) (sm : Same F H) : ∀ (kvs : List (PyData × PyData)) (ks : List (L2.Key × V)) (vs : List (L2.Key × Value)) (es : List DictEntry), RpK F kvs ks → KV ks vs → PySem.Pairs (mixKind X.prog X.w) es vs →
    ∃ as bs, ReadsAll s.heap (es.map (·.key)) (kvs.map (·.1)) as ∧ ReadsAll s.heap (es.map (·.val)) (kvs.map (·.2)) bs ∧ (noLstKv kvs = true → sysModules ∉ as ∧ sysModules ∉ bs)
  | [], ks, vs, es, h, k, p => by
    simp only [RpK] at h
    subst h
    cases k
    cases p
    exact ⟨_, _, .nil, .nil, fun _ => ⟨fun z => (nomatch z), fun z => (nomatch z)⟩⟩
  | (k, d) :: kr, ks, vs, es, h, kv, p => by
    simp only [RpK] at h
    obtain ⟨key, v, q, rfl, rfl, h1, h2⟩ := h
    cases kv with
    | cons r1 r2 =>
      cases p with
      | cons p1 p2 p3 =>
        obtain ⟨e1, e2⟩ := r1
        rename_i u us e es'
        obtain ⟨bs, b1, b2⟩ := Rp.reads I sm d v e.val h1 (by rw [p2]; exact e2)
        obtain ⟨cs, ds, c1, c2, c3⟩ := RpK.reads I sm kr q _ _ h2 r2 p3
        have hkey : Reads s.heap e.key (keyD key) [] := by
          have e1' : u.1 = key := e1.symm
          rw [e1', mixKind_is] at p1
          rcases keyIs_shape p1 with ⟨i, t, q1, q2⟩ | ⟨x, t, q1, q2⟩
          · rw [q1, q2]; exact .int i t
          · rw [q1, q2]; exact .str x t
        refine ⟨_, _, .cons hkey c1, .cons b1 c2, fun z => ?_⟩
        simp only [noLstKv, Bool.and_eq_true] at z
        refine ⟨fun m => ?_, fun m => ?_⟩
        · exact (c3 z.2).1 m
        · rcases List.mem_append.mp m with m | m
          · exact b2 z.1 m
          · exact (c3 z.2).2 m
end
end
/-- what may be shown -/
structure ReprOk (d : PyData) : Prop where
  sh : d.showable = true
  len : d.shown.length ≤ sizeLine
  dp : d.depth ≤ 100
  dict : d.hasDict = true → noLst d = true
def reprC : BC := fun ds P => ∃ d, ds = [d] ∧ ReprOk d ∧ P (.str d.shown)
theorem ed_repr {X : Cx} {e : Expr} {w : WE} {p pos : Pos} (hg : X.A.guards = some []) (hu : X.A.units + 110 < cLine) (hgl : Gl X "repr") (hm : X.mg "repr" = none) (ha : ED X e w) (hs : starEach [e] X.env = (false, eval e X.env) :: starEach [] X.env := by rfl) :
    ED X (.Call (.Name "repr" p) [e] [] pos) (wCall (wCons w wNil) reprC) := by
  have mo : MoE (wCall (wCons w wNil) reprC) := moCall (fun ds P P' k ⟨d, e, h, p⟩ => ⟨d, e, h, k _ p⟩) (ad_cons ha ad_nil hs).mo
  refine ⟨mo, ⟨fun pins s σ H Q I ⟨G, F, pc, env, r, hq⟩ => ?_⟩⟩
  refine Call_ (ld_blt I hgl hm (show bootBuiltins "repr" = some (.builtin "repr") by decide +kernel) (PyProof.Rows.callWith_builtin1 (thn ((pa_cons ha.pe pa_nil hs).run pos pins s σ H (fun vs H1 => ∃ F' pc' env' d v, vs = [v] ∧ Rel X.mg G F' pc' env' σ H1 ∧ Rp F' d v ∧ ReprOk d ∧ ∀ F2 pc2 H2 v, Same F' F2 → PcLe pc' pc2 → Rel X.mg G F2 pc2 env' σ H2 → Rp F2 (.str d.shown) v → Q v H2) I ?_) fun us s1 h1 => ?_) hs rfl))
  · refine ⟨G, F, pc, env, r, ha.mo _ _ _ (fun d e q v F1 pc1 H1 s1 p1 r1 rp1 => ?_) hq⟩
    obtain ⟨d', ed, ok, q⟩ := q
    cases ed
    exact ⟨F1, pc1, e, d, v, rfl, r1, rp1, ok, fun F2 pc2 H2 v s2 p2 r2 rp2 => q v F2 pc2 H2 (s1.trans s2) (p1.trans p2) r2 rp2⟩
  · obtain ⟨vs, H1, I1, rv, F', pc', env', d, v, ev, rel, rp, ok, q⟩ := h1
    subst ev
    cases rv with
    | cons rv rr =>
      cases rr
      rename_i u
      obtain ⟨as, rd, hn⟩ := Rp.reads I1 rel.base.f d v u rp rv
      have fin : ∀ h' tk t, (∀ b o, s1.heap.get? b = some o → h'.get? b = some o) → EP X pins σ Q (.str d.shown t) { s1 with heap := h', toks := tk } := fun h' tk t k => ⟨.str d.shown, H1, I1.kept (t' := tk) k, ⟨t, rfl⟩, q F' pc' H1 _ (Same.refl _) .refl rel (by simp only [Rp])⟩
      have hd := ok.dp
      cases d with
      | none =>
        cases rd
        exact P.repr_of_none (fin s1.heap _ _ fun _ _ e => e)
      | bool b =>
        cases rd
        refine P.repr_of_bool ?_
        have := fin s1.heap (s1.toks + 1) s1.toks fun _ _ e => e
        simp only [PyData.shown] at this
        cases b <;> exact this
      | int i =>
        cases rd
        have hi := ok.sh
        simp only [PyData.showable, decide_eq_true_eq] at hi
        exact P.repr_of_int hi (fin s1.heap _ _ fun _ _ e => e)
      | str x =>
        cases rd
        exact P.repr_of_str (fin s1.heap _ _ fun _ _ e => e) ok.len
      | list ds =>
        cases rd with
        | list a b c d => exact repr_of_reads' (.list a b c d) ok.sh (fun z => by have := ok.dict z; simp [noLst] at this) hg (by omega) (fun _ _ e => e) (fun h' u tk k => fin h' tk u k) ok.len
      | tuple ds =>
        cases rd with
        | tuple a b c d => exact repr_of_reads' (.tuple a b c d) ok.sh (fun z => hn (ok.dict z)) hg (by omega) (fun _ _ e => e) (fun h' u tk k => fin h' tk u k) ok.len
      | dict ds =>
        cases rd with
        | dict a b c d e => exact repr_of_reads' (.dict a b c d e) ok.sh (fun z => hn (ok.dict z)) hg (by omega) (fun _ _ e => e) (fun h' u tk k => fin h' tk u k) ok.len
end DL
set_option Elab.async false
set_option linter.all false
set_option maxRecDepth 100000
set_option maxHeartbeats 4000000
set_option autoImplicit false
/-! DLn: tuple * int, dicts made, d.get, tests in place. -/
namespace DZ
open PySem PySem.Spec PyProof.Rows L2
theorem mul_same (l : Addr) (items : Array Value) (n : Nat) (dd : Option Addr) (sl : Array (Option Value)) (x : Int) (u : Tok) (c0 : (decide (x < -(2 ^ 63)) || decide (x ≥ 2 ^ 63)) = false) (c1 : (items.isEmpty || x == 1) = true) :
    Meets (Builtin.«tuple.__mul__» ⟨[.ref l, .int x u], []⟩) (fun _ R s => s.heap.get? l = some { cls := .type "tuple", dict := dd, data := .seq items n, slots := sl } ∧ R (.ok (.ret (.ref l))) s) :=
  .of_wp fun prog w A R s h => by
    obtain ⟨hp, g, d, tk, os⟩ := s
    obtain ⟨hl, h⟩ := h
    have f1 := AutoSeq1.idx_int
    wp_walk using wpAny_loadPart' hl
    repeat (first
      | (refine wpAny_ite_false (decide_eq_false (by rw [c0]; exact Bool.false_ne_true)) ?_; wp_walk using wpAny_loadPart' hl)
      | (refine wpAny_ite_true (decide_eq_true c1) ?_; wp_walk using wpAny_loadPart' hl))
    exact ⟨_, rfl, h⟩
theorem mul_none (l : Addr) (items : Array Value) (n : Nat) (dd : Option Addr) (sl : Array (Option Value)) (x : Int) (u : Tok) (c0 : (decide (x < -(2 ^ 63)) || decide (x ≥ 2 ^ 63)) = false) (c1 : (items.isEmpty || x == 1) = false) (c2 : (decide (x ≤ 0) || items.isEmpty) = true) :
    Meets (Builtin.«tuple.__mul__» ⟨[.ref l, .int x u], []⟩) (fun _ R s => s.heap.get? l = some { cls := .type "tuple", dict := dd, data := .seq items n, slots := sl } ∧
      R (.ok (.ret (.ref s.heap.objs.size))) { s with heap := s.heap.push { cls := Value.type "tuple", data := Data.seq #[] }, toks := s.toks }) :=
  .of_wp fun prog w A R s h => by
    obtain ⟨hp, g, d, tk, os⟩ := s
    obtain ⟨hl, h⟩ := h
    have f1 := AutoSeq1.idx_int
    wp_walk using wpAny_loadPart' hl
    repeat (first
      | (refine wpAny_ite_false (decide_eq_false (by rw [c0]; exact Bool.false_ne_true)) ?_; wp_walk using wpAny_loadPart' hl)
      | (refine wpAny_ite_false (decide_eq_false (by rw [c1]; exact Bool.false_ne_true)) ?_; wp_walk using wpAny_loadPart' hl)
      | (refine wpAny_ite_true (decide_eq_true c2) ?_; wp_walk using wpAny_loadPart' hl))
    exact ⟨_, rfl, h⟩
def rRep1 (K : PySem.W.Frag) : R2 := fun x y H Q => ∃ l k xs, x = .ref l ∧ y = .int k ∧ SqT K H l xs ∧ -(2 ^ 63) ≤ k ∧ k < 2 ^ 63 ∧ ((xs = [] ∧ Q (.ref l) H) ∨ (k = 1 ∧ Q (.ref l) H) ∨ (xs ≠ [] ∧ k ≤ 0 ∧ ∀ p, H p = none → Q (.ref p) (upd H p (.tup []))))
theorem op_rep1 {X : Cx} : OpR X (binaryOp .Mult) (rRep1 X.K) := by
  intro pins s σ H x y v u Q I rx ry h
  obtain ⟨l, k, xs, rfl, rfl, hT, h1, h2, q⟩ := h
  cases rx
  obtain ⟨t, rfl⟩ := ry
  obtain ⟨its, r, ⟨⟨cls, dd, data, sl⟩, ho, hc, n, hd⟩, hs⟩ := I.tuple hT
  simp only at hc hd
  subst hc hd
  have hle : its.length = xs.length := r.length.symm
  have c0 : (decide (k < -(2 ^ 63)) || decide (k ≥ 2 ^ 63)) = false := by
    rw [decide_eq_false (by omega), decide_eq_false (by omega)] <;> rfl
  have same : (its.toArray.isEmpty || k == 1) = true → Q (.ref l) H → wpAny (model X.prog X.w) X.A (binaryOp .Mult (.ref l) (.int k t)) (EP X pins σ Q) X.xe s := fun c1 q =>
    wpAny_binaryOp_repeat_ref (T := "tuple") (U := "int") (by decide) ⟨_, ho, rfl⟩ (fun s' => typeIs_int s' k t) noFill_tuple_mul F.fills_int_mul F.slot_int_rmul repeat_tuple F.slot_int_index.lookup
      (call_meets F.slot_int_rmul (typeIs_int s k t) F.entry_int_rmul (F.args_int_rmul_2 _ _) (int_rmul_tuple k t l its.toArray n dd sl)
        ⟨ho, rfl, ⟨_, ho, rfl⟩, call_meets F.slot_tuple_mul ⟨_, ho, rfl⟩ F.entry_tuple_mul (F.args_tuple_mul_2 _ _) (mul_same l its.toArray n dd sl k t c0 c1) ⟨ho, ⟨.ref l, H, I, rfl, q⟩⟩⟩)
  rcases q with ⟨e, q⟩ | ⟨e, q⟩ | ⟨e, e2, q⟩
  · refine same ?_ q
    subst e
    have : its = [] := List.eq_nil_of_length_eq_zero hle
    subst this
    rfl
  · refine same ?_ q
    subst e
    simp
  · have hn : its ≠ [] := fun z => e (by
      rw [z] at hle
      exact List.eq_nil_of_length_eq_zero hle.symm)
    have hi : its.toArray.isEmpty = false := by
      cases its with
      | nil => exact absurd rfl hn
      | cons a b => rfl
    have c1 : (its.toArray.isEmpty || k == 1) = false := by
      rw [hi, Bool.false_or]
      exact beq_eq_false_iff_ne.mpr (by omega)
    have c2 : (decide (k ≤ 0) || its.toArray.isEmpty) = true := by
      rw [decide_eq_true e2] <;> rfl
    refine wpAny_binaryOp_repeat_ref (T := "tuple") (U := "int") (by decide) ⟨_, ho, rfl⟩ (fun s' => typeIs_int s' k t) noFill_tuple_mul F.fills_int_mul F.slot_int_rmul repeat_tuple F.slot_int_index.lookup
      (call_meets F.slot_int_rmul (typeIs_int s k t) F.entry_int_rmul (F.args_int_rmul_2 _ _) (int_rmul_tuple k t l its.toArray n dd sl)
        ⟨ho, rfl, ⟨_, ho, rfl⟩, call_meets F.slot_tuple_mul ⟨_, ho, rfl⟩ F.entry_tuple_mul (F.args_tuple_mul_2 _ _) (mul_none l its.toArray n dd sl k t c0 c1 c2) ⟨ho, ?_⟩⟩)
    exact ⟨.ref s.heap.objs.size, _, I.laid (t' := s.toks) (o := .tup []) (fun b ob q => Heap.get?_push_of_some _ q) (Nat.le_refl _) ⟨Nat.zero_le _, [], .nil, IsTup.new _ _⟩, rfl, q _ (I.hok.fresh (Nat.le_refl _))⟩
end DZ
namespace DL
open PySem PySem.Spec PyProof.Rows L2 DZ
/-! tuple * int -/
def tmulB : B2 := fun d e P => ∃ xs k, d = .tuple xs ∧ e = .int k ∧ k ≤ 1000 ∧ -1000 ≤ k ∧ xs.length ≤ 1000 ∧ P (.tuple (List.replicate k.toNat xs).flatten)
theorem moTmul : MoB tmulB := fun d e P P' k ⟨xs, n, x, y, a, b, c, q⟩ => ⟨xs, n, x, y, a, b, c, k _ q⟩
section
variable {X : Cx} {e a b c : Expr} {w w1 w2 w3 : WE} {pos : Pos}
theorem ok_tmul : BOk X tmulB (fun x y H Q => rRepT X.K x y H Q ∨ rRep1 X.K x y H Q) := by
  intro G F pc env σ H x y d e P Q r hx hy ⟨xs, n, e1, e2, h1, h2, h3, p⟩ k
  subst e1 e2
  obtain ⟨l, vs, ex, fx, rx⟩ := hx.tuple
  have ey := Rp.int_iff.mp hy
  have hq := SqT.of (K := X.K) (r.base.f _ _ fx)
  by_cases z : xs = []
  · subst z
    have hv : vs = [] := List.eq_nil_of_length_eq_zero rx.len
    subst hv
    refine .inr ⟨l, n, [], ex, ey, hq, by omega, by omega, .inl ⟨rfl, ?_⟩⟩
    have : (List.replicate n.toNat ([] : List PyData)).flatten = [] := by simp
    rw [this] at p
    exact k _ _ F H p (Same.refl _) r (ex ▸ hx)
  have hv : vs ≠ [] := fun q => z (List.eq_nil_of_length_eq_zero (by rw [← rx.len, q]; rfl))
  by_cases z1 : n = 1
  · subst z1
    refine .inr ⟨l, 1, vs, ex, ey, hq, by omega, by omega, .inr (.inl ⟨rfl, ?_⟩)⟩
    have : (List.replicate (1 : Int).toNat xs).flatten = xs := by simp
    rw [this] at p
    exact k _ _ F H p (Same.refl _) r (ex ▸ hx)
  by_cases z2 : n ≤ 0
  · refine .inr ⟨l, n, vs, ex, ey, hq, by omega, by omega, .inr (.inr ⟨hv, z2, fun p' hp => ?_⟩)⟩
    have : n.toNat = 0 := by omega
    rw [this] at p
    obtain ⟨r2, s2, rp⟩ := r.newTup hp (RpL.nil (F := F))
    exact k _ _ _ _ p s2 r2 rp
  · refine .inl ⟨l, n, vs, ex, ey, hq, hv, by omega, by omega, by rw [rx.len]; exact h3, fun p' hp => ?_⟩
    obtain ⟨r2, s2, rp⟩ := r.newTup hp (rx.rep n.toNat)
    exact k _ _ _ _ p s2 r2 rp
theorem ed_tmul (h1 : ED X a w1) (h2 : ED X b w2) : ED X (.BinOp a .Mult b pos) (wBin tmulB w1 w2) := ed_bin (OpR.or op_repT op_rep1) ok_tmul moTmul h1 h2

/-! three at once -/
def wPar3 (i j l : Nat) (w1 w2 w3 : WE) : WS := fun D env => w1 env fun d1 e1 => w2 e1 fun d2 e2 => w3 e2 fun d3 e3 => D.nx (((e3.set i (some (.sh d1))).set j (some (.sh d2))).set l (some (.sh d3)))
theorem sd_par3 (i j l : Nat) {x y z : Str} {px py pz pt pt2 : Pos} {kt k2 : Nat} (hc : X.calm = true) (hN : X.N.Nodup) (hi : X.N[i]? = some x) (hj : X.N[j]? = some y) (hl : X.N[l]? = some z) (hij : i ≠ j) (hil : i ≠ l) (hjl : j ≠ l)
    (hx : X.env.scope.names.lookup x = some .local) (hy : X.env.scope.names.lookup y = some .local) (hz : X.env.scope.names.lookup z = some .local) (h1 : ED X a w1) (h2 : ED X b w2) (h3 : ED X c w3)
    (hw : swappedStores [.Tuple [.Name x px, .Name y py, .Name z pz] kt pt] (.Tuple [a, b, c] k2 pt2) X.env = pure (some [x, y, z]))
    (hs : swapsWithSole [.Tuple [.Name x px, .Name y py, .Name z pz] kt pt] (.Tuple [a, b, c] k2 pt2) pos.line X.env = pure false := by rfl)
    (s1 : starEach [a, b, c] X.env = (false, eval a X.env) :: starEach [b, c] X.env := by rfl) (s2 : starEach [b, c] X.env = (false, eval b X.env) :: starEach [c] X.env := by rfl) (s3 : starEach [c] X.env = (false, eval c X.env) :: starEach [] X.env := by rfl) :
    SD1 X (.Assign [.Tuple [.Name x px, .Name y py, .Name z pz] kt pt] (.Tuple [a, b, c] k2 pt2) pos) (wPar3 i j l w1 w2 w3) := by
  have ha := ad_cons h1 (ad_cons h2 (ad_cons h3 ad_nil s3) s2) s1
  refine ⟨fun D D' env k q => h1.mo _ _ _ (fun d e q => h2.mo _ _ _ (fun d e q => h3.mo _ _ _ (fun d e q => k.nx _ q) q) q) q, ps_conv (ps_par3 hc hN hi hj hl hij hil hjl hx hy hz ha.pa hw hs) fun D σ H ⟨G, F, pc, env, r, q⟩ => ⟨G, F, pc, env, r, ?_⟩⟩
  refine h1.mo _ _ _ (fun d1 e1 q => h2.mo _ _ _ (fun d2 e2 q => h3.mo _ _ _ (fun d3 e3 q vs F' pc' H' s p r' rp => ?_) q) q) q
  simp only [RpL] at rp
  obtain ⟨v1, _, rfl, p1, v2, _, rfl, p2, v3, _, rfl, p3, rfl⟩ := rp
  exact ⟨v1, v2, v3, rfl, q _ F' pc' H' s p (((r'.setSh p1).setSh p2).setSh p3)⟩

/-! tests in place: name == e, name != e for a slot that stays its own -/
def wEqN (neg : Bool) (i : Nat) (w : WE) : WE := fun env P => w env fun d e => ∃ z, slD e i = some z ∧ (itemsOf z).isSome = true ∧ SeqAt.shaped z = true ∧ SeqAt.shaped d = true ∧ P (.bool (xor neg (PyData.eqv z d))) e
theorem moEqN {neg : Bool} {i : Nat} (h : MoE w) : MoE (wEqN neg i w) := fun env P P' k q => h _ _ _ (fun d e ⟨z, a, b, c, g, q⟩ => ⟨z, a, b, c, g, k _ _ q⟩) q
theorem slD_keep {M : Str → Option Value} {K : PySem.W.Frag} {G F H : Hp} {pc : Pc} {env : Nv} {σ : L2.St} {i : Nat} {z d : PyData} {v : V} (r : Rel M G F pc env σ H) (h : slD env i = some z) (hi : (itemsOf z).isSome = true) (sz : SeqAt.shaped z = true) (sd : SeqAt.shaped d = true) (rp : Rp F d v) :
    ∃ x, σ[i]? = some (some x) ∧ Dp K H x z ∧ Dp K H v d := by
  obtain ⟨ds, e⟩ := Option.isSome_iff_exists.mp hi
  obtain ⟨x, h1, h2⟩ := slD_dp (K := K) r h e (SeqAt.canLay_of_shaped sz)
  exact ⟨x, h1, h2, Rp.dp r.base.f d v (SeqAt.canLay_of_shaped sd) rp⟩
theorem tW_eqN {neg : Bool} {i : Nat} {d : PyData} {v : V} (hw : ∀ env P, w env P ↔ P d env) (hv : ∀ F, Rp F d v) {σ : L2.St} {H : Hp} {Q : VK} (h : tW X.mg (wEqN neg i w) σ H Q) :
    ∃ x, σ[i]? = some (some x) ∧ ∃ z, Dp X.K H x z ∧ Dp X.K H v d ∧ SeqAt.shaped z = true ∧ SeqAt.shaped d = true ∧ Q (.bl (xor neg (PyData.eqv z d))) H := by
  obtain ⟨G, F, pc, env, r, q⟩ := h
  obtain ⟨z, e1, e2, e3, e4, q⟩ := (hw _ _).mp q
  obtain ⟨x, h1, h2, h3⟩ := slD_keep (K := X.K) r e1 e2 e3 e4 (hv F)
  exact ⟨x, h1, z, h2, h3, e3, e4, q _ F pc H (Same.refl _) .refl r (by simp only [Rp])⟩
/-- name != [], name == [] -/
theorem conv_eqN (neg : Bool) (i : Nat) {σ : L2.St} {H : Hp} {Q : VK} (h : tW X.mg (wEqN neg i (wC (.list []))) σ H Q) : tOp (fun x y H Q => ∃ d e, Dp X.K H x d ∧ Dp X.K H y e ∧ SeqAt.shaped d = true ∧ SeqAt.shaped e = true ∧ Q (.bl (xor neg (PyData.eqv d e))) H) (tVar i) (tLst tNil) σ H Q := by
  obtain ⟨G, F, pc, env, r, q⟩ := h
  obtain ⟨z, e1, e2, e3, e4, q⟩ := q
  obtain ⟨ds, e⟩ := Option.isSome_iff_exists.mp e2
  obtain ⟨v, h1, h2⟩ := slD_dp (K := X.K) r e1 e (SeqAt.canLay_of_shaped e3)
  refine ⟨v, h1, by simp, fun p hp => ?_⟩
  obtain ⟨r2, s2, rp⟩ := r.newLst hp (RpL.nil (F := F))
  obtain ⟨v', h1', h2', h3'⟩ := slD_keep (K := X.K) r2 e1 e2 e3 e4 rp
  rw [h1] at h1'; cases h1'
  exact ⟨z, .list [], h2', h3', e3, e4, q _ _ pc _ s2 .refl r2 (by simp only [Rp])⟩
theorem rel_ne {x y : V} {H : Hp} {Q : VK} (h : ∃ d e, Dp X.K H x d ∧ Dp X.K H y e ∧ SeqAt.shaped d = true ∧ SeqAt.shaped e = true ∧ Q (.bl (xor true (PyData.eqv d e))) H) : rNeD X.K x y H Q := by
  obtain ⟨d, e, a, b, c, f, q⟩ := h
  exact ⟨d, e, a, b, c, f, by simpa using q⟩
theorem rel_eq {x y : V} {H : Hp} {Q : VK} (h : ∃ d e, Dp X.K H x d ∧ Dp X.K H y e ∧ SeqAt.shaped d = true ∧ SeqAt.shaped e = true ∧ Q (.bl (xor false (PyData.eqv d e))) H) : rEqD X.K x y H Q := by
  obtain ⟨d, e, a, b, c, f, q⟩ := h
  exact ⟨d, e, a, b, c, f, by simpa using q⟩
theorem to_ne {i : Nat} {σ : L2.St} {H : Hp} {Q : VK} (h : tW X.mg (wEqN true i (wC (.list []))) σ H Q) : tOp (rNeD X.K) (tVar i) (tLst tNil) σ H Q := by
  obtain ⟨v, h1, h2, h3⟩ := conv_eqN true i h
  exact ⟨v, h1, h2, fun p hp => rel_ne (h3 p hp)⟩
theorem to_eq {i : Nat} {σ : L2.St} {H : Hp} {Q : VK} (h : tW X.mg (wEqN false i (wC (.list []))) σ H Q) : tOp (rEqD X.K) (tVar i) (tLst tNil) σ H Q := by
  obtain ⟨v, h1, h2, h3⟩ := conv_eqN false i h
  exact ⟨v, h1, h2, fun p hp => rel_eq (h3 p hp)⟩
theorem ed_neN (i : Nat) {x : Str} {npos lpos : Pos} (hu : X.A.units + 64 < cLine) (h : PE X (.Name x npos) (tVar i)) : ED X (.Compare (.Name x npos) [.NotEq] [.List [] lpos] pos) (wEqN true i (wC (.list []))) :=
  ⟨moEqN (moC _), pe_conv (pe_cmpR (op_neD hu) h (pe_lst pa_nil) (nomark _)) fun σ H Q q => to_ne (X := X) q⟩
theorem ed_eqN (i : Nat) {x : Str} {npos lpos : Pos} (hu : X.A.units + 64 < cLine) (h : PE X (.Name x npos) (tVar i)) : ED X (.Compare (.Name x npos) [.Eq] [.List [] lpos] pos) (wEqN false i (wC (.list []))) :=
  ⟨moEqN (moC _), pe_conv (pe_cmpR (op_eqD hu) h (pe_lst pa_nil) (nomark _)) fun σ H Q q => to_eq (X := X) q⟩
theorem td_neN (i : Nat) {x : Str} {npos lpos : Pos} (hu : X.A.units + 64 < cLine) (h : PE X (.Name x npos) (tVar i)) : TD X (.Compare (.Name x npos) [.NotEq] [.List [] lpos] pos) (wTest (wEqN true i (wC (.list [])))) :=
  ⟨moTest (moEqN (moC _)), pt_conv (pt_cmpR (op_neD hu) h (pe_lst pa_nil) (nomark _)) fun σ H Q q => to_ne (X := X) (tW_test (X := X) (moEqN (moC _)) q)⟩
theorem td_eqN (i : Nat) {x : Str} {npos lpos : Pos} (hu : X.A.units + 64 < cLine) (h : PE X (.Name x npos) (tVar i)) : TD X (.Compare (.Name x npos) [.Eq] [.List [] lpos] pos) (wTest (wEqN false i (wC (.list [])))) :=
  ⟨moTest (moEqN (moC _)), pt_conv (pt_cmpR (op_eqD hu) h (pe_lst pa_nil) (nomark _)) fun σ H Q q => to_eq (X := X) (tW_test (X := X) (moEqN (moC _)) q)⟩

/-! dicts made -/
/-- {k: v}: an own dict of one int (or text) key -/
def wDict1 (w1 w2 : WE) : WE := fun env P => w1 env fun k e1 => w2 e1 fun d e2 => ∃ key, kOf k = some key ∧ P (.dict [(keyD key, d)]) e2
theorem moDict1 (h1 : MoE w1) (h2 : MoE w2) : MoE (wDict1 w1 w2) := fun env P P' k q => h1 _ _ _ (fun d e q => h2 _ _ _ (fun d e ⟨key, a, q⟩ => ⟨key, a, k _ _ q⟩) q) q
theorem od_dict1 (h1 : ED X a w1) (h2 : ED X b w2) : OD X (.Dict [some a] [b] pos) (wDict1 w1 w2) := by
  refine ⟨moDict1 h1.mo h2.mo, pe_conv (pe_disp (pps_cons h1.pe h2.pe pps_nil) rfl rfl (by simp) (by simp)) fun σ H Q ⟨G, F, pc, env, r, q⟩ => fun p hp => ?_⟩
  have r0 := r.pin (o := .dK []) hp
  refine ⟨_, F, pc, env, r0, h1.mo _ _ _ (fun k e1 q v1 F1 pc1 H1 s1 p1 r1 rp1 => ?_) q⟩
  refine ⟨_, F1, pc1, e1, r1, h2.mo _ _ _ (fun d e2 q v2 F2 pc2 H2 s2 p2 r2 rp2 => ?_) q⟩
  obtain ⟨key, ek, q⟩ := q
  have hH : H2 p = some (.dK []) := r2.base.g _ _ upd_same
  have hG : G p = none := (r.base.free hp).2.1
  have ev : v1 = kV key := Rp.key (Rp.mono s2 _ _ rp1) ek
  refine ⟨hH, [(key, v2)], by simp [ev], by simp, ?_⟩
  have hm : mergeK [] [(key, v2)] = [(key, v2)] := by simp [mergeK, putK]
  rw [hm]
  have r3 := r2.pinSet (o' := .dK [(key, v2)]) (fun b x e z => by subst z; rw [hG] at e; cases e)
  obtain ⟨r4, f4⟩ := r3.unhold (d := .dict [(keyD key, d)]) (F0 := F2) (H0 := upd H2 p (.dK [(key, v2)])) hG ⟨_, upd_same, by simp only [RpK]; exact ⟨key, v2, [], rfl, rfl, rp2, rfl⟩⟩ upd_same (Same.refl _)
  exact q p F2 pc2 _ (s1.trans s2) (p1.trans p2) r4 f4
/-- {}: an own empty dict -/
def wDict0 : WE := fun env P => P (.dict []) env
theorem od_dict0 : OD X (.Dict [] [] pos) wDict0 := by
  refine ⟨fun env P P' k q => k _ _ q, pe_conv pe_dnewK fun σ H Q ⟨G, F, pc, env, r, q⟩ => fun p hp => ?_⟩
  obtain ⟨r2, f⟩ := r.layO (o := .dK []) (d := .dict []) hp ⟨[], upd_same, by simp only [RpK]⟩
  exact q p F pc _ (Same.refl _) .refl r2 f
/-- dict(xs) of a list of pairs -/
def putsD (acc : List (PyData × PyData)) (more : List (L2.Key × PyData)) : List (PyData × PyData) := more.foldl (fun acc kv => dPut acc kv.1 kv.2) acc
def pairD (kv : L2.Key × PyData) : PyData := .tuple [keyD kv.1, kv.2]
def dictC : BC := fun ds P => ∃ kvs : List (L2.Key × PyData), ds = [.list (kvs.map pairD)] ∧ P (.dict (putsD [] kvs))
theorem RpK.puts {F : Hp} : ∀ {more : List (L2.Key × PyData)} {ms : List (L2.Key × V)} {acc : List (PyData × PyData)} {as : List (L2.Key × V)}, Paired (fun (p : L2.Key × PyData) (q : L2.Key × V) => p.1 = q.1 ∧ Rp F p.2 q.2) more ms → RpK F acc as → RpK F (putsD acc more) (mergeK as ms)
  | _, _, acc, as, .nil, r => r
  | _, _, acc, as, .cons (a := a) (b := b) h t, r => by
    have h1 := h.1
    show RpK F (putsD (dPut acc a.1 a.2) _) (mergeK (putK as b.1 b.2) _)
    rw [← h1]
    exact RpK.puts t (r.put h.2)
theorem pairs_of {F H : Hp} {K : PySem.W.Frag} (s : Same F H) : ∀ {kvs : List (L2.Key × PyData)} {vs : List V}, RpL F (kvs.map pairD) vs → ∃ (ps : List Addr) (ms : List (L2.Key × V)), vs = ps.map V.ref ∧ Paired (fun p (kv : L2.Key × V) => SqT K H p [kV kv.1, kv.2]) ps ms ∧ Paired (fun (p : L2.Key × PyData) (q : L2.Key × V) => p.1 = q.1 ∧ Rp F p.2 q.2) kvs ms
  | [], vs, r => by
    simp only [List.map_nil, RpL] at r
    subst r
    exact ⟨[], [], rfl, .nil, .nil⟩
  | kv :: kr, vs, r => by
    simp only [List.map_cons, RpL] at r
    obtain ⟨v, q, rfl, h1, h2⟩ := r
    obtain ⟨ps, ms, e, p1, p2⟩ := pairs_of (K := K) s h2
    obtain ⟨a, us, e1, f, g⟩ := h1.tuple
    simp only [RpL] at g
    obtain ⟨vk, _, rfl, g1, vv, _, rfl, g2, rfl⟩ := g
    have ek : vk = kV kv.1 := Rp.key g1 (kOf_keyD _)
    subst e1 e ek
    exact ⟨a :: ps, (kv.1, vv) :: ms, rfl, .cons (SqT.of (s _ _ f)) p1, .cons ⟨rfl, g2⟩ p2⟩
theorem ok_dictO : COkO X dictC (fun xs H Q => ∃ (a : Addr) (ps : List Addr) (kvs : List (L2.Key × V)), xs = [.ref a] ∧ SqL X.K H a (ps.map V.ref) ∧ Paired (fun p kv => SqT X.K H p [kV kv.1, kv.2]) ps kvs ∧ ∀ p, H p = none → Q (.ref p) (upd H p (.dK (mergeK [] kvs)))) := by
  intro G F pc env σ H vs ds P Q r rp ⟨kvs, e, p⟩ k
  subst e
  obtain ⟨v, ev, rv⟩ := rp.one
  subst ev
  obtain ⟨a, us, e1, f, g⟩ := rv.list
  subst e1
  obtain ⟨ps, ms, eu, p1, p2⟩ := pairs_of (K := X.K) r.base.f g
  subst eu
  refine ⟨a, ps, ms, rfl, SqL.of (r.base.f _ _ f), p1, fun q hq => ?_⟩
  obtain ⟨r2, f2⟩ := r.layO (o := .dK (mergeK [] ms)) (d := .dict (putsD [] kvs)) hq ⟨_, upd_same, RpK.puts p2 (by simp only [RpK])⟩
  exact k _ _ _ p r2 f2
theorem od_dict {p : Pos} (hc : X.calm = true) (hg : Gl X "dict") (hm : X.mg "dict" = none) (ha : ED X e w) (hs : starEach [e] X.env = (false, eval e X.env) :: starEach [] X.env := by rfl) : OD X (.Call (.Name "dict" p) [e] [] pos) (wCall (wCons w wNil) dictC) :=
  od_callTy (fun ds P P' k ⟨kvs, e, p⟩ => ⟨kvs, e, k _ p⟩) ok_dictO (call_dictP hc) hg hm (by decide +kernel) (ad_cons ha ad_nil hs) (he := hs)
/-- name.get(k, d) in place -/
def wGetN (i : Nat) (w1 w2 : WE) : WE := fun env P => (∃ kvs, slD env i = some (.dict kvs)) ∧ w1 env fun k e1 => w2 e1 fun d e2 => ∃ kvs key, slD e2 i = some (.dict kvs) ∧ kOf k = some key ∧ P ((dLook kvs key).getD d) e2
theorem ed_getN (i : Nat) {x : Str} {npos apos : Pos} (hu : X.A.units + 1 < cLine) (h : PE X (.Name x npos) (tVar i)) (h1 : ED X a w1) (h2 : ED X b w2) (m : M2 X (.Name x npos) "get" apos a b pos := by exact ⟨rfl, rfl, rfl, rfl⟩) : ED X (.Call (.Attribute (.Name x npos) "get" apos) [a, b] [] pos) (wGetN i w1 w2) := by
  refine ⟨fun env P P' k q => ⟨q.1, h1.mo _ _ _ (fun d e q => h2.mo _ _ _ (fun d e ⟨kvs, key, x, y, q⟩ => ⟨kvs, key, x, y, k _ _ q⟩) q) q.2⟩, pe_conv (pe_dget2 hu h h1.pe h2.pe m) fun σ H Q ⟨G, F, pc, env, r, ⟨kvs0, e0⟩, q⟩ => ?_⟩
  obtain ⟨l, ks, g1, g2, g3⟩ := slD_dct r e0
  refine ⟨_, g1, l, rfl, .inl ⟨ks, .inl g2⟩, G, F, pc, env, r, h1.mo _ _ _ (fun d e1 q v1 F1 pc1 H1 s1 p1 r1 rp1 => ?_) q⟩
  refine ⟨G, F1, pc1, e1, r1, h2.mo _ _ _ (fun d2 e2 q v2 F2 pc2 H2 s2 p2 r2 rp2 => ?_) q⟩
  obtain ⟨kvs, key, e3, ek, q⟩ := q
  obtain ⟨l', ks', k1, k2, k3⟩ := slD_dct r2 e3
  rw [g1] at k1; cases k1
  have ev : v1 = kV key := Rp.key (Rp.mono s2 _ _ rp1) ek
  subst ev
  refine ⟨_, DGet.k k2, q _ F2 pc2 H2 (s1.trans s2) (p1.trans p2) r2 ?_⟩
  obtain ⟨a1, a2⟩ := k3.look (k := key)
  cases hl : dLook kvs key with
  | none => rw [a2 hl]; exact rp2
  | some z =>
    obtain ⟨v, hv, rz⟩ := a1 z hl
    rw [hv]; exact rz
end
/-! a comprehension over an own list that stays in its slot -/
theorem Rel.holdAt {M : Str → Option Value} {G F H : Hp} {pc : Pc} {env : Nv} {σ : L2.St} {i : Nat} {d : PyData} (r : Rel M G F pc env σ H) (e : env[i]? = some (some (.ow d))) :
    ∃ a o, σ[i]? = some (some (.ref a)) ∧ H a = some o ∧ OwnAt G F pc H a d ∧ Rel M (upd G a o) F pc (env.set i none) σ H := by
  obtain ⟨v, h1, a, h2, w⟩ := r.cell i _ e
  subst h2
  obtain ⟨o, ho⟩ := w.cnt.ex
  have hi : i < env.length := (List.getElem?_eq_some_iff.mp e).1
  have r1 : Rel M G F pc (env.set i none) σ H := r.weak (by rw [List.length_set]) rfl fun j c ec => by
    by_cases hj : j = i
    · subst hj; rw [List.getElem?_set_self hi] at ec; cases ec
    · rw [List.getElem?_set_ne (Ne.symm hj)] at ec; exact ⟨ec, rfl⟩
  have f : Frs G F pc (env.set i none) σ H a d := ⟨w, fun j e' he hs => by
    by_cases hj : j = i
    · subst hj; rw [List.getElem?_set_self hi] at he; cases he
    · rw [List.getElem?_set_ne (Ne.symm hj)] at he
      exact r.dis j i a e' d hj he e hs h1⟩
  obtain ⟨o', ho', r2⟩ := r1.hold f
  rw [ho] at ho'; cases ho'
  exact ⟨a, o, h1, ho, w, r2⟩
theorem Rel.unholdAt {M : Str → Option Value} {G F F0 H H0 : Hp} {pc : Pc} {env : Nv} {σ : L2.St} {i : Nat} {a : Addr} {o : HO} {d : PyData} (r : Rel M (upd G a o) F pc env σ H) (hG : G a = none) (c : Cnt F0 H0 a d) (ho : H0 a = some o) (s : Same F0 F) (hσ : σ[i]? = some (some (.ref a))) :
    Rel M G F pc (env.set i (some (.ow d))) σ H := by
  obtain ⟨r1, f1⟩ := r.unhold hG c ho s
  have hl := r1.len
  have hi : i < env.length := by rw [hl]; exact (List.getElem?_eq_some_iff.mp hσ).1
  refine ⟨r1.base, by rw [List.length_set]; exact hl, fun j c' ec => ?_, fun j k b d1 d2 hjk e1 e2 => ?_⟩
  · by_cases hj : j = i
    · subst hj
      rw [List.getElem?_set_self hi] at ec
      cases ec
      exact ⟨_, hσ, a, rfl, f1.own⟩
    · rw [List.getElem?_set_ne (Ne.symm hj)] at ec
      exact r1.cell j c' ec
  · by_cases hj : j = i
    · subst hj
      rw [List.getElem?_set_ne hjk] at e2
      rw [hσ]
      intro z q; cases z
      exact f1.dis k d2 e2 q
    · rw [List.getElem?_set_ne (Ne.symm hj)] at e1
      by_cases hk : k = i
      · subst hk
        rw [hσ]
        intro z q; cases q
        exact f1.dis j d1 e1 z
      · rw [List.getElem?_set_ne (Ne.symm hk)] at e2
        exact r1.dis j k b d1 d2 hjk e1 e2
def wCompN (j : Nat) (g : WG) (wt : WT) (we : WE) (own : List Nat) : WE := fun env P => ∃ ds, env[j]? = some (some (.ow (.list ds))) ∧ compL g wt we own (fun acc e2 => P (.list acc) ((backN (env.set j none) e2 own).set j (some (.ow (.list ds))))) ds [] (wipeN (env.set j none) own)
section
variable {X : Cx} {tg elt : Expr} {pos : Pos} {ifs : List Expr} {scope : Scope} {own : List (Str × Nat)} {t : TG} {g : WG} {ns : List Nat} {wt : WT} {we : WE}
theorem ed_compN (j : Nat) {x : Str} {npos : Pos} (hc : X.calm = true) (hN : X.N.Nodup) (h : PE X (.Name x npos) (tVar j)) (ok : BlkOk X.N X.env.scope scope own)
    (hg : ∀ (s : Shared) (H : Hp) (C : Addr) (cl : List (Str × Addr)) (fp : List Addr), GD (X.blk s H scope (compEnvC scope cl C X.env) fp) tg t g ns)
    (ht : ∀ (s : Shared) (H : Hp) (C : Addr) (cl : List (Str × Addr)) (fp : List Addr), TsD (X.blk s H scope (compEnvC scope cl C X.env) fp) ifs wt)
    (he : ∀ (s : Shared) (H : Hp) (C : Addr) (cl : List (Str × Addr)) (fp : List Addr), ED (X.blk s H scope (compEnvC scope cl C X.env) fp) elt we)
    (hns : ∀ i ∈ ns, i ∈ own.map (·.2) := by decide) (hs : ∀ y, foldedSetIterable (.Name x npos) X.env y = pure y := by intro _; rfl) :
    ED X (.ListComp elt [⟨tg, .Name x npos, ifs, 0⟩] scope pos) (wCompN j g wt we (own.map (·.2))) := by
  have moG := (hg {} (fun _ => none) 0 [] []).mo
  have moT := (ht {} (fun _ => none) 0 [] []).mo
  have moE := (he {} (fun _ => none) 0 [] []).mo
  have okG := (hg {} (fun _ => none) 0 [] []).ok
  refine ⟨fun env P P' k ⟨ds, e, q⟩ => ⟨ds, e, compL_mono moG moT moE (fun a e q => k _ _ q) _ _ _ q⟩, pe_conv (pe_lc (wi := iList X.K (tVar j)) (g := t) (tt := tT X.mg wt) (te := tW X.mg we) hc hN (pi_list h) ok (fun s H C cl fp => (hg s H C cl fp).pg) (fun s H C cl fp => (ht s H C cl fp).pts) (fun s H C cl fp => (he s H C cl fp).pe) hs) fun σ H Q ⟨G, F, pc, env, r, ds, e, q⟩ => ?_⟩
  obtain ⟨a, o, h1, ho, w, r1⟩ := r.holdAt e
  obtain ⟨vs, hv, rl⟩ := w.cnt
  rw [hv] at ho; cases ho
  refine ⟨_, h1, a, rfl, ⟨vs, SqL.of hv⟩, ?_⟩
  have it : IterOk (Itl X.K a) (upd G a (.lst vs)) F ds :=
    { go := fun i H' sg _ hi => ⟨vs, vs[i]'(by rw [rl.len]; exact hi), SqL.of (sg _ _ upd_same), by simp⟩
      yld := fun i H' x H'' d sg _ e y => by
        obtain ⟨v, k1, k2⟩ := rl.get e
        have := y.2 vs (SqL.of (sg _ _ upd_same))
        rw [k1] at this; cases this
        exact .inl ⟨y.1, k2⟩
      stop := fun i H' sg _ hi => ⟨vs, SqL.of (sg _ _ upd_same), by rw [rl.len]; exact hi⟩ }
  refine lc_core moG moT moE okG hns r1 it (compL_mono moG moT moE (fun acc e2 q2 b F' pc' H' s p r' f => ?_) _ _ _ q)
  obtain ⟨ob, eb, r2, rp, s2⟩ := r'.freeze f
  have r3 := r2.unholdAt (d := .list ds) (F0 := F) (H0 := H) w.g ⟨vs, hv, rl⟩ hv (s.trans s2) h1
  exact q2 _ _ pc' H' (s.trans s2) p r3 rp
end
/-! targets, the written part named -/
section
variable {X : Cx} {pos : Pos}
theorem gd_tupK {K : PySem.W.Frag} {es : List Expr} {k : Nat} {t : TGs} {gs : WGs} {n : Nat} {ns : List Nat} (hK : X.K = K) (hc : X.calm = true) (h : GsD X es t gs ns) (hn : (assignEach es X.env).length = n := by rfl) (hst : (assignEach es X.env).findIdx? (·.1) = none := by rfl) :
    GD X (.Tuple es k pos) (gTup K n t) (wGtup n gs) ns := by
  subst hK; exact gd_tup hc h hn hst
theorem gd_unlK {K : PySem.W.Frag} {es : List Expr} {k : Nat} {t : TGs} {gs : WGs} {n : Nat} {ns : List Nat} (hK : X.K = K) (hc : X.calm = true) (h : GsD X es t gs ns) (hn : (assignEach es X.env).length = n := by rfl) (hst : (assignEach es X.env).findIdx? (·.1) = none := by rfl) :
    GD X (.Tuple es k pos) (gUnl K n t) (wGunl n gs) ns := by
  subst hK; exact gd_unl hc h hn hst
end
end DL
set_option Elab.async false
set_option linter.all false
set_option maxRecDepth 100000
set_option maxHeartbeats 1000000
set_option autoImplicit false
/-! DLs: reading the transformers. -/
namespace DL
open PySem PySem.Spec PyProof.Rows L2 DZ
section
variable {env : Nv} {d e z : PyData} {P : PyData → Nv → Prop} {w w1 w2 w3 : WE} {i j : Nat} {D : DE}
theorem wVar_sh (h : env[i]? = some (some (.sh d))) : wVar i env P = P d env := by unfold wVar; rw [h]
theorem wVar_ow (h : env[i]? = some (some (.ow d))) : wVar i env P = P d (env.set i (some (.sh d))) := by unfold wVar; rw [h]
@[simp] theorem wC_eq : wC d env P = P d env := rfl
@[simp] theorem wBin_eq {B : B2} : wBin B w1 w2 env P = w1 env fun d e1 => w2 e1 fun e e2 => B d e fun z => P z e2 := rfl
@[simp] theorem iiB_eq {C : Int → Int → Prop} {g : Int → Int → PyData} {a b : Int} {Q : PyData → Prop} : iiB C g (.int a) (.int b) Q = (C a b ∧ Q (g a b)) := by
  apply propext
  constructor
  · rintro ⟨x, y, h1, h2, c, q⟩; cases h1; cases h2; exact ⟨c, q⟩
  · rintro ⟨c, q⟩; exact ⟨a, b, rfl, rfl, c, q⟩
@[simp] theorem bbB_eq {g : Bool → Bool → Bool} {a b : Bool} {Q : PyData → Prop} : bbB g (.bool a) (.bool b) Q = Q (.bool (g a b)) := by
  apply propext
  constructor
  · rintro ⟨x, y, h1, h2, q⟩; cases h1; cases h2; exact q
  · intro q; exact ⟨a, b, rfl, rfl, q⟩
@[simp] theorem addB_int {a b : Int} {Q : PyData → Prop} : addB (.int a) (.int b) Q = Q (.int (a + b)) := rfl
@[simp] theorem addB_list {a b : List PyData} {Q : PyData → Prop} : addB (.list a) (.list b) Q = (a.length + b.length ≤ sizeLine ∧ Q (.list (a ++ b))) := rfl
@[simp] theorem addB_tup {a b : List PyData} {Q : PyData → Prop} : addB (.tuple a) (.tuple b) Q = (a.length + b.length ≤ sizeLine ∧ Q (.tuple (a ++ b))) := rfl
@[simp] theorem laddB_eq {a b : List PyData} {Q : PyData → Prop} : laddB (.list a) (.list b) Q = (a.length + b.length ≤ sizeLine ∧ Q (.list (a ++ b))) := rfl
@[simp] theorem mulB_int {a b : Int} {Q : PyData → Prop} : mulB (.int a) (.int b) Q = ((a.natAbs < 2 ^ 64 ∨ b.natAbs < 2 ^ 64) ∧ Q (.int (a * b))) := rfl
@[simp] theorem mulB_list {a : List PyData} {b : Int} {Q : PyData → Prop} : mulB (.list a) (.int b) Q = (a.length * b.toNat ≤ sizeLine ∧ b < 2 ^ 63 ∧ -(2 ^ 63) ≤ b ∧ Q (.list (List.replicate b.toNat a).flatten)) := rfl
@[simp] theorem lmulB_eq {a : List PyData} {b : Int} {Q : PyData → Prop} : lmulB (.list a) (.int b) Q = (a.length * b.toNat ≤ sizeLine ∧ b < 2 ^ 63 ∧ -(2 ^ 63) ≤ b ∧ Q (.list (List.replicate b.toNat a).flatten)) := rfl
@[simp] theorem tmulB_eq {a : List PyData} {b : Int} {Q : PyData → Prop} : tmulB (.tuple a) (.int b) Q = (b ≤ 1000 ∧ -1000 ≤ b ∧ a.length ≤ 1000 ∧ Q (.tuple (List.replicate b.toNat a).flatten)) := by
  apply propext
  constructor
  · rintro ⟨x, y, h1, h2, a1, a2, a3, q⟩; cases h1; cases h2; exact ⟨a1, a2, a3, q⟩
  · rintro ⟨a1, a2, a3, q⟩; exact ⟨a, b, rfl, rfl, a1, a2, a3, q⟩
@[simp] theorem ixB_list {a : List PyData} {b : Int} {Q : PyData → Prop} : ixB (.list a) (.int b) Q = ∃ z, atI a b = some z ∧ Q z := rfl
@[simp] theorem ixB_tup {a : List PyData} {b : Int} {Q : PyData → Prop} : ixB (.tuple a) (.int b) Q = ∃ z, atI a b = some z ∧ Q z := rfl
@[simp] theorem eqB_eq {Q : PyData → Prop} : eqB d e Q = (SeqAt.shaped d = true ∧ SeqAt.shaped e = true ∧ Q (.bool (PyData.eqv d e))) := rfl
@[simp] theorem neB_eq {Q : PyData → Prop} : neB d e Q = (SeqAt.shaped d = true ∧ SeqAt.shaped e = true ∧ Q (.bool (!PyData.eqv d e))) := rfl
@[simp] theorem isNB_eq {Q : PyData → Prop} : isNB d .none Q = Q (.bool (isNone d)) := by simp [isNB]
@[simp] theorem notNB_eq {Q : PyData → Prop} : notNB d .none Q = Q (.bool (!isNone d)) := by simp [notNB]
@[simp] theorem ex_bool {b : Bool} {Q : Bool → Prop} : (∃ k, PyData.bool b = .bool k ∧ Q k) = Q b := by simp
@[simp] theorem ex_int {b : Int} {Q : Int → Prop} : (∃ k, PyData.int b = .int k ∧ Q k) = Q b := by simp
@[simp] theorem wTest_eq {Q : Bool → Nv → Prop} : wTest w env Q = w env fun d e => ∃ k, d = .bool k ∧ Q k e := rfl
@[simp] theorem wNeg_eq : wNeg w env P = w env fun d e => ∃ i, d = .int i ∧ P (.int (-i)) e := rfl
@[simp] theorem wNotT_eq {w : WT} {Q : Bool → Nv → Prop} : wNotT w env Q = w env fun b e => Q (!b) e := rfl
@[simp] theorem wNotE_eq : wNotE w env P = w env fun d e => ∃ b, d = .bool b ∧ P (.bool (!b)) e := rfl
@[simp] theorem wAndT_eq {w1 w2 : WT} {Q : Bool → Nv → Prop} : wAndT w1 w2 env Q = w1 env fun b e => if b = true then w2 e Q else Q false e := rfl
@[simp] theorem wOrT_eq {w1 w2 : WT} {Q : Bool → Nv → Prop} : wOrT w1 w2 env Q = w1 env fun b e => if b = true then Q true e else w2 e Q := rfl
@[simp] theorem wAndE_eq : wAndE w1 w2 env P = w1 env fun d e => ∃ b, d = .bool b ∧ if b = true then w2 e P else P (.bool false) e := rfl
@[simp] theorem wOrE_eq : wOrE w1 w2 env P = w1 env fun d e => ∃ b, d = .bool b ∧ if b = true then P (.bool true) e else w2 e P := rfl
@[simp] theorem wIf_eq {w : WT} : wIf w w1 w2 env P = w env fun b e => if b = true then w1 e P else w2 e P := rfl
@[simp] theorem wNil_eq {Q : List PyData → Nv → Prop} : wNil env Q = Q [] env := rfl
@[simp] theorem wCons_eq {wr : WA} {Q : List PyData → Nv → Prop} : wCons w wr env Q = w env fun d e => wr e fun ds e2 => Q (d :: ds) e2 := rfl
@[simp] theorem wTup_eq {w : WA} : wTup w env P = w env fun ds e => ds.length ≤ sizeLine ∧ P (.tuple ds) e := rfl
@[simp] theorem wLst_eq {w : WA} : wLst w env P = w env fun ds e => ds.length ≤ sizeLine ∧ P (.list ds) e := rfl
@[simp] theorem wCall_eq {w : WA} {B : BC} : wCall w B env P = w env fun ds e => B ds fun z => P z e := rfl
@[simp] theorem absC_eq {a : Int} {Q : PyData → Prop} : absC [.int a] Q = Q (.int (if a < 0 then -a else a)) := by simp [absC]
@[simp] theorem intC_int {a : Int} {Q : PyData → Prop} : intC [.int a] Q = Q (.int a) := by simp [intC]
@[simp] theorem intC_bool {a : Bool} {Q : PyData → Prop} : intC [.bool a] Q = Q (.int (if a then 1 else 0)) := by simp [intC]
@[simp] theorem maxC_eq {a b : Int} {Q : PyData → Prop} : maxC [.int a, .int b] Q = Q (.int (if b > a then b else a)) := by
  apply propext
  constructor
  · rintro ⟨i, j, h, q⟩; cases h; exact q
  · intro q; exact ⟨a, b, rfl, q⟩
@[simp] theorem minC_eq {a b : Int} {Q : PyData → Prop} : minC [.int a, .int b] Q = Q (.int (if b < a then b else a)) := by
  apply propext
  constructor
  · rintro ⟨i, j, h, q⟩; cases h; exact q
  · intro q; exact ⟨a, b, rfl, q⟩
@[simp] theorem items_l {a : List PyData} : itemsOf (.list a) = some a := rfl
@[simp] theorem items_t {a : List PyData} : itemsOf (.tuple a) = some a := rfl
@[simp] theorem lenC_eq {Q : PyData → Prop} : lenC [d] Q = ∃ xs, itemsOf d = some xs ∧ Q (.int xs.length) := by simp [lenC]
@[simp] theorem listC_eq {Q : PyData → Prop} : listC [d] Q = ∃ xs, itemsOf d = some xs ∧ Q (.list xs) := by simp [listC]
@[simp] theorem tupleC_eq {Q : PyData → Prop} : tupleC [d] Q = ∃ xs, itemsOf d = some xs ∧ Q (.tuple xs) := by simp [tupleC]
@[simp] theorem reprC_eq {Q : PyData → Prop} : reprC [d] Q = (ReprOk d ∧ Q (.str d.shown)) := by simp [reprC]
@[simp] theorem ex_some {α : Type} {a : α} {Q : α → Prop} : (∃ x, some a = some x ∧ Q x) = Q a := by simp
@[simp] theorem wIsi_eq {T : PyData → Bool} : wIsi T w env P = w env fun d e => P (.bool (T d)) e := rfl
@[simp] theorem wUser_eq {s : DSp} {wc : WC} : wUser s wc env P = wc env fun cs e => s cs fun d => P d e := rfl
@[simp] theorem wc0_eq {Q : List Sl → Nv → Prop} : wc0 env Q = Q [] env := rfl
@[simp] theorem wcD_eq {wr : WC} {Q : List Sl → Nv → Prop} : wcD w wr env Q = w env fun d e => wr e fun cs e2 => Q (.sh d :: cs) e2 := rfl
@[simp] theorem wcS_eq {wr : WC} {Q : List Sl → Nv → Prop} : wcS i wr env Q = (env[i]? = some (some .src) ∧ wr env fun cs e2 => Q (.src :: cs) e2) := rfl
@[simp] theorem wSeqS_eq {u1 u2 : WS} : wSeqS u1 u2 D env = u1 ⟨fun e => u2 D e, D.rt⟩ env := rfl
@[simp] theorem wRet_eq : wRet w D env = w env fun d _ => D.rt d := rfl
@[simp] theorem wExpr_eq : wExpr w D env = w env fun _ e => D.nx e := rfl
@[simp] theorem wIfS_eq {w : WT} {u1 u2 : WS} : wIfS w u1 u2 D env = w env fun b e => if b = true then u1 D e else u2 D e := rfl
@[simp] theorem wNilS_eq : wNilS D env = D.nx env := rfl
@[simp] theorem wSet_eq : wSet i w D env = w env fun d e => D.nx (e.set i (some (.sh d))) := rfl
@[simp] theorem wSetO_eq : wSetO i w D env = w env fun d e => D.nx (e.set i (some (.ow d))) := rfl
@[simp] theorem wPar_eq {m1 m2 : Md} : wPar i j m1 m2 w1 w2 D env = w1 env fun d1 e1 => w2 e1 fun d2 e2 => D.nx ((e2.set i (some (m1.sl d1))).set j (some (m2.sl d2))) := rfl
@[simp] theorem sl_s : Md.s.sl d = .sh d := rfl
@[simp] theorem sl_o : Md.o.sl d = .ow d := rfl
@[simp] theorem wPar3_eq {l : Nat} : wPar3 i j l w1 w2 w3 D env = w1 env fun d1 e1 => w2 e1 fun d2 e2 => w3 e2 fun d3 e3 => D.nx (((e3.set i (some (.sh d1))).set j (some (.sh d2))).set l (some (.sh d3))) := rfl
@[simp] theorem wAsg_eq {g : WG} : wAsg w g D env = w env fun d e => g d e fun e2 => D.nx e2 := rfl
@[simp] theorem wName_eq {Q : Nv → Prop} : wName i d env Q = Q (env.set i (some (.sh d))) := rfl
@[simp] theorem wGtup_eq {n : Nat} {gs : WGs} {ds : List PyData} {Q : Nv → Prop} : wGtup n gs (.tuple ds) env Q = (ds.length = n ∧ gs ds env Q) := by
  apply propext
  constructor
  · rintro ⟨x, h1, h2, q⟩; cases h1; exact ⟨h2, q⟩
  · rintro ⟨h, q⟩; exact ⟨ds, rfl, h, q⟩
@[simp] theorem wGunl_eq {n : Nat} {gs : WGs} {ds : List PyData} {Q : Nv → Prop} : wGunl n gs (.list ds) env Q = (ds.length = n ∧ gs ds env Q) := by
  apply propext
  constructor
  · rintro ⟨x, h1, h2, q⟩; cases h1; exact ⟨h2, q⟩
  · rintro ⟨h, q⟩; exact ⟨ds, rfl, h, q⟩
@[simp] theorem wGnil_eq {Q : Nv → Prop} : wGnil [] env Q = Q env := by simp [wGnil]
@[simp] theorem wGcons_eq {g : WG} {gs : WGs} {ds : List PyData} {Q : Nv → Prop} : wGcons g gs (d :: ds) env Q = g d env fun e => gs ds e Q := by
  apply propext
  constructor
  · rintro ⟨x, r, h1, q⟩; cases h1; exact q
  · intro q; exact ⟨d, ds, rfl, q⟩
@[simp] theorem wYes_eq {Q : Bool → Nv → Prop} : wYes env Q = Q true env := rfl
@[simp] theorem wSeq_eq {Q : List PyData → Nv → Prop} : wSeq w env Q = w env fun d e => ∃ ds, itemsOf d = some ds ∧ Q ds e := rfl
@[simp] theorem wEnum_eq {Q : List PyData → Nv → Prop} : wEnum w env Q = w env fun d e => ∃ ds, itemsOf d = some ds ∧ Q (enD ds) e := rfl
@[simp] theorem wZip_eq {st : Bool} {Q : List PyData → Nv → Prop} : wZip st w1 w2 env Q = w1 env fun d e1 => w2 e1 fun d2 e2 => ∃ as bs, itemsOf d = some as ∧ itemsOf d2 = some bs ∧ (st = true → as.length = bs.length) ∧ Q (zipD as bs) e2 := rfl
@[simp] theorem ex2_some {α β : Type} {a : α} {b : β} {Q : α → β → Prop} : (∃ x y, some a = some x ∧ some b = some y ∧ Q x y) = Q a b := by
  apply propext
  constructor
  · rintro ⟨x, y, h1, h2, q⟩; cases h1; cases h2; exact q
  · intro q; exact ⟨a, b, rfl, rfl, q⟩
@[simp] theorem wRg1_eq {Q : List PyData → Nv → Prop} : wRg1 w env Q = w env fun d e => ∃ n : Int, d = .int n ∧ -(2 ^ 62) ≤ n ∧ n < 2 ^ 62 ∧ Q (rgD 0 n.toNat) e := rfl
@[simp] theorem wLRg1_eq : wLRg1 w env P = w env fun d e => ∃ n : Int, d = .int n ∧ n ≤ 10000000 ∧ -10000000 ≤ n ∧ P (.list (rgD 0 n.toNat)) e := rfl
@[simp] theorem wTRg1_eq : wTRg1 w env P = w env fun d e => ∃ n : Int, d = .int n ∧ n ≤ 10000000 ∧ -10000000 ≤ n ∧ P (.tuple (rgD 0 n.toNat)) e := rfl
@[simp] theorem wComp_eq {wi : WI} {g : WG} {wt : WT} {own : List Nat} : wComp wi g wt w own env P = wi env fun ds e1 => compL g wt w own (fun acc e2 => P (.list acc) (backN e1 e2 own)) ds [] (wipeN e1 own) := rfl
@[simp] theorem wFor_eq {wi : WI} {g : WG} {u : WS} : wFor wi g u D env = wi env fun ds e1 => forL g u D ds e1 := rfl
@[simp] theorem wRev_eq : wRev w env P = w env fun d e => revB d fun z => P z e := rfl
@[simp] theorem revB_l {a : List PyData} {Q : PyData → Prop} : revB (.list a) Q = Q (.list a.reverse) := rfl
@[simp] theorem revB_t {a : List PyData} {Q : PyData → Prop} : revB (.tuple a) Q = Q (.tuple a.reverse) := rfl
@[simp] theorem wSl_eq {wl wh : WO} : wSl w wl wh env P = w env fun d e1 => wl e1 fun lo e2 => wh e2 fun hi e3 => slB d lo hi fun z => P z e3 := rfl
@[simp] theorem slB_l {a : List PyData} {lo hi : Option Int} {Q : PyData → Prop} : slB (.list a) lo hi Q = Q (.list (cutD a lo hi)) := rfl
@[simp] theorem slB_t {a : List PyData} {lo hi : Option Int} {Q : PyData → Prop} : slB (.tuple a) lo hi Q = Q (.tuple (cutD a lo hi)) := rfl
@[simp] theorem wPn_eq {Q : Option Int → Nv → Prop} : wPn env Q = Q none env := rfl
@[simp] theorem wPs_eq {Q : Option Int → Nv → Prop} : wPs w env Q = w env fun d e => ∃ i, d = .int i ∧ Q (some i) e := rfl
end
/-! shapes -/
@[simp] theorem shaped_int {i : Int} : SeqAt.shaped (.int i) = true := by simp [SeqAt.shaped, PyData.canLay0, PyData.depth]
@[simp] theorem shaped_bool {i : Bool} : SeqAt.shaped (.bool i) = true := by simp [SeqAt.shaped, PyData.canLay0, PyData.depth]
@[simp] theorem shaped_none : SeqAt.shaped .none = true := by simp [SeqAt.shaped, PyData.canLay0, PyData.depth]
/-- plain data of a small depth -/
def Shp (n : Nat) (d : PyData) : Prop := d.canLay0 = true ∧ d.depth ≤ n
theorem shaped_of {n : Nat} {d : PyData} (h : Shp n d) (hn : n ≤ 64 := by decide) : SeqAt.shaped d = true := by
  unfold SeqAt.shaped
  rw [h.1, Bool.true_and, decide_eq_true_eq]
  exact Nat.le_trans h.2 hn
theorem shp_int {i : Int} : Shp 0 (.int i) := by constructor <;> simp [PyData.canLay0, PyData.depth]
theorem shp_bool {i : Bool} : Shp 0 (.bool i) := by constructor <;> simp [PyData.canLay0, PyData.depth]
theorem shp_none : Shp 0 .none := by constructor <;> simp [PyData.canLay0, PyData.depth]
theorem Shp.up {m n : Nat} {d : PyData} (h : Shp m d) (hn : m ≤ n) : Shp n d := ⟨h.1, Nat.le_trans h.2 hn⟩
theorem shp_all : ∀ {n : Nat} {ds : List PyData}, (∀ d ∈ ds, Shp n d) → PyData.canLayAll0 ds = true ∧ PyData.depthAll ds ≤ n
  | n, [], _ => by simp [PyData.canLayAll0, PyData.depthAll]
  | n, d :: ds, h => by
    obtain ⟨h1, h2⟩ := shp_all (n := n) (ds := ds) fun x hx => h x (List.mem_cons_of_mem _ hx)
    obtain ⟨a, b⟩ := h d List.mem_cons_self
    simp only [PyData.canLayAll0, PyData.depthAll, a, h1, Bool.and_self, true_and]
    omega
theorem shp_tup {n : Nat} {ds : List PyData} (h : ∀ d ∈ ds, Shp n d) : Shp (n + 1) (.tuple ds) := by
  obtain ⟨h1, h2⟩ := shp_all h
  constructor
  · simpa [PyData.canLay0] using h1
  · simp only [PyData.depth]; omega
theorem shp_lst {n : Nat} {ds : List PyData} (h : ∀ d ∈ ds, Shp n d) : Shp (n + 1) (.list ds) := by
  obtain ⟨h1, h2⟩ := shp_all h
  constructor
  · simpa [PyData.canLay0] using h1
  · simp only [PyData.depth]; omega
@[simp] theorem eqv_int {a b : Int} : PyData.eqv (.int a) (.int b) = decide (a = b) := by simp [PyData.eqv]; rfl
theorem eqvAll_inj {α : Type} [DecidableEq α] {f : α → PyData} (hf : ∀ a b, PyData.eqv (f a) (f b) = decide (a = b)) : ∀ (xs ys : List α), PyData.eqvAll (xs.map f) (ys.map f) = decide (xs = ys)
  | [], [] => by simp [PyData.eqvAll]
  | [], y :: ys => by simp [PyData.eqvAll]
  | x :: xs, [] => by simp [PyData.eqvAll]
  | x :: xs, y :: ys => by
    simp only [List.map_cons, PyData.eqvAll, hf, eqvAll_inj hf xs ys, List.cons.injEq]
    by_cases h1 : x = y <;> by_cases h2 : xs = ys <;> simp [h1, h2]
/-! items of mapped lists -/
theorem atI_map {α β : Type} (f : α → β) (xs : List α) (i : Int) : atI (xs.map f) i = (atI xs i).map f := by
  unfold atI
  rw [List.length_map]
  cases ixN xs.length i with
  | none => rfl
  | some j => simp
theorem atI_get {α : Type} {xs : List α} {j : Nat} {x : α} (h : xs[j]? = some x) : atI xs (j : Int) = some x := atI_nat h
/-! loops -/
theorem for_pre {α : Type} {g : WG} {u : WS} {D : DE} (enc : α → PyData) (J : List α → Nv → Prop) :
    ∀ (post pre : List α) (env : Nv), (∀ env, J (pre ++ post) env → D.nx env) → (∀ p x q, pre ++ post = p ++ x :: q → ∀ env (Kn : Nv → Prop), J p env → (∀ env', J (p ++ [x]) env' → Kn env') → g (enc x) env fun e1 => u ⟨Kn, D.rt⟩ e1) → J pre env → forL g u D (post.map enc) env
  | [], pre, env, hd, _, h => hd env (by simpa using h)
  | x :: post, pre, env, hd, hs, h => by
    refine hs pre x post rfl env _ h fun env' h' => ?_
    exact for_pre enc J post (pre ++ [x]) env' (by simpa using hd) (fun p y q e => hs p y q (by rw [← e]; simp)) h'
theorem for_all {α : Type} {g : WG} {u : WS} {D : DE} {env : Nv} (enc : α → PyData) (xs : List α) (J : List α → Nv → Prop) (h0 : J [] env)
    (hs : ∀ p x q, xs = p ++ x :: q → ∀ env (Kn : Nv → Prop), J p env → (∀ env', J (p ++ [x]) env' → Kn env') → g (enc x) env fun e1 => u ⟨Kn, D.rt⟩ e1) (hd : ∀ env, J xs env → D.nx env) : forL g u D (xs.map enc) env :=
  for_pre enc J xs [] env (by simpa using hd) (fun p x q e => hs p x q (by simpa using e)) h0
/-- a comprehension that leaves the slots as they are -/
theorem comp_of {α : Type} {g : WG} {wt : WT} {we : WE} {own : List Nat} {P : List PyData → Nv → Prop} {env : Nv} (enc : α → PyData) (f : α → Option PyData) :
    ∀ (xs : List α) (acc : List PyData), acc.length + xs.length < sizeLine →
      (∀ x ∈ xs, ∀ (acc : List PyData) (C : List PyData → Nv → Prop), acc.length < sizeLine → C (acc ++ (f x).toList) env → g (enc x) env fun e1 => wt e1 fun b e2 => if b = true then we e2 fun z e3 => acc.length < sizeLine ∧ C (acc ++ [z]) (wipeN e3 own) else C acc (wipeN e2 own)) →
      P (acc ++ xs.filterMap f) env → compL g wt we own P (xs.map enc) acc env
  | [], acc, _, _, h => by simpa [compL] using h
  | x :: xs, acc, hl, hx, h => by
    refine hx x List.mem_cons_self acc (fun a e => compL g wt we own P (xs.map enc) a e) (by simp at hl; omega) ?_
    refine comp_of enc f xs (acc ++ (f x).toList) ?_ (fun y hy => hx y (List.mem_cons_of_mem _ hy)) ?_
    · have : (f x).toList.length ≤ 1 := by cases f x <;> simp
      simp at hl ⊢
      omega
    · rw [List.filterMap_cons] at h
      cases e : f x with
      | none => rw [e] at h; simpa using h
      | some z => rw [e] at h; simpa using h
/-- .. whose items are not known but by a property -/
theorem comp_any {α β : Type} {g : WG} {wt : WT} {we : WE} {own : List Nat} {P : List PyData → Nv → Prop} {env : Nv} (enc : α → PyData) (out : β → PyData) (R : β → Prop) :
    ∀ (xs : List α) (acc : List β), acc.length + xs.length < sizeLine →
      (∀ x ∈ xs, ∀ (C : PyData → Nv → Prop) (N : Nv → Prop), (∀ z, R z → C (out z) env) → g (enc x) env fun e1 => wt e1 fun b e2 => if b = true then we e2 fun z e3 => C z (wipeN e3 own) else N (wipeN e2 own)) →
      (∀ zs : List β, zs.length = xs.length → (∀ z ∈ zs, R z) → P ((acc ++ zs).map out) env) → compL g wt we own P (xs.map enc) (acc.map out) env
  | [], acc, _, _, h => by
    have := h [] rfl (by simp)
    simpa [compL] using this
  | x :: xs, acc, hl, hx, h => by
    refine hx x List.mem_cons_self (fun z e => (acc.map out).length < sizeLine ∧ compL g wt we own P (xs.map enc) (acc.map out ++ [z]) e) _ fun z hz => ⟨by simp at hl ⊢; omega, ?_⟩
    have := comp_any enc out R xs (acc ++ [z]) (by simp at hl ⊢; omega) (fun y hy => hx y (List.mem_cons_of_mem _ hy)) fun zs h1 h2 => by
      have := h (z :: zs) (by simp [h1]) (fun y hy => by
        rcases List.mem_cons.mp hy with e | e
        · subst e; exact hz
        · exact h2 y e)
      simpa using this
    simpa using this
/-- .. with a test -/
theorem comp_some {α β : Type} {g : WG} {wt : WT} {we : WE} {own : List Nat} {P : List PyData → Nv → Prop} {env : Nv} (enc : α → PyData) (out : β → PyData) (R : β → Prop) :
    ∀ (xs : List α) (acc : List β), acc.length + xs.length < sizeLine →
      (∀ x ∈ xs, ∀ (C : PyData → Nv → Prop) (N : Nv → Prop), (∀ z, R z → C (out z) env) → N env → g (enc x) env fun e1 => wt e1 fun b e2 => if b = true then we e2 fun z e3 => C z (wipeN e3 own) else N (wipeN e2 own)) →
      (∀ zs : List β, zs.length ≤ xs.length → (∀ z ∈ zs, R z) → P ((acc ++ zs).map out) env) → compL g wt we own P (xs.map enc) (acc.map out) env
  | [], acc, _, _, h => by
    have := h [] (Nat.le_refl _) (by simp)
    simpa [compL] using this
  | x :: xs, acc, hl, hx, h => by
    refine hx x List.mem_cons_self (fun z e => (acc.map out).length < sizeLine ∧ compL g wt we own P (xs.map enc) (acc.map out ++ [z]) e) _ (fun z hz => ⟨by simp at hl ⊢; omega, ?_⟩) ?_
    · have := comp_some enc out R xs (acc ++ [z]) (by simp at hl ⊢; omega) (fun y hy => hx y (List.mem_cons_of_mem _ hy)) fun zs h1 h2 => by
        have := h (z :: zs) (by simp; omega) (fun y hy => by
          rcases List.mem_cons.mp hy with e | e
          · subst e; exact hz
          · exact h2 y e)
        simpa using this
      simpa using this
    · exact comp_some enc out R xs acc (by simp at hl ⊢; omega) (fun y hy => hx y (List.mem_cons_of_mem _ hy)) fun zs h1 h2 => h zs (by simp; omega) h2
end DL
set_option Elab.async false
set_option linter.all false
set_option maxRecDepth 100000
set_option maxHeartbeats 1000000
set_option autoImplicit false
/-! DLt: what repr gives may be compared. -/
namespace DL
open PySem PySem.Spec PyProof.Rows L2 DZ
def SOk (x : Str) : Prop := ∀ c ∈ x.cps.toList, c < 0x110000
theorem SOk.ok {x : Str} (h : SOk x) : PyData.strOk x = true := by
  unfold PyData.strOk
  rw [Array.all_eq_true_iff_forall_mem]
  intro c hc
  exact decide_eq_true (h c (Array.mem_toList_iff.mpr hc))
theorem SOk.of {x : Str} (h : PyData.strOk x = true) : SOk x := by
  unfold PyData.strOk at h
  intro c hc
  exact of_decide_eq_true (Array.all_eq_true_iff_forall_mem.mp h c (Array.mem_toList_iff.mp hc))
theorem sok_of (s : String) : SOk (Str.ofString s) := by
  intro c hc
  rw [Str.ofString_eq_toList] at hc
  simp only [List.toList_toArray] at hc
  obtain ⟨ch, _, e⟩ := List.mem_map.mp hc
  subst e
  rcases ch.valid with h | ⟨_, h⟩
  · have h' : ch.toNat < 0xd800 := h
    omega
  · exact h
theorem sok_app {a b : Str} (ha : SOk a) (hb : SOk b) : SOk (a ++ b) := by
  intro c hc
  have hc' : c ∈ (a.cps ++ b.cps).toList := hc
  rw [Array.toList_append] at hc'
  rcases List.mem_append.mp hc' with h | h
  · exact ha c h
  · exact hb c h
theorem sok_from : ∀ (ts : List Str) (k : Nat) (acc : Str), SOk acc → (∀ t ∈ ts, SOk t) → SOk (textFrom k acc ts)
  | [], _, acc, h, _ => h
  | t :: ts, k, acc, h, ht => by
    refine sok_from ts (k + 1) _ (sok_app (sok_app h ?_) (ht t List.mem_cons_self)) fun x hx => ht x (List.mem_cons_of_mem _ hx)
    exact sok_of _
theorem sok_join {sep : Str} (hs : SOk sep) : ∀ (ts : List Str), (∀ t ∈ ts, SOk t) → SOk (Str.join sep ts)
  | [], _ => fun c hc => by cases hc
  | [x], h => h x List.mem_cons_self
  | x :: y :: r, h => sok_app (sok_app (h x List.mem_cons_self) hs) (sok_join hs (y :: r) fun t ht => h t (List.mem_cons_of_mem _ ht))
mutual
def lok : PyData → Bool
  | .str x => PyData.strOk (reprText x)
  | .list ds => lokAll ds
  | .tuple ds => lokAll ds
  | .dict kvs => lokKv kvs
  | _ => true
def lokAll : List PyData → Bool
  | [] => true
  | d :: ds => lok d && lokAll ds
def lokKv : List (PyData × PyData) → Bool
  | [] => true
  | (a, b) :: r => lok a && lok b && lokKv r
end
mutual
theorem sok_shown : ∀ d : PyData, lok d = true → SOk d.shown
  | .none, _ => sok_of _
  | .bool b, _ => by
    simp only [PyData.shown]
    cases b
    · exact sok_of _
    · exact sok_of _
  | .int i, _ => by simp only [PyData.shown]; exact sok_of _
  | .str x, h => by
    simp only [PyData.shown]
    exact SOk.of (by simpa only [lok] using h)
  | .list xs, h => by
    simp only [PyData.shown, listText]
    exact sok_app (sok_from _ _ _ (sok_of _) (sok_shownAll xs (by simpa only [lok] using h))) (sok_of _)
  | .tuple xs, h => by
    simp only [PyData.shown, tupleText]
    refine sok_app (sok_app (sok_of _) (sok_join (sok_of _) _ (sok_shownAll xs (by simpa only [lok] using h)))) ?_
    exact sok_of _
  | .dict kvs, h => by
    simp only [PyData.shown, dictText]
    exact sok_app (sok_app (sok_of _) (sok_join (sok_of _) _ (sok_shownKv kvs (by simpa only [lok] using h)))) (sok_of _)
theorem sok_shownAll : ∀ ds : List PyData, lokAll ds = true → ∀ t ∈ PyData.shownAll ds, SOk t
  | [], _, t, ht => by simp [PyData.shownAll] at ht
  | d :: ds, h, t, ht => by
    simp only [lokAll, Bool.and_eq_true] at h
    simp only [PyData.shownAll, List.mem_cons] at ht
    rcases ht with e | e
    · subst e; exact sok_shown d h.1
    · exact sok_shownAll ds h.2 t e
theorem sok_shownKv : ∀ ds : List (PyData × PyData), lokKv ds = true → ∀ t ∈ PyData.shownKv ds, SOk t
  | [], _, t, ht => by simp [PyData.shownKv] at ht
  | (a, b) :: ds, h, t, ht => by
    simp only [lokKv, Bool.and_eq_true] at h
    simp only [PyData.shownKv, List.mem_cons] at ht
    rcases ht with e | e
    · subst e
      exact sok_app (sok_app (sok_shown a h.1.1) (sok_of _)) (sok_shown b h.1.2)
    · exact sok_shownKv ds h.2 t e
end
theorem shaped_str {x : Str} (h : PyData.strOk x = true) : SeqAt.shaped (.str x) = true := by simp [SeqAt.shaped, PyData.canLay0, PyData.depth, h]
theorem shaped_shown {d : PyData} (h : lok d = true) : SeqAt.shaped (.str d.shown) = true := shaped_str (sok_shown d h).ok
theorem lok_all {ds : List PyData} (h : ∀ d ∈ ds, lok d = true) : lokAll ds = true := by
  induction ds with
  | nil => simp [lokAll]
  | cons d ds ih => simp [lokAll, h d List.mem_cons_self, ih fun x hx => h x (List.mem_cons_of_mem _ hx)]
theorem lok_tup {ds : List PyData} (h : ∀ d ∈ ds, lok d = true) : lok (.tuple ds) = true := by simp [lok, lok_all h]
theorem lok_lst {ds : List PyData} (h : ∀ d ∈ ds, lok d = true) : lok (.list ds) = true := by simp [lok, lok_all h]
@[simp] theorem lok_int {i : Int} : lok (.int i) = true := by simp [lok]
@[simp] theorem lok_bool {i : Bool} : lok (.bool i) = true := by simp [lok]
@[simp] theorem lok_none : lok .none = true := by simp [lok]
theorem eqv_str {a : Str} : PyData.eqv (.str a) (.str a) = true := by simp [PyData.eqv]
end DL
set_option Elab.async false
set_option linter.all false
set_option maxRecDepth 100000
set_option maxHeartbeats 4000000
set_option autoImplicit false
namespace DL
open PySem PySem.Spec PyProof.Rows L2 DZ

/- all_roads: 0 frame -/
def w_all_roads : WS :=
  (wRet (wTRg1 (wCall (wCons (wBin ixB (wVar 0) (wC (.int 1))) wNil) lenC)))
/- heads_by: 0 frame, 1 lot, 2 heads, 3 road, 4 crossing, 5 low, 6 high, 7 head -/
def w_heads_by : WS :=
  (wSeqS (wSet 2 (wLRg1 (wBin ixB (wVar 0) (wC (.int 0)))))
    (wSeqS (wFor (wSeq (wVar 1)) (wName 3) (wSeqS (wAsg (wCall (wCons (wComp (wSeq (wBin ixB (wBin ixB (wVar 0) (wC (.int 1))) (wVar 3))) (wName 4) wYes (wBin ixB (wVar 2) (wVar 4)) [4]) wNil) sortedC) (wGunl 2 (wGcons (wName 5) (wGcons (wName 6) wGnil))))
    (wSet 2 (wComp (wSeq (wVar 2)) (wName 7) wYes (wIf (wTest (wBin eqB (wVar 7) (wVar 6))) (wVar 5) (wVar 7)) [7]))))
    (wRet (wVar 2))))
/- pieces_by: 0 frame, 1 lot, 2 heads, 3 found*, 4 first, 5 crossing -/
def w_pieces_by (s_heads_by : DSp) : WS :=
  (wSeqS (wPar 2 3 .s .o (wUser s_heads_by (wcD (wVar 0) (wcD (wVar 1) wc0))) (wLst wNil))
    (wSeqS (wFor (wRg1 (wBin ixB (wVar 0) (wC (.int 0)))) (wName 4) (wIfS (wTest (wBin eqB (wBin ixB (wVar 2) (wVar 4)) (wVar 4))) (wExpr (wMeth 3 (wCons (wCall (wCons (wComp (wRg1 (wBin ixB (wVar 0) (wC (.int 0)))) (wName 5) (wTest (wBin eqB (wBin ixB (wVar 2) (wVar 5)) (wVar 4))) (wVar 5) [5]) wNil) tupleC) wNil) appB)) wNilS))
    (wRet (wCall (wCons (wVar 3) wNil) tupleC))))
/- piece_count: 0 frame, 1 lot -/
def w_piece_count (s_pieces_by : DSp) : WS :=
  (wRet (wCall (wCons (wUser s_pieces_by (wcD (wVar 0) (wcD (wVar 1) wc0))) wNil) lenC))
/- is_whole: 0 value -/
def w_is_whole : WS :=
  (wRet (wAndE (wIsi isInt (wVar 0)) (wNotE (wIsi isBool (wVar 0)))))
/- is_whole_row: 0 many, 1 value, 2 one -/
def w_is_whole_row (s_is_whole : DSp) : WS :=
  (wRet (wAndE (wIsi isTup (wVar 1)) (wAndE (wBin eqB (wCall (wCons (wVar 1) wNil) lenC) (wVar 0)) (wCall (wCons (wComp (wSeq (wVar 1)) (wName 2) wYes (wUser s_is_whole (wcD (wVar 2) wc0)) [2]) wNil) allC))))
/- hangs_together: 0 frame -/
def w_hangs_together (s_piece_count : DSp) (s_all_roads : DSp) : WS :=
  (wRet (wBin eqB (wUser s_piece_count (wcD (wVar 0) (wcD (wUser s_all_roads (wcD (wVar 0) wc0)) wc0))) (wC (.int 1))))
/- row_product: 0 one, 1 other, 2 a, 3 b -/
def w_row_product : WS :=
  (wRet (wCall (wCons (wComp (wZip true (wVar 0) (wVar 1)) (wGtup 2 (wGcons (wName 2) (wGcons (wName 3) wGnil))) wYes (wBin mulB (wVar 2) (wVar 3)) [2, 3]) wNil) sumC))
/- row_size: 0 row, 1 number -/
def w_row_size : WS :=
  (wRet (wCall (wCons (wComp (wSeq (wVar 0)) (wName 1) wYes (wBin mulB (wVar 1) (wVar 1)) [1]) wNil) sumC))
/- roads_of_row: 0 row, 1 road, 2 number -/
def w_roads_of_row : WS :=
  (wRet (wCall (wCons (wComp (wEnum (wVar 0)) (wGtup 2 (wGcons (wName 1) (wGcons (wName 2) wGnil))) (wTest (wBin neB (wVar 2) (wC (.int 0)))) (wVar 1) [1, 2]) wNil) tupleC))
/- added_rows: 0 many, 1 pairs, 2 found, 3 times, 4 row, 5 a, 6 b -/
def w_added_rows : WS :=
  (wSeqS (wSet 2 (wBin mulB (wLst (wCons (wC (.int 0)) wNil)) (wVar 0)))
    (wSeqS (wFor (wSeq (wVar 1)) (wGtup 2 (wGcons (wName 3) (wGcons (wName 4) wGnil))) (wSet 2 (wComp (wZip true (wVar 2) (wVar 4)) (wGtup 2 (wGcons (wName 5) (wGcons (wName 6) wGnil))) wYes (wBin addB (wVar 5) (wBin mulB (wVar 3) (wVar 6))) [5, 6])))
    (wRet (wCall (wCons (wVar 2) wNil) tupleC))))
/- brought_by: 0 frame, 1 row, 2 found*, 3 a, 4 b, 5 number -/
def w_brought_by : WS :=
  (wSeqS (wSetO 2 (wBin lmulB (wLst (wCons (wC (.int 0)) wNil)) (wBin ixB (wVar 0) (wC (.int 0)))))
    (wSeqS (wFor (wZip true (wBin ixB (wVar 0) (wC (.int 1))) (wVar 1)) (wGtup 2 (wGcons (wGtup 2 (wGcons (wName 3) (wGcons (wName 4) wGnil))) (wGcons (wName 5) wGnil))) (wSeqS (wAugIx 2 (fun a b => a - b) (wVar 3) (wVar 5))
    (wAugIx 2 (fun a b => a + b) (wVar 4) (wVar 5))))
    (wRet (wCall (wCons (wVar 2) wNil) tupleC))))
/- is_ring_row: 0 frame, 1 row, 2 one -/
def w_is_ring_row (s_brought_by : DSp) : WS :=
  (wRet (wBin eqB (wComp (wSeq (wUser s_brought_by (wcD (wVar 0) (wcD (wVar 1) wc0)))) (wName 2) (wTest (wBin neB (wVar 2) (wC (.int 0)))) (wVar 2) [2]) (wLst wNil)))
/- cut_row: 0 frame, 1 heights, 2 a, 3 b -/
def w_cut_row : WS :=
  (wRet (wCall (wCons (wComp (wSeq (wBin ixB (wVar 0) (wC (.int 1)))) (wGtup 2 (wGcons (wName 2) (wGcons (wName 3) wGnil))) wYes (wBin subB (wBin ixB (wVar 1) (wVar 3)) (wBin ixB (wVar 1) (wVar 2))) [2, 3]) wNil) tupleC))
/- told_tree: 0 frame, 1 heads, 2 found*, 3 road, 4 a, 5 b, 6 low, 7 high, 8 head -/
def w_told_tree : WS :=
  (wSeqS (wPar 1 2 .s .o (wLRg1 (wBin ixB (wVar 0) (wC (.int 0)))) (wLst wNil))
    (wSeqS (wFor (wEnum (wBin ixB (wVar 0) (wC (.int 1)))) (wGtup 2 (wGcons (wName 3) (wGcons (wGtup 2 (wGcons (wName 4) (wGcons (wName 5) wGnil))) wGnil))) (wSeqS (wPar 6 7 .s .s (wCall (wCons (wBin ixB (wVar 1) (wVar 4)) (wCons (wBin ixB (wVar 1) (wVar 5)) wNil)) minC) (wCall (wCons (wBin ixB (wVar 1) (wVar 4)) (wCons (wBin ixB (wVar 1) (wVar 5)) wNil)) maxC))
    (wIfS (wTest (wBin neB (wVar 6) (wVar 7))) (wSeqS (wExpr (wMeth 2 (wCons (wVar 3) wNil) appB))
    (wSet 1 (wComp (wSeq (wVar 1)) (wName 8) wYes (wIf (wTest (wBin eqB (wVar 8) (wVar 7))) (wVar 6) (wVar 8)) [8]))) wNilS)))
    (wRet (wCall (wCons (wVar 2) wNil) tupleC))))
/- heights_along: 0 frame, 1 tree, 2 row, 3 found*, 4 left*, 5 one, 6 road, 7 a, 8 b, 9 crossing -/
def w_heights_along : WS :=
  (wSeqS (wPar 3 4 .o .o (wDict1 (wC (.int 0)) (wC (.int 0))) (wCall (wCons (wVar 1) wNil) listC))
    (wSeqS (wWhile (wTest (wEqN true 4 (wC (.list [])))) (wSeqS (wSet 6 (wBin ixB (wCompN 4 (wName 5) (wTest (wBin neB (wDinN false 3 (wBin ixB (wBin ixB (wBin ixB (wVar 0) (wC (.int 1))) (wVar 5)) (wC (.int 0)))) (wDinN false 3 (wBin ixB (wBin ixB (wBin ixB (wVar 0) (wC (.int 1))) (wVar 5)) (wC (.int 1)))))) (wVar 5) [5]) (wC (.int 0))))
    (wSeqS (wAsg (wBin ixB (wBin ixB (wVar 0) (wC (.int 1))) (wVar 6)) (wGtup 2 (wGcons (wName 7) (wGcons (wName 8) wGnil))))
    (wSeqS (wIfS (wTest (wDinN false 3 (wVar 7))) (wSetDk 3 (wBin addB (wDgN 3 (wVar 7)) (wBin ixB (wVar 2) (wVar 6))) (wVar 8)) (wSetDk 3 (wBin subB (wDgN 3 (wVar 8)) (wBin ixB (wVar 2) (wVar 6))) (wVar 7)))
    (wExpr (wMeth 4 (wCons (wVar 6) wNil) remB))))))
    (wRet (wCall (wCons (wComp (wRg1 (wBin ixB (wVar 0) (wC (.int 0)))) (wName 9) wYes (wDgN 3 (wVar 9)) [9]) wNil) tupleC))))
/- heights_of_cut: 0 frame, 1 row, 2 heights -/
def w_heights_of_cut (s_heights_along : DSp) (s_told_tree : DSp) (s_cut_row : DSp) : WS :=
  (wSeqS (wSet 2 (wUser s_heights_along (wcD (wVar 0) (wcD (wUser s_told_tree (wcD (wVar 0) wc0)) (wcD (wVar 1) wc0)))))
    (wRet (wIf (wTest (wBin eqB (wUser s_cut_row (wcD (wVar 0) (wcD (wVar 2) wc0))) (wCall (wCons (wVar 1) wNil) tupleC))) (wVar 2) (wC .none))))
/- is_cut_row: 0 frame, 1 row -/
def w_is_cut_row (s_heights_of_cut : DSp) : WS :=
  (wRet (wBin notNB (wUser s_heights_of_cut (wcD (wVar 0) (wcD (wVar 1) wc0))) (wC .none)))
/- _law_of: 0 source, 1 some -/
def w__law_of (s__law_pick : DSp) : WS :=
  (wRet (wBin ixB (wVar 1) (wUser s__law_pick (wcS 0 (wcD (wCall (wCons (wVar 1) wNil) lenC) wc0)))))
/- _law_mixed: 0 source, 1 things, 2 rest*, 3 lap -/
def w__law_mixed (s__law_pick : DSp) : WS :=
  (wSeqS (wSetO 2 (wCall (wCons (wVar 1) wNil) listC))
    (wRet (wComp (wRg1 (wLenN 2)) (wName 3) wYes (wMeth 2 (wCons (wUser s__law_pick (wcS 0 (wcD (wLenN 2) wc0))) wNil) popAtB) [3])))
/- _law_number: 0 value -/
def w__law_number : WS :=
  (wRet (wAndE (wIsi isInt (wVar 0)) (wNotE (wIsi isBool (wVar 0)))))
/- _law_bent: 0 source, 1 value, 2 odd, 3 some, 4 k, 5 way -/
def w__law_bent (s__law_pick : DSp) (s__law_of : DSp) (s__law_number : DSp) (s__law_bent : DSp) : WS :=
  (wSeqS (wSet 2 (wLst (wCons (wC .none) (wCons (wC (.int 0)) (wCons (wC (.int 1)) (wCons (wC (.int 2)) (wCons (wC (.bool true)) (wCons (wNeg (wC (.int 1))) (wCons (wC (.str "a")) (wCons (wC (.str "sum")) (wCons (wC (.str "brings")) (wCons (wC (.str "heights")) (wCons (wC (.str "against")) (wCons (wTup wNil) (wCons (wTup (wCons (wC (.int 0)) wNil)) (wCons (wTup (wCons (wC (.int 0)) (wCons (wC (.int 0)) wNil))) (wCons (wLst wNil) (wCons wDict0 (wCons (wBin powB (wC (.int 10)) (wC (.int 6))) wNil)))))))))))))))))))
    (wSeqS (wIfS (wOrT (wNotT (wTest (wIsi isTup (wVar 1)))) (wOrT (wTest (wBin eqB (wVar 1) (wTup wNil))) (wTest (wBin eqB (wUser s__law_pick (wcS 0 (wcD (wC (.int 5)) wc0))) (wC (.int 0)))))) (wSeqS (wSet 3 (wLst (wCons (wUser s__law_of (wcS 0 (wcD (wVar 2) wc0))) wNil)))
    (wSeqS (wIfS (wTest (wIsi isTup (wVar 1))) (wSet 3 (wBin addB (wVar 3) (wLst (wCons (wSl (wVar 1) (wPs (wC (.int 1))) wPn) (wCons (wSl (wVar 1) wPn (wPs (wNeg (wC (.int 1))))) (wCons (wBin addB (wVar 1) (wSl (wVar 1) wPn (wPs (wC (.int 1))))) (wCons (wCall (wCons (wVar 1) wNil) listC) (wCons (wRev (wVar 1)) (wCons (wBin addB (wVar 1) (wTup (wCons (wC (.int 0)) wNil))) wNil))))))))) wNilS)
    (wRet (wUser s__law_of (wcS 0 (wcD (wVar 3) wc0)))))) wNilS)
    (wSeqS (wPar 4 5 .s .s (wUser s__law_pick (wcS 0 (wcD (wCall (wCons (wVar 1) wNil) lenC) wc0))) (wUser s__law_pick (wcS 0 (wcD (wC (.int 6)) wc0))))
    (wSeqS (wIfS (wAndT (wTest (wBin ltB (wVar 5) (wC (.int 3)))) (wTest (wUser s__law_number (wcD (wBin ixB (wVar 1) (wVar 4)) wc0)))) (wRet (wBin addB (wBin addB (wSl (wVar 1) wPn (wPs (wVar 4))) (wTup (wCons (wUser s__law_of (wcS 0 (wcD (wLst (wCons (wBin subB (wC (.int 0)) (wBin ixB (wVar 1) (wVar 4))) (wCons (wBin addB (wBin ixB (wVar 1) (wVar 4)) (wC (.int 1))) (wCons (wBin subB (wBin ixB (wVar 1) (wVar 4)) (wC (.int 1))) (wCons (wBin addB (wBin ixB (wVar 1) (wVar 4)) (wC (.int 2))) wNil))))) wc0))) wNil))) (wSl (wVar 1) (wPs (wBin addB (wVar 4) (wC (.int 1)))) wPn))) wNilS)
    (wSeqS (wIfS (wTest (wBin eqB (wVar 5) (wC (.int 3)))) (wRet (wBin addB (wSl (wVar 1) wPn (wPs (wVar 4))) (wSl (wVar 1) (wPs (wBin addB (wVar 4) (wC (.int 1)))) wPn))) wNilS)
    (wRet (wBin addB (wBin addB (wSl (wVar 1) wPn (wPs (wVar 4))) (wTup (wCons (wUser s__law_bent (wcS 0 (wcD (wBin ixB (wVar 1) (wVar 4)) wc0))) wNil))) (wSl (wVar 1) (wPs (wBin addB (wVar 4) (wC (.int 1)))) wPn))))))))
/- _law_are_wholes: 0 value, 1 many, 2 one -/
def w__law_are_wholes (s__law_number : DSp) : WS :=
  (wRet (wAndE (wIsi isTup (wVar 0)) (wAndE (wBin eqB (wCall (wCons (wVar 0) wNil) lenC) (wVar 1)) (wBin eqB (wComp (wSeq (wVar 0)) (wName 2) (wNotT (wTest (wUser s__law_number (wcD (wVar 2) wc0)))) (wC (.int 1)) [2]) (wLst wNil)))))
/- _law_hung: 0 source, 1 crossings, 2 roads, 3 n, 4 pairs*, 5 names, 6 k, 7 lap, 8 pair -/
def w__law_hung (s__law_pick : DSp) (s__law_mixed : DSp) : WS :=
  (wSeqS (wPar 3 4 .s .o (wBin addB (wC (.int 1)) (wUser s__law_pick (wcS 0 (wcD (wVar 1) wc0)))) (wLst wNil))
    (wSeqS (wSet 5 (wUser s__law_mixed (wcS 0 (wcD (wLRg1 (wVar 3)) wc0))))
    (wSeqS (wFor (wRg2 (wC (.int 1)) (wVar 3)) (wName 6) (wExpr (wMeth 4 (wCons (wTup (wCons (wBin ixB (wVar 5) (wUser s__law_pick (wcS 0 (wcD (wVar 6) wc0)))) (wCons (wBin ixB (wVar 5) (wVar 6)) wNil))) wNil) appB)))
    (wSeqS (wFor (wRg1 (wUser s__law_pick (wcS 0 (wcD (wCall (wCons (wC (.int 1)) (wCons (wBin addB (wBin subB (wVar 2) (wVar 3)) (wC (.int 2))) wNil)) maxC) wc0)))) (wName 7) (wExpr (wMeth 4 (wCons (wTup (wCons (wUser s__law_pick (wcS 0 (wcD (wVar 3) wc0))) (wCons (wUser s__law_pick (wcS 0 (wcD (wVar 3) wc0))) wNil))) wNil) appB)))
    (wSeqS (wSetO 4 (wComp (wSeq (wUser s__law_mixed (wcS 0 (wcD (wVar 4) wc0)))) (wName 8) wYes (wIf (wTest (wBin eqB (wUser s__law_pick (wcS 0 (wcD (wC (.int 2)) wc0))) (wC (.int 0)))) (wRev (wVar 8)) (wVar 8)) [8]))
    (wRet (wTup (wCons (wVar 3) (wCons (wCall (wCons (wVar 4) wNil) tupleC) wNil)))))))))
/- _law_pieces: 0 frame, 1 roads, 2 heads, 3 r, 4 c, 5 one, 6 other, 7 head -/
def w__law_pieces : WS :=
  (wSeqS (wSet 2 (wLRg1 (wBin ixB (wVar 0) (wC (.int 0)))))
    (wSeqS (wFor (wSeq (wVar 1)) (wName 3) (wSeqS (wAsg (wComp (wSeq (wBin ixB (wBin ixB (wVar 0) (wC (.int 1))) (wVar 3))) (wName 4) wYes (wBin ixB (wVar 2) (wVar 4)) [4]) (wGunl 2 (wGcons (wName 5) (wGcons (wName 6) wGnil))))
    (wSet 2 (wComp (wSeq (wVar 2)) (wName 7) wYes (wIf (wTest (wBin (inB false) (wVar 7) (wTup (wCons (wVar 5) (wCons (wVar 6) wNil))))) (wCall (wCons (wVar 5) (wCons (wVar 6) wNil)) minC) (wVar 7)) [7]))))
    (wRet (wVar 2))))
/- _law_drawn_tree: 0 source, 1 frame, 2 found, 3 r, 4 a, 5 b, 6 heads -/
def w__law_drawn_tree (s__law_mixed : DSp) (s__law_pieces : DSp) : WS :=
  (wSeqS (wSet 2 (wLst wNil))
    (wSeqS (wFor (wSeq (wUser s__law_mixed (wcS 0 (wcD (wLRg1 (wCall (wCons (wBin ixB (wVar 1) (wC (.int 1))) wNil) lenC)) wc0)))) (wName 3) (wSeqS (wAsg (wBin ixB (wBin ixB (wVar 1) (wC (.int 1))) (wVar 3)) (wGtup 2 (wGcons (wName 4) (wGcons (wName 5) wGnil))))
    (wSeqS (wSet 6 (wUser s__law_pieces (wcD (wVar 1) (wcD (wVar 2) wc0))))
    (wSet 2 (wBin addB (wVar 2) (wBin mulB (wLst (wCons (wVar 3) wNil)) (wCall (wCons (wBin neB (wBin ixB (wVar 6) (wVar 4)) (wBin ixB (wVar 6) (wVar 5))) wNil) intC)))))))
    (wRet (wCall (wCons (wCall (wCons (wVar 2) wNil) sortedC) wNil) tupleC))))
/- _law_product: 0 one, 1 other, 2 a, 3 b -/
def w__law_product : WS :=
  (wRet (wCall (wCons (wComp (wZip false (wVar 0) (wVar 1)) (wGtup 2 (wGcons (wName 2) (wGcons (wName 3) wGnil))) wYes (wBin mulB (wVar 2) (wVar 3)) [2, 3]) wNil) sumC))
/- _law_rising: 0 frame, 1 heights, 2 a, 3 b -/
def w__law_rising : WS :=
  (wRet (wCall (wCons (wComp (wSeq (wBin ixB (wVar 0) (wC (.int 1)))) (wGtup 2 (wGcons (wName 2) (wGcons (wName 3) wGnil))) wYes (wBin subB (wBin ixB (wVar 1) (wVar 3)) (wBin ixB (wVar 1) (wVar 2))) [2, 3]) wNil) tupleC))
/- _law_brings: 0 frame, 1 row, 2 found*, 3 c, 4 a, 5 b, 6 number, 7 comes -/
def w__law_brings : WS :=
  (wSeqS (wSetO 2 (wLst wNil))
    (wSeqS (wFor (wRg1 (wBin ixB (wVar 0) (wC (.int 0)))) (wName 3) (wSeqS (wSet 7 (wCall (wCons (wComp (wZip false (wBin ixB (wVar 0) (wC (.int 1))) (wVar 1)) (wGtup 2 (wGcons (wGtup 2 (wGcons (wName 4) (wGcons (wName 5) wGnil))) (wGcons (wName 6) wGnil))) (wTest (wBin eqB (wVar 5) (wVar 3))) (wVar 6) [4, 5, 6]) wNil) sumC))
    (wExpr (wMeth 2 (wCons (wBin subB (wVar 7) (wCall (wCons (wComp (wZip false (wBin ixB (wVar 0) (wC (.int 1))) (wVar 1)) (wGtup 2 (wGcons (wGtup 2 (wGcons (wName 4) (wGcons (wName 5) wGnil))) (wGcons (wName 6) wGnil))) (wTest (wBin eqB (wVar 4) (wVar 3))) (wVar 6) [4, 5, 6]) wNil) sumC)) wNil) appB))))
    (wRet (wCall (wCons (wVar 2) wNil) tupleC))))
/- _law_own_ring: 0 frame, 1 tree, 2 road, 3 a, 4 b, 5 ways*, 6 line*, 7 here, 8 r, 9 sign, 10 one, 11 other, 12 steps -/
def w__law_own_ring : WS :=
  (wSeqS (wAsg (wBin ixB (wBin ixB (wVar 0) (wC (.int 1))) (wVar 2)) (wGtup 2 (wGcons (wName 3) (wGcons (wName 4) wGnil))))
    (wSeqS (wPar 5 6 .o .o (wDict1 (wVar 4) (wTup wNil)) (wLst (wCons (wVar 4) wNil)))
    (wSeqS (wWhile (wTest (wEqN true 6 (wC (.list [])))) (wSeqS (wSet 7 (wMeth 6 wNil popB))
    (wFor (wSeq (wVar 1)) (wName 8) (wFor (wSeq (wTup (wCons (wTup (wCons (wC (.int 1)) (wCons (wBin ixB (wBin ixB (wVar 0) (wC (.int 1))) (wVar 8)) wNil))) (wCons (wTup (wCons (wNeg (wC (.int 1))) (wCons (wRev (wBin ixB (wBin ixB (wVar 0) (wC (.int 1))) (wVar 8))) wNil))) wNil)))) (wGtup 2 (wGcons (wName 9) (wGcons (wGtup 2 (wGcons (wName 10) (wGcons (wName 11) wGnil))) wGnil))) (wIfS (wAndT (wTest (wBin eqB (wVar 10) (wVar 7))) (wTest (wDinN true 5 (wVar 11)))) (wSeqS (wSetDk 5 (wBin addB (wDgN 5 (wVar 7)) (wTup (wCons (wTup (wCons (wVar 8) (wCons (wVar 9) wNil))) wNil))) (wVar 11))
    (wExpr (wMeth 6 (wCons (wVar 11) wNil) appB))) wNilS)))))
    (wSeqS (wSet 12 (wCall (wCons (wBin addB (wCall (wCons (wDgN 5 (wVar 3)) wNil) listC) (wLst (wCons (wTup (wCons (wVar 2) (wCons (wC (.int 1)) wNil))) wNil))) wNil) dictC))
    (wRet (wCall (wCons (wComp (wRg1 (wCall (wCons (wBin ixB (wVar 0) (wC (.int 1))) wNil) lenC)) (wName 8) wYes (wGetN 12 (wVar 8) (wC (.int 0))) [8]) wNil) tupleC))))))
/- _law_outside: 0 frame, 1 tree, 2 r -/
def w__law_outside : WS :=
  (wRet (wCall (wCons (wComp (wRg1 (wCall (wCons (wBin ixB (wVar 0) (wC (.int 1))) wNil) lenC)) (wName 2) (wTest (wBin (inB true) (wVar 2) (wVar 1))) (wVar 2) [2]) wNil) tupleC))
/- _law_added: 0 many, 1 pairs, 2 found, 3 times, 4 row, 5 a, 6 b -/
def w__law_added : WS :=
  (wSeqS (wSet 2 (wBin mulB (wLst (wCons (wC (.int 0)) wNil)) (wVar 0)))
    (wSeqS (wFor (wSeq (wVar 1)) (wGtup 2 (wGcons (wName 3) (wGcons (wName 4) wGnil))) (wSet 2 (wComp (wZip false (wVar 2) (wVar 4)) (wGtup 2 (wGcons (wName 5) (wGcons (wName 6) wGnil))) wYes (wBin addB (wVar 5) (wBin mulB (wVar 3) (wVar 6))) [5, 6])))
    (wRet (wCall (wCons (wVar 2) wNil) tupleC))))
/- _law_drawn_ring_row: 0 source, 1 frame, 2 far, 3 tree, 4 r, 5 pairs -/
def w__law_drawn_ring_row (s__law_drawn_tree : DSp) (s__law_outside : DSp) (s__law_pick : DSp) (s__law_own_ring : DSp) (s__law_added : DSp) : WS :=
  (wSeqS (wSet 3 (wUser s__law_drawn_tree (wcS 0 (wcD (wVar 1) wc0))))
    (wSeqS (wSet 5 (wComp (wSeq (wUser s__law_outside (wcD (wVar 1) (wcD (wVar 3) wc0)))) (wName 4) wYes (wTup (wCons (wBin subB (wUser s__law_pick (wcS 0 (wcD (wBin addB (wBin mulB (wC (.int 2)) (wVar 2)) (wC (.int 1))) wc0))) (wVar 2)) (wCons (wUser s__law_own_ring (wcD (wVar 1) (wcD (wVar 3) (wcD (wVar 4) wc0)))) wNil))) [4]))
    (wRet (wUser s__law_added (wcD (wCall (wCons (wBin ixB (wVar 1) (wC (.int 1))) wNil) lenC) (wcD (wVar 5) wc0))))))
/- _law_drawn_cut_row: 0 source, 1 frame, 2 far, 3 c -/
def w__law_drawn_cut_row (s__law_rising : DSp) (s__law_pick : DSp) : WS :=
  (wRet (wUser s__law_rising (wcD (wVar 1) (wcD (wComp (wRg1 (wBin ixB (wVar 1) (wC (.int 0)))) (wName 3) wYes (wBin subB (wUser s__law_pick (wcS 0 (wcD (wBin addB (wBin mulB (wC (.int 2)) (wVar 2)) (wC (.int 1))) wc0))) (wVar 2)) [3]) wc0))))
/- _law_roads: 0 row, 1 r, 2 number -/
def w__law_roads : WS :=
  (wRet (wCall (wCons (wComp (wEnum (wVar 0)) (wGtup 2 (wGcons (wName 1) (wGcons (wName 2) wGnil))) (wTest (wBin neB (wVar 2) (wC (.int 0)))) (wVar 1) [1, 2]) wNil) tupleC))
/- _law_is_ring: 0 frame, 1 row, 2 one -/
def w__law_is_ring (s__law_brings : DSp) : WS :=
  (wRet (wBin eqB (wComp (wSeq (wUser s__law_brings (wcD (wVar 0) (wcD (wVar 1) wc0)))) (wName 2) (wTest (wBin neB (wVar 2) (wC (.int 0)))) (wVar 2) [2]) (wLst wNil)))
/- _law_heights: 0 frame, 1 row, 2 known*, 3 lap, 4 a, 5 b, 6 number, 7 c, 8 heights -/
def w__law_heights (s__law_rising : DSp) : WS :=
  (wSeqS (wSetO 2 (wDict1 (wC (.int 0)) (wC (.int 0))))
    (wSeqS (wFor (wRg1 (wBin ixB (wVar 0) (wC (.int 0)))) (wName 3) (wFor (wZip false (wBin ixB (wVar 0) (wC (.int 1))) (wVar 1)) (wGtup 2 (wGcons (wGtup 2 (wGcons (wName 4) (wGcons (wName 5) wGnil))) (wGcons (wName 6) wGnil))) (wSeqS (wIfS (wAndT (wTest (wDinN false 2 (wVar 4))) (wTest (wDinN true 2 (wVar 5)))) (wSetDk 2 (wBin addB (wDgN 2 (wVar 4)) (wVar 6)) (wVar 5)) wNilS)
    (wIfS (wAndT (wTest (wDinN false 2 (wVar 5))) (wTest (wDinN true 2 (wVar 4)))) (wSetDk 2 (wBin subB (wDgN 2 (wVar 5)) (wVar 6)) (wVar 4)) wNilS))))
    (wSeqS (wSet 8 (wCall (wCons (wComp (wRg1 (wBin ixB (wVar 0) (wC (.int 0)))) (wName 7) wYes (wDgN 2 (wVar 7)) [7]) wNil) tupleC))
    (wRet (wIf (wTest (wBin eqB (wUser s__law_rising (wcD (wVar 0) (wcD (wVar 8) wc0))) (wCall (wCons (wVar 1) wNil) tupleC))) (wVar 8) (wC .none))))))
/- _law_told_tree: 0 frame, 1 found, 2 r, 3 a, 4 b, 5 heads -/
def w__law_told_tree (s__law_pieces : DSp) : WS :=
  (wSeqS (wSet 1 (wLst wNil))
    (wSeqS (wFor (wEnum (wBin ixB (wVar 0) (wC (.int 1)))) (wGtup 2 (wGcons (wName 2) (wGcons (wGtup 2 (wGcons (wName 3) (wGcons (wName 4) wGnil))) wGnil))) (wSeqS (wSet 5 (wUser s__law_pieces (wcD (wVar 0) (wcD (wLRg1 (wVar 2)) wc0))))
    (wSet 1 (wBin addB (wVar 1) (wBin mulB (wLst (wCons (wVar 2) wNil)) (wCall (wCons (wBin neB (wBin ixB (wVar 5) (wVar 3)) (wBin ixB (wVar 5) (wVar 4))) wNil) intC))))))
    (wRet (wCall (wCons (wVar 1) wNil) tupleC))))
/- law: 0 script, 1 source, 2 lap, 3 frame, 4 far, 5 n, 6 m, 7 kept, 8 r, 9 some, 10 wide, 11 ring, 12 cut, 13 a, 14 late, 15 row, 16 heights, 17 due, 18 c, 19 told, 20 pairs, 21 tree, 22 along, 23 odd, 24 values, 25 value, 26 turn, 27 shown, 28 apart -/
def w_law (s__law_hung : DSp) (s__law_of : DSp) (s__law_pick : DSp) (s__law_drawn_ring_row : DSp) (s__law_drawn_cut_row : DSp) (s__law_heights : DSp) (s__law_brings : DSp) (s__law_is_ring : DSp) (s_brought_by : DSp) (s_is_ring_row : DSp) (s_heights_of_cut : DSp) (s_is_cut_row : DSp) (s_row_size : DSp) (s_roads_of_row : DSp) (s__law_product : DSp) (s__law_roads : DSp) (s_row_product : DSp) (s_cut_row : DSp) (s__law_rising : DSp) (s_added_rows : DSp) (s__law_added : DSp) (s__law_drawn_tree : DSp) (s_heights_along : DSp) (s_told_tree : DSp) (s__law_told_tree : DSp) (s__law_are_wholes : DSp) (s__law_bent : DSp) (s_is_whole_row : DSp) (s_hangs_together : DSp) : WS :=
  (wSeqS (wFor (wRg1 (wC (.int 4))) (wName 2) (wSeqS (wPar 3 4 .s .s (wUser s__law_hung (wcS 1 (wcD (wBin ixB (wLst (wCons (wC (.int 2)) (wCons (wC (.int 4)) (wCons (wC (.int 6)) (wCons (wC (.int 7)) wNil))))) (wVar 2)) (wcD (wBin ixB (wLst (wCons (wC (.int 3)) (wCons (wC (.int 7)) (wCons (wC (.int 10)) (wCons (wC (.int 12)) wNil))))) (wVar 2)) wc0)))) (wUser s__law_of (wcS 1 (wcD (wLst (wCons (wC (.int 1)) (wCons (wC (.int 3)) (wCons (wBin powB (wC (.int 10)) (wC (.int 9))) wNil)))) wc0))))
    (wSeqS (wPar3 5 6 7 (wBin ixB (wVar 3) (wC (.int 0))) (wCall (wCons (wBin ixB (wVar 3) (wC (.int 1))) wNil) lenC) (wCall (wCons (wVar 3) wNil) reprC))
    (wSeqS (wSet 9 (wCall (wCons (wComp (wRg1 (wVar 6)) (wName 8) wYes (wBin subB (wUser s__law_pick (wcS 1 (wcD (wBin addB (wBin mulB (wC (.int 2)) (wVar 4)) (wC (.int 1))) wc0))) (wVar 4)) [8]) wNil) tupleC))
    (wSeqS (wSet 10 (wCall (wCons (wVar 4) (wCons (wC (.int 1000)) wNil)) minC))
    (wSeqS (wPar 11 12 .s .s (wUser s__law_drawn_ring_row (wcS 1 (wcD (wVar 3) (wcD (wVar 10) wc0)))) (wUser s__law_drawn_cut_row (wcS 1 (wcD (wVar 3) (wcD (wVar 10) wc0)))))
    (wSeqS (wSet 14 (wCall (wCons (wComp (wSeq (wUser s__law_of (wcS 1 (wcD (wLst (wCons (wVar 11) (wCons (wVar 12) wNil))) wc0)))) (wName 13) wYes (wBin addB (wVar 13) (wCall (wCons (wBin eqB (wUser s__law_pick (wcS 1 (wcD (wC (.int 6)) wc0))) (wC (.int 0))) wNil) intC)) [13]) wNil) tupleC))
    (wSeqS (wFor (wSeq (wTup (wCons (wVar 9) (wCons (wVar 11) (wCons (wVar 12) (wCons (wVar 14) (wCons (wBin tmulB (wTup (wCons (wC (.int 0)) wNil)) (wVar 6)) wNil))))))) (wName 15) (wSeqS (wSet 16 (wUser s__law_heights (wcD (wVar 3) (wcD (wVar 15) wc0))))
    (wSeqS (wSet 17 (wLst (wCons (wUser s__law_brings (wcD (wVar 3) (wcD (wVar 15) wc0))) (wCons (wUser s__law_is_ring (wcD (wVar 3) (wcD (wVar 15) wc0))) wNil))))
    (wSeqS (wIfS (wTest (wBin neB (wCall (wCons (wLst (wCons (wUser s_brought_by (wcD (wVar 3) (wcD (wVar 15) wc0))) (wCons (wUser s_is_ring_row (wcD (wVar 3) (wcD (wVar 15) wc0))) wNil))) wNil) reprC) (wCall (wCons (wVar 17) wNil) reprC))) (wRet (wC (.bool false))) wNilS)
    (wSeqS (wIfS (wTest (wBin neB (wCall (wCons (wLst (wCons (wUser s_heights_of_cut (wcD (wVar 3) (wcD (wVar 15) wc0))) (wCons (wUser s_is_cut_row (wcD (wVar 3) (wcD (wVar 15) wc0))) wNil))) wNil) reprC) (wCall (wCons (wLst (wCons (wVar 16) (wCons (wBin notNB (wVar 16) (wC .none)) wNil))) wNil) reprC))) (wRet (wC (.bool false))) wNilS)
    (wSeqS (wIfS (wTest (wBin neB (wCall (wCons (wLst (wCons (wUser s_row_size (wcD (wVar 15) wc0)) (wCons (wUser s_roads_of_row (wcD (wVar 15) wc0)) wNil))) wNil) reprC) (wCall (wCons (wLst (wCons (wUser s__law_product (wcD (wVar 15) (wcD (wVar 15) wc0))) (wCons (wUser s__law_roads (wcD (wVar 15) wc0)) wNil))) wNil) reprC))) (wRet (wC (.bool false))) wNilS)
    (wSeqS (wIfS (wTest (wBin neB (wCall (wCons (wUser s_row_product (wcD (wVar 15) (wcD (wVar 12) wc0))) wNil) reprC) (wCall (wCons (wUser s__law_product (wcD (wVar 15) (wcD (wVar 12) wc0))) wNil) reprC))) (wRet (wC (.bool false))) wNilS)
    (wIfS (wAndT (wTest (wUser s_is_ring_row (wcD (wVar 3) (wcD (wVar 15) wc0)))) (wAndT (wTest (wUser s_is_cut_row (wcD (wVar 3) (wcD (wVar 15) wc0)))) (wTest (wBin neB (wUser s__law_roads (wcD (wVar 15) wc0)) (wTup wNil))))) (wRet (wC (.bool false))) wNilS))))))))
    (wSeqS (wIfS (wOrT (wTest (wBin neB (wUser s_row_product (wcD (wVar 11) (wcD (wVar 12) wc0))) (wC (.int 0)))) (wOrT (wNotT (wTest (wUser s_is_ring_row (wcD (wVar 3) (wcD (wVar 11) wc0))))) (wNotT (wTest (wUser s_is_cut_row (wcD (wVar 3) (wcD (wVar 12) wc0))))))) (wRet (wC (.bool false))) wNilS)
    (wSeqS (wSet 16 (wCall (wCons (wComp (wRg1 (wVar 5)) (wName 18) wYes (wBin subB (wUser s__law_pick (wcS 1 (wcD (wC (.int 9)) wc0))) (wC (.int 4))) [18]) wNil) tupleC))
    (wSeqS (wSet 19 (wLst (wCons (wUser s_cut_row (wcD (wVar 3) (wcD (wVar 16) wc0))) (wCons (wUser s_cut_row (wcD (wVar 3) (wcD (wCall (wCons (wVar 16) wNil) listC) wc0))) wNil))))
    (wSeqS (wIfS (wTest (wBin neB (wCall (wCons (wVar 19) wNil) reprC) (wCall (wCons (wBin mulB (wLst (wCons (wUser s__law_rising (wcD (wVar 3) (wcD (wVar 16) wc0))) wNil)) (wC (.int 2))) wNil) reprC))) (wRet (wC (.bool false))) wNilS)
    (wSeqS (wSet 20 (wComp (wSeq (wSl (wTup (wCons (wVar 11) (wCons (wVar 12) (wCons (wVar 9) wNil)))) wPn (wPs (wUser s__law_pick (wcS 1 (wcD (wC (.int 4)) wc0)))))) (wName 15) wYes (wTup (wCons (wBin subB (wUser s__law_pick (wcS 1 (wcD (wC (.int 7)) wc0))) (wC (.int 3))) (wCons (wVar 15) wNil))) [15]))
    (wSeqS (wIfS (wTest (wBin neB (wCall (wCons (wLst (wCons (wUser s_added_rows (wcD (wVar 6) (wcD (wVar 20) wc0))) (wCons (wUser s_added_rows (wcD (wVar 6) (wcD (wCall (wCons (wVar 20) wNil) tupleC) wc0))) wNil))) wNil) reprC) (wCall (wCons (wBin mulB (wLst (wCons (wUser s__law_added (wcD (wVar 6) (wcD (wVar 20) wc0))) wNil)) (wC (.int 2))) wNil) reprC))) (wRet (wC (.bool false))) wNilS)
    (wSeqS (wSet 21 (wUser s__law_drawn_tree (wcS 1 (wcD (wVar 3) wc0))))
    (wSeqS (wSet 22 (wUser s_heights_along (wcD (wVar 3) (wcD (wVar 21) (wcD (wVar 9) wc0)))))
    (wSeqS (wIfS (wOrT (wTest (wBin neB (wCall (wCons (wUser s_told_tree (wcD (wVar 3) wc0)) wNil) reprC) (wCall (wCons (wUser s__law_told_tree (wcD (wVar 3) wc0)) wNil) reprC))) (wOrT (wNotT (wTest (wUser s__law_are_wholes (wcD (wVar 22) (wcD (wVar 5) wc0))))) (wTest (wBin neB (wBin ixB (wVar 22) (wC (.int 0))) (wC (.int 0)))))) (wRet (wC (.bool false))) wNilS)
    (wSeqS (wIfS (wTest (wBin neB (wComp (wSeq (wVar 21)) (wName 8) (wTest (wBin neB (wBin subB (wBin ixB (wVar 22) (wBin ixB (wBin ixB (wBin ixB (wVar 3) (wC (.int 1))) (wVar 8)) (wC (.int 1)))) (wBin ixB (wVar 22) (wBin ixB (wBin ixB (wBin ixB (wVar 3) (wC (.int 1))) (wVar 8)) (wC (.int 0))))) (wBin ixB (wVar 9) (wVar 8)))) (wVar 8) [8]) (wLst wNil))) (wRet (wC (.bool false))) wNilS)
    (wSeqS (wSet 23 (wUser s__law_of (wcS 1 (wcD (wLst (wCons (wC .none) (wCons (wC (.bool true)) (wCons (wC (.str "0")) (wCons (wTup wNil) (wCons (wTup (wCons (wC (.int 0)) wNil)) (wCons (wLst (wCons (wC (.int 0)) wNil)) (wCons wDict0 wNil)))))))) wc0))))
    (wSeqS (wSet 24 (wLst (wCons (wVar 9) (wCons (wCall (wCons (wVar 9) wNil) listC) (wCons (wSl (wVar 9) (wPs (wC (.int 1))) wPn) (wCons (wBin addB (wVar 9) (wTup (wCons (wC (.int 0)) wNil))) (wCons (wBin addB (wBin addB (wSl (wVar 9) wPn (wPs (wC (.int 1)))) (wTup (wCons (wVar 23) wNil))) (wSl (wVar 9) (wPs (wC (.int 2))) wPn)) (wCons (wVar 23) (wCons (wC .none) (wCons (wBin tmulB (wTup (wCons (wC (.int 0)) wNil)) (wVar 6)) wNil))))))))))
    (wSeqS (wFor (wSeq (wBin addB (wVar 24) (wComp (wRg1 (wC (.int 4))) (wName 26) wYes (wUser s__law_bent (wcS 1 (wcD (wVar 9) wc0))) [26]))) (wName 25) (wSeqS (wSet 27 (wCall (wCons (wVar 25) wNil) reprC))
    (wIfS (wOrT (wTest (wBin neB (wCall (wCons (wUser s_is_whole_row (wcD (wVar 6) (wcD (wVar 25) wc0))) wNil) reprC) (wCall (wCons (wUser s__law_are_wholes (wcD (wVar 25) (wcD (wVar 6) wc0))) wNil) reprC))) (wTest (wBin neB (wCall (wCons (wVar 25) wNil) reprC) (wVar 27)))) (wRet (wC (.bool false))) wNilS)))
    (wSeqS (wSet 28 (wTup (wCons (wBin addB (wVar 5) (wC (.int 1))) (wCons (wBin ixB (wVar 3) (wC (.int 1))) wNil))))
    (wIfS (wOrT (wTest (wBin (bbB fun a b => !decide (a = b)) (wUser s_hangs_together (wcD (wVar 3) wc0)) (wC (.bool true)))) (wOrT (wTest (wBin (bbB fun a b => !decide (a = b)) (wUser s_hangs_together (wcD (wVar 28) wc0)) (wC (.bool false)))) (wTest (wBin neB (wCall (wCons (wVar 3) wNil) reprC) (wVar 7))))) (wRet (wC (.bool false))) wNilS)))))))))))))))))))))))
    (wRet (wBin eqB (wUser s_brought_by (wcD (wTup (wCons (wC (.int 2)) (wCons (wTup (wCons (wTup (wCons (wC (.int 0)) (wCons (wC (.int 1)) wNil))) (wCons (wTup (wCons (wC (.int 0)) (wCons (wC (.int 1)) wNil))) (wCons (wTup (wCons (wC (.int 0)) (wCons (wC (.int 1)) wNil))) wNil)))) wNil))) (wcD (wTup (wCons (wC (.int 1)) (wCons (wC (.int 1)) (wCons (wC (.int 0)) wNil)))) wc0))) (wTup (wCons (wNeg (wC (.int 2))) (wCons (wC (.int 2)) wNil))))))
end DL
set_option Elab.async false
set_option linter.all false
set_option maxRecDepth 100000
set_option maxHeartbeats 1000000
set_option autoImplicit false
namespace DL
open PySem PySem.Spec PyProof.Rows L2 DZ
/-! data -/
abbrev natD (k : Nat) : PyData := .int (k : Int)
abbrev intsD (xs : List Int) : List PyData := xs.map .int
abbrev natsD (xs : List Nat) : List PyData := xs.map natD
def prD (p : Nat × Nat) : PyData := .tuple [natD p.1, natD p.2]
def frD (n : Nat) (ps : List (Nat × Nat)) : PyData := .tuple [natD n, .tuple (ps.map prD)]
def rowD (xs : List Int) : PyData := .tuple (intsD xs)
structure FrOk (n : Nat) (ps : List (Nat × Nat)) : Prop where
  n1 : 1 ≤ n
  n2 : n ≤ 1000
  m : ps.length ≤ 1000
  lt : ∀ p ∈ ps, p.1 < n ∧ p.2 < n
@[simp] theorem envOf_eq {N : List Str} {cs : List Sl} : envOf N cs = cs.map some ++ List.replicate (N.length - cs.length) none := rfl
theorem rgD_nats (n : Nat) : rgD 0 n = natsD (List.range n) := by simp [rgD, natsD, natD]
theorem line_ge : 16000000 < sizeLine := by decide
@[simp] theorem atI_0 {a b : PyData} : atI [a, b] 0 = some a := rfl
@[simp] theorem atI_1 {a b : PyData} : atI [a, b] 1 = some b := rfl
theorem atI_nats {xs : List Nat} {k x : Nat} (h : xs[k]? = some x) : atI (natsD xs) (k : Int) = some (natD x) := by
  rw [natsD, atI_map, atI_get h]; rfl
theorem atI_prs {ps : List (Nat × Nat)} {k : Nat} {p : Nat × Nat} (h : ps[k]? = some p) : atI (ps.map prD) (k : Int) = some (prD p) := by
  rw [atI_map, atI_get h]; rfl
theorem perm2 {x y a b : Int} (h : [a, b].Perm [x, y]) : (a = x ∧ b = y) ∨ (a = y ∧ b = x) := by
  have h1 : a ∈ [x, y] := h.subset (by simp)
  simp only [List.mem_cons, List.not_mem_nil, or_false] at h1
  rcases h1 with e | e
  · subst e
    have := (List.perm_cons a).mp h
    have := List.perm_singleton.mp this
    simp at this
    exact .inl ⟨rfl, this⟩
  · subst e
    have := (List.perm_cons a).mp (h.trans (List.Perm.swap _ _ _))
    have := List.perm_singleton.mp this
    simp at this
    exact .inr ⟨rfl, this⟩
theorem sorted2 {x y : Int} {ms : List Int} (h : ms.Perm [x, y]) (hp : ms.Pairwise (· ≤ ·)) : ms = [min x y, max x y] := by
  have hl := h.length_eq
  match ms, hl with
  | [a, b], _ =>
    have hab : a ≤ b := by simpa using hp
    rcases perm2 h with ⟨rfl, rfl⟩ | ⟨rfl, rfl⟩
    · congr 1
      · omega
      · congr 1; omega
    · congr 1
      · omega
      · congr 1; omega
theorem sortedC_two {x y : Int} {P : PyData → Prop} (h : P (.list [.int (min x y), .int (max x y)])) : sortedC [.list [.int x, .int y]] P :=
  ⟨[x, y], rfl, fun ms h1 h2 => by rw [sorted2 h1 h2]; exact h⟩
@[simp] theorem ix_fr0 {n : Nat} {ps : List (Nat × Nat)} {Q : PyData → Prop} : ixB (frD n ps) (.int 0) Q = Q (natD n) := by simp [frD]
@[simp] theorem ix_fr1 {n : Nat} {ps : List (Nat × Nat)} {Q : PyData → Prop} : ixB (frD n ps) (.int 1) Q = Q (.tuple (ps.map prD)) := by simp [frD]
/-! ## the plain functions -/
def nth (hs : List Nat) (x : Nat) : Nat := hs.getD x 0
def mrgL (hs : List Nat) (x y : Nat) : List Nat := hs.map fun h => if h = max (nth hs x) (nth hs y) then min (nth hs x) (nth hs y) else h
def prA (ps : List (Nat × Nat)) (r : Nat) : Nat × Nat := ps.getD r (0, 0)
def headsL (n : Nat) (ps : List (Nat × Nat)) (lot : List Nat) : List Nat := lot.foldl (fun hs r => mrgL hs (prA ps r).1 (prA ps r).2) (List.range n)
theorem mrgL_len {hs : List Nat} {x y : Nat} : (mrgL hs x y).length = hs.length := by simp [mrgL]
theorem headsL_snoc {n : Nat} {ps : List (Nat × Nat)} {lot : List Nat} {r : Nat} : headsL n ps (lot ++ [r]) = mrgL (headsL n ps lot) (prA ps r).1 (prA ps r).2 := by simp [headsL]
theorem headsL_len {n : Nat} {ps : List (Nat × Nat)} : ∀ {lot : List Nat}, (headsL n ps lot).length = n := by
  intro lot
  unfold headsL
  have : ∀ (lot : List Nat) (hs : List Nat), (lot.foldl (fun hs r => mrgL hs (prA ps r).1 (prA ps r).2) hs).length = hs.length := by
    intro lot
    induction lot with
    | nil => intro hs; rfl
    | cons r t ih => intro hs; rw [List.foldl_cons, ih, mrgL_len]
  rw [this, List.length_range]
theorem prA_get {ps : List (Nat × Nat)} {r : Nat} (h : r < ps.length) : ps[r]? = some (prA ps r) := by
  unfold prA; rw [List.getD_eq_getElem?_getD, List.getElem?_eq_getElem h]; rfl
theorem nth_get {hs : List Nat} {x : Nat} (h : x < hs.length) : hs[x]? = some (nth hs x) := by
  unfold nth; rw [List.getD_eq_getElem?_getD, List.getElem?_eq_getElem h]; rfl
theorem nth_at {hs : List Nat} {x : Nat} (h : x < hs.length) : atI (natsD hs) (x : Int) = some (natD (nth hs x)) := atI_nats (nth_get h)
theorem FrOk.pr {n : Nat} {ps : List (Nat × Nat)} (f : FrOk n ps) {r : Nat} (h : r < ps.length) : (prA ps r).1 < n ∧ (prA ps r).2 < n := by
  have := prA_get h
  exact f.lt _ (List.mem_of_getElem? this)
theorem fm_some {α β : Type} (f : α → β) (xs : List α) : xs.filterMap (fun x => some (f x)) = xs.map f := by
  induction xs with
  | nil => rfl
  | cons x r ih => simp
/-! ## heads_by -/
def sHeadsBy : DSp := fun cs P => ∃ n ps lot d, cs = [.sh (frD n ps), .sh d] ∧ FrOk n ps ∧ itemsOf d = some (natsD lot) ∧ (∀ r ∈ lot, r < ps.length) ∧ P (.list (natsD (headsL n ps lot)))
theorem h_heads_by : ∀ cs Q, cs.length = 2 → sHeadsBy cs Q → w_heads_by ⟨fun _ => Q .none, Q⟩ (envOf ["frame", "lot", "heads", "road", "crossing", "low", "high", "head"] cs) := by
  rintro cs Q _ ⟨n, ps, lot, d, rfl, f, hd, hl, q⟩
  have hn := f.n2
  simp [w_heads_by, wVar_sh, hd, rgD_nats]
  refine ⟨by omega, ?_⟩
  refine for_all natD lot (fun pre env => ∃ x3 x5 x6, env = [some (.sh (frD n ps)), some (.sh d), some (.sh (.list (natsD (headsL n ps pre)))), x3, none, x5, x6, none]) ⟨_, _, _, rfl⟩ ?_ ?_
  · rintro p r q' e env Kn ⟨x3, x5, x6, rfl⟩ hK
    have hr : r < ps.length := hl r (by rw [e]; simp)
    simp [wVar_sh]
    refine ⟨_, atI_prs (prA_get hr), ?_⟩
    simp [prD, compL, wipeN, wVar_sh]
    obtain ⟨ha, hb⟩ := f.pr hr
    have hlen : (headsL n ps p).length = n := headsL_len
    refine ⟨_, nth_at (by omega), by decide, _, nth_at (by omega), by decide, sortedC_two ?_⟩
    simp [backN, backAt, wVar_sh]
    refine comp_of natD (fun h => some (natD (if h = max (nth (headsL n ps p) (prA ps r).1) (nth (headsL n ps p) (prA ps r).2) then min (nth (headsL n ps p) (prA ps r).1) (nth (headsL n ps p) (prA ps r).2) else h))) (headsL n ps p) [] (by have := line_ge; simp; omega) (fun h hh acc C hacc hC => ?_) ?_
    · simp [wVar_sh, wipeN, -Bool.exists_bool] at hC ⊢
      generalize nth (headsL n ps p) (prA ps r).1 = x at hC ⊢
      generalize nth (headsL n ps p) (prA ps r).2 = y at hC ⊢
      have e : natD (min x y) = .int (min ↑x ↑y) := by simp only [natD]; congr 1; omega
      by_cases h1 : h = max x y
      · rw [if_pos h1, e] at hC
        rw [if_pos (by omega)]
        exact ⟨hacc, hC⟩
      · rw [if_neg h1] at hC
        rw [if_neg (by omega)]
        exact ⟨hacc, hC⟩
    · rw [fm_some, List.nil_append]
      have key : (headsL n ps p).map (fun h => natD (if h = max (nth (headsL n ps p) (prA ps r).1) (nth (headsL n ps p) (prA ps r).2) then min (nth (headsL n ps p) (prA ps r).1) (nth (headsL n ps p) (prA ps r).2) else h)) = natsD (headsL n ps (p ++ [r])) := by
        rw [headsL_snoc, mrgL, natsD, List.map_map]; rfl
      rw [key]
      exact hK _ ⟨_, _, _, rfl⟩
  · rintro env ⟨x3, x5, x6, rfl⟩
    simpa [wVar_sh] using q
end DL
set_option Elab.async false
set_option linter.all false
set_option maxRecDepth 100000
set_option maxHeartbeats 1000000
set_option autoImplicit false
namespace DL
open PySem PySem.Spec PyProof.Rows L2 DZ
theorem lt_line {n : Nat} (h : n ≤ 1000000) : n < sizeLine := Nat.lt_of_le_of_lt h (by decide)
theorem le_line {n : Nat} (h : n ≤ 1000000) : n ≤ sizeLine := Nat.le_of_lt (lt_line h)
/-! ## all_roads -/
def sAllRoads : DSp := fun cs P => ∃ n ps, cs = [.sh (frD n ps)] ∧ FrOk n ps ∧ P (.tuple (natsD (List.range ps.length)))
theorem h_all_roads : ∀ cs Q, cs.length = 1 → sAllRoads cs Q → w_all_roads ⟨fun _ => Q .none, Q⟩ (envOf ["frame"] cs) := by
  rintro cs Q _ ⟨n, ps, rfl, f, q⟩
  have := f.m
  simp [w_all_roads, wVar_sh, rgD_nats]
  exact ⟨by omega, q⟩
/-! ## is_whole, _law_number -/
def isW (d : PyData) : Bool := isInt d && !isBool d
def sIsWhole : DSp := fun cs P => ∃ d, cs = [.sh d] ∧ P (.bool (isW d))
theorem h_is_whole : ∀ cs Q, cs.length = 1 → sIsWhole cs Q → w_is_whole ⟨fun _ => Q .none, Q⟩ (envOf ["value"] cs) := by
  rintro cs Q _ ⟨d, rfl, q⟩
  simp [w_is_whole, wVar_sh, -Bool.exists_bool]
  unfold isW at q
  cases h1 : isInt d <;> cases h2 : isBool d <;> (simp only [h1, h2] at q; simpa using q)
theorem h_number : ∀ cs Q, cs.length = 1 → sIsWhole cs Q → w__law_number ⟨fun _ => Q .none, Q⟩ (envOf ["value"] cs) := by
  rintro cs Q _ ⟨d, rfl, q⟩
  simp [w__law_number, wVar_sh, -Bool.exists_bool]
  unfold isW at q
  cases h1 : isInt d <;> cases h2 : isBool d <;> (simp only [h1, h2] at q; simpa using q)
/-! ## is_whole_row, _law_are_wholes -/
def wholeRow (m : Nat) (d : PyData) : Bool := match d with
  | .tuple ds => decide (ds.length = m) && ds.all isW
  | _ => false
def sWholeRow (sw : Bool) : DSp := fun cs P => ∃ m d, cs = (if sw then [.sh d, .sh (natD m)] else [.sh (natD m), .sh d]) ∧ (∀ ds, d = .tuple ds → ds.length ≤ 1000) ∧ P (.bool (wholeRow m d))
theorem allC_ok {bs : List Bool} {P : PyData → Prop} (h : P (.bool (bs.all id))) : allC [.list (bs.map .bool)] P := ⟨bs, rfl, h⟩
theorem h_is_whole_row : ∀ cs Q, cs.length = 2 → sWholeRow false cs Q → w_is_whole_row sIsWhole ⟨fun _ => Q .none, Q⟩ (envOf ["many", "value", "one"] cs) := by
  rintro cs Q _ ⟨m, d, rfl, hl, q⟩
  simp [w_is_whole_row, wVar_sh, -Bool.exists_bool]
  cases d with
  | tuple ds =>
    have hn := hl ds rfl
    simp [isTup, -Bool.exists_bool]
    by_cases e : ds.length = m
    · rw [if_pos (by omega)]
      simp [wipeN, -Bool.exists_bool]
      have := comp_of (g := wName 2) (wt := wYes) (we := wUser sIsWhole (wcD (wVar 2) wc0)) (own := [2]) (P := fun acc e2 => allC [PyData.list acc] fun z => Q z) (env := [some (.sh (natD m)), some (.sh (.tuple ds)), none]) id (fun z => some (.bool (isW z))) ds [] (by have := lt_line (n := ds.length) (by omega); simpa using this)
        (fun x hx acc C hacc hC => by
          simp [wVar_sh, wipeN, sIsWhole] at hC ⊢
          exact ⟨hacc, hC⟩) (by
          rw [fm_some, List.nil_append]
          have e2 : ds.map (fun z => PyData.bool (isW z)) = (ds.map isW).map .bool := by simp
          rw [e2]
          refine allC_ok ?_
          have : (ds.map isW).all id = ds.all isW := by simp [List.all_map]
          rw [this]
          simpa [wholeRow, e] using q)
      simpa using this
    · rw [if_neg (by omega)]
      simpa [wholeRow, e] using q
  | _ => simpa [isTup, wholeRow] using q
theorem h_are_wholes : ∀ cs Q, cs.length = 2 → sWholeRow true cs Q → w__law_are_wholes sIsWhole ⟨fun _ => Q .none, Q⟩ (envOf ["value", "many", "one"] cs) := by
  rintro cs Q _ ⟨m, d, rfl, hl, q⟩
  simp [w__law_are_wholes, wVar_sh, -Bool.exists_bool]
  cases d with
  | tuple ds =>
    have hn := hl ds rfl
    simp [isTup, -Bool.exists_bool]
    by_cases e : ds.length = m
    · rw [if_pos (by omega)]
      simp [wipeN, -Bool.exists_bool]
      have := comp_of (g := wName 2) (wt := wNotT (wTest (wUser sIsWhole (wcD (wVar 2) wc0)))) (we := wC (.int 1)) (own := [2]) (P := fun acc e2 => SeqAt.shaped (.list acc) = true ∧ SeqAt.shaped (.list []) = true ∧ Q (.bool (PyData.eqv (.list acc) (.list [])))) (env := [some (.sh (.tuple ds)), some (.sh (natD m)), none]) id (fun z => if isW z then none else some (.int 1)) ds [] (by have := lt_line (n := ds.length) (by omega); simpa using this)
        (fun x hx acc C hacc hC => by
          simp [wVar_sh, wipeN, sIsWhole, -Bool.exists_bool] at hC ⊢
          cases h : isW x
          · simp [h] at hC ⊢; exact ⟨hacc, hC⟩
          · simp [h] at hC ⊢; exact hC) (by
          rw [List.nil_append]
          refine ⟨shaped_of (shp_lst (n := 0) fun d hd => ?_), shaped_of (shp_lst (n := 0) fun d hd => by cases hd), ?_⟩
          · obtain ⟨z, hz, e⟩ := List.mem_filterMap.mp hd
            split at e
            · cases e
            · cases e; exact shp_int
          · have e2 : PyData.eqv (.list (ds.filterMap fun z => if isW z = true then none else some (.int 1))) (.list []) = ds.all isW := by
              simp only [PyData.eqv]
              clear hl hn e q
              induction ds with
              | nil => rfl
              | cons z r ih =>
                rw [List.filterMap_cons, List.all_cons]
                cases h : isW z
                · simp [PyData.eqvAll]
                · simpa using ih
            rw [e2]
            simpa [wholeRow, e] using q)
      simpa using this
    · rw [if_neg (by omega)]
      simpa [wholeRow, e] using q
  | _ => simpa [isTup, wholeRow] using q
end DL
set_option Elab.async false
set_option linter.all false
set_option maxRecDepth 100000
set_option maxHeartbeats 1000000
set_option autoImplicit false
namespace DL
open PySem PySem.Spec PyProof.Rows L2 DZ
/-! ## pieces_by, piece_count, hangs_together -/
def rootsL (n : Nat) (hs : List Nat) : List Nat := (List.range n).filter fun v => decide (nth hs v = v)
def pieceD (n : Nat) (hs : List Nat) (v : Nat) : PyData := .tuple (natsD ((List.range n).filter fun c => decide (nth hs c = v)))
def sPiecesBy : DSp := fun cs P => ∃ n ps lot d, cs = [.sh (frD n ps), .sh d] ∧ FrOk n ps ∧ itemsOf d = some (natsD lot) ∧ (∀ r ∈ lot, r < ps.length) ∧ P (.tuple ((rootsL n (headsL n ps lot)).map (pieceD n (headsL n ps lot))))
theorem fm_if {α β : Type} (p : α → Bool) (f : α → β) (xs : List α) : xs.filterMap (fun x => if p x = true then some (f x) else none) = (xs.filter p).map f := by
  induction xs with
  | nil => rfl
  | cons x r ih =>
    rw [List.filterMap_cons, List.filter_cons]
    cases h : p x
    · simpa [h] using ih
    · simpa [h] using ih
theorem natD_eq {a b : Nat} : PyData.eqv (natD a) (natD b) = decide (a = b) := by rw [eqv_int]; congr 1; apply propext; omega
theorem h_pieces_by : ∀ cs Q, cs.length = 2 → sPiecesBy cs Q → w_pieces_by sHeadsBy ⟨fun _ => Q .none, Q⟩ (envOf ["frame", "lot", "heads", "found", "first", "crossing"] cs) := by
  rintro cs Q _ ⟨n, ps, lot, d, rfl, f, hd, hl, q⟩
  have hn := f.n2
  simp [w_pieces_by, wVar_sh]
  refine ⟨n, ps, lot, d, rfl, f, hd, hl, ?_⟩
  have hlen : (headsL n ps lot).length = n := headsL_len
  generalize headsL n ps lot = hs at q hlen ⊢
  refine ⟨by omega, ?_⟩
  rw [rgD_nats]
  refine for_all natD (List.range n) (fun pre env => ∃ x4, env = [some (.sh (frD n ps)), some (.sh d), some (.sh (.list (natsD hs))), some (.ow (.list (((pre.filter fun v => decide (nth hs v = v)).map (pieceD n hs))))), x4, none]) ⟨_, rfl⟩ ?_ ?_
  · rintro p v q' e env Kn ⟨x4, rfl⟩ hK
    have hv : v < n := by
      have : v ∈ List.range n := by rw [e]; simp
      exact List.mem_range.mp this
    have hpl : p.length ≤ n := by
      have := congrArg List.length e
      simp at this
      omega
    simp [wVar_sh, -Bool.exists_bool]
    refine ⟨_, nth_at (by omega), ?_⟩
    simp [-Bool.exists_bool]
    by_cases h1 : nth hs v = v
    · rw [if_pos (by omega)]
      simp [wMeth, owL, appB, wipeN, wVar_sh, -Bool.exists_bool]
      refine ⟨by omega, ?_⟩
      rw [rgD_nats]
      refine comp_of natD (fun c => if decide (nth hs c = v) = true then some (natD c) else none) (List.range n) [] (by have := lt_line (n := n) (by omega); simpa using this) (fun c hc acc C hacc hC => ?_) ?_
      · have hc' := List.mem_range.mp hc
        simp [wVar_sh, wipeN, -Bool.exists_bool] at hC ⊢
        refine ⟨_, nth_at (by omega), ?_⟩
        simp [-Bool.exists_bool]
        by_cases h2 : nth hs c = v
        · rw [if_pos (by omega)]
          simp [h2] at hC
          exact ⟨hacc, hC⟩
        · rw [if_neg (by omega)]
          simp [h2] at hC
          exact hC
      · rw [List.nil_append, fm_if]
        simp [backN, backAt]
        refine ⟨lt_line ?_, hK _ ⟨some (.sh (natD v)), ?_⟩⟩
        · have := List.length_filter_le (fun v => decide (nth hs v = v)) p
          omega
        · rw [List.filter_append, List.map_append]
          simp [h1, pieceD]
    · rw [if_neg (by omega)]
      refine hK _ ⟨some (.sh (natD v)), ?_⟩
      rw [List.filter_append]
      simp [h1]
  · rintro env ⟨x4, rfl⟩
    simpa [wVar, rootsL] using q
def sPieceCount : DSp := fun cs P => ∃ n ps lot d, cs = [.sh (frD n ps), .sh d] ∧ FrOk n ps ∧ itemsOf d = some (natsD lot) ∧ (∀ r ∈ lot, r < ps.length) ∧ P (natD (rootsL n (headsL n ps lot)).length)
theorem h_piece_count : ∀ cs Q, cs.length = 2 → sPieceCount cs Q → w_piece_count sPiecesBy ⟨fun _ => Q .none, Q⟩ (envOf ["frame", "lot"] cs) := by
  rintro cs Q _ ⟨n, ps, lot, d, rfl, f, hd, hl, q⟩
  simp [w_piece_count, wVar_sh]
  refine ⟨n, ps, lot, d, rfl, f, hd, hl, ?_⟩
  simpa using q
def allHeads (n : Nat) (ps : List (Nat × Nat)) : List Nat := headsL n ps (List.range ps.length)
def sHangs : DSp := fun cs P => ∃ n ps, cs = [.sh (frD n ps)] ∧ FrOk n ps ∧ P (.bool (decide ((rootsL n (allHeads n ps)).length = 1)))
theorem h_hangs : ∀ cs Q, cs.length = 1 → sHangs cs Q → w_hangs_together sPieceCount sAllRoads ⟨fun _ => Q .none, Q⟩ (envOf ["frame"] cs) := by
  rintro cs Q _ ⟨n, ps, rfl, f, q⟩
  simp [w_hangs_together, wVar_sh]
  refine ⟨n, ps, rfl, f, n, ps, List.range ps.length, _, rfl, f, rfl, fun r hr => List.mem_range.mp hr, ?_⟩
  simp
  have e : ((rootsL n (headsL n ps (List.range ps.length))).length : Int) = 1 ↔ (rootsL n (allHeads n ps)).length = 1 := by unfold allHeads; omega
  rw [show decide (((rootsL n (headsL n ps (List.range ps.length))).length : Int) = 1) = decide ((rootsL n (allHeads n ps)).length = 1) by congr 1; exact propext e]
  exact q
/-! ## products, sizes -/
def dotL (xs ys : List Int) : Int := ((xs.zip ys).map fun p => p.1 * p.2).sum
def prI (p : Int × Int) : PyData := .tuple [.int p.1, .int p.2]
theorem zipD_ints (xs ys : List Int) : zipD (intsD xs) (intsD ys) = (xs.zip ys).map prI := by
  unfold zipD intsD
  rw [List.zip_map, List.map_map]
  rfl
theorem sumC_ok {ns : List Int} {P : PyData → Prop} (h : P (.int ns.sum)) : sumC [.list (ns.map .int)] P := ⟨ns, rfl, h⟩
def sProduct : DSp := fun cs P => ∃ xs ys, cs = [.sh (rowD xs), .sh (rowD ys)] ∧ xs.length = ys.length ∧ xs.length ≤ 1000 ∧ (∀ x ∈ xs, x.natAbs < 2 ^ 64) ∧ P (.int (dotL xs ys))
theorem dot_core {own : List Nat} {xs ys : List Int} {env : Nv} {P : List PyData → Nv → Prop} (hl : xs.length ≤ 1000) (hx : ∀ x ∈ xs, x.natAbs < 2 ^ 64) (hown : own = [2, 3]) (he : ∃ a b, env = [a, b, none, none]) (h : P (intsD ((xs.zip ys).map fun p => p.1 * p.2)) env) :
    compL (wGtup 2 (wGcons (wName 2) (wGcons (wName 3) wGnil))) wYes (wBin mulB (wVar 2) (wVar 3)) own P ((xs.zip ys).map prI) [] env := by
  subst hown
  obtain ⟨a, b, rfl⟩ := he
  refine comp_of prI (fun p => some (.int (p.1 * p.2))) (xs.zip ys) [] (by have := lt_line (n := xs.length) (by omega); simp; omega) (fun p hp acc C hacc hC => ?_) ?_
  · have h1 : p.1.natAbs < 2 ^ 64 := hx _ (List.of_mem_zip hp).1
    simp [prI, wVar_sh, wipeN] at hC ⊢
    exact ⟨.inl h1, hacc, hC⟩
  · rw [fm_some, List.nil_append]
    simpa [Function.comp_def] using h
theorem h_row_product : ∀ cs Q, cs.length = 2 → sProduct cs Q → w_row_product ⟨fun _ => Q .none, Q⟩ (envOf ["one", "other", "a", "b"] cs) := by
  rintro cs Q _ ⟨xs, ys, rfl, h1, h2, h3, q⟩
  simp [w_row_product, wVar_sh, rowD, wipeN, h1]
  rw [zipD_ints]
  exact dot_core h2 h3 rfl ⟨_, _, rfl⟩ (sumC_ok q)
theorem h_law_product : ∀ cs Q, cs.length = 2 → sProduct cs Q → w__law_product ⟨fun _ => Q .none, Q⟩ (envOf ["one", "other", "a", "b"] cs) := by
  rintro cs Q _ ⟨xs, ys, rfl, h1, h2, h3, q⟩
  simp [w__law_product, wVar_sh, rowD, wipeN, h1]
  rw [zipD_ints]
  exact dot_core h2 h3 rfl ⟨_, _, rfl⟩ (sumC_ok q)
def sRowSize : DSp := fun cs P => ∃ xs, cs = [.sh (rowD xs)] ∧ xs.length ≤ 1000 ∧ (∀ x ∈ xs, x.natAbs < 2 ^ 64) ∧ P (.int (dotL xs xs))
theorem zip_self {α : Type} (xs : List α) : xs.zip xs = xs.map fun x => (x, x) := by
  induction xs with
  | nil => rfl
  | cons x r ih => simp [ih]
theorem h_row_size : ∀ cs Q, cs.length = 1 → sRowSize cs Q → w_row_size ⟨fun _ => Q .none, Q⟩ (envOf ["row", "number"] cs) := by
  rintro cs Q _ ⟨xs, rfl, h2, h3, q⟩
  simp [w_row_size, wVar_sh, rowD, wipeN]
  refine comp_of .int (fun x => some (.int (x * x))) xs [] (by have := lt_line (n := xs.length) (by omega); simpa using this) (fun p hp acc C hacc hC => ?_) ?_
  · simp [wVar_sh, wipeN] at hC ⊢
    exact ⟨h3 _ hp, hacc, hC⟩
  · rw [fm_some, List.nil_append]
    have e : xs.map (fun x => PyData.int (x * x)) = (xs.map fun x => x * x).map .int := by simp
    rw [e]
    refine sumC_ok ?_
    have : dotL xs xs = (xs.map fun x => x * x).sum := by unfold dotL; rw [zip_self, List.map_map]; rfl
    rw [← this]; exact q
/-! ## the roads of a row -/
def rdI (p : Int × Nat) : PyData := .tuple [natD p.2, .int p.1]
theorem enD_ints (xs : List Int) : enD (intsD xs) = xs.zipIdx.map rdI := by
  unfold enD intsD
  apply List.ext_getElem?
  intro i
  simp [List.getElem?_mapIdx, List.getElem?_map, List.getElem?_zipIdx]
  cases xs[i]? <;> simp [rdI]
def roadsL (xs : List Int) : List Nat := (xs.zipIdx.filter fun p => !decide (p.1 = 0)).map (·.2)
def sRoads : DSp := fun cs P => ∃ xs, cs = [.sh (rowD xs)] ∧ xs.length ≤ 1000 ∧ P (.tuple (natsD (roadsL xs)))
theorem roads_core {xs : List Int} {env : Nv} {P : List PyData → Nv → Prop} (hl : xs.length ≤ 1000) (he : ∃ a, env = [a, none, none]) (h : P (natsD (roadsL xs)) env) :
    compL (wGtup 2 (wGcons (wName 1) (wGcons (wName 2) wGnil))) (wTest (wBin neB (wVar 2) (wC (.int 0)))) (wVar 1) [1, 2] P (xs.zipIdx.map rdI) [] env := by
  obtain ⟨a, rfl⟩ := he
  refine comp_of rdI (fun p => if (!decide (p.1 = 0)) = true then some (natD p.2) else none) xs.zipIdx [] (by have := lt_line (n := xs.length) (by omega); simpa using this) (fun p hp acc C hacc hC => ?_) ?_
  · simp [rdI, wVar_sh, wipeN, -Bool.exists_bool] at hC ⊢
    by_cases h1 : p.1 = 0
    · simp [h1] at hC ⊢; exact hC
    · simp [h1] at hC ⊢; exact ⟨hacc, hC⟩
  · rw [fm_if, List.nil_append]
    simpa [roadsL, natsD, Function.comp_def] using h
theorem h_roads_of_row : ∀ cs Q, cs.length = 1 → sRoads cs Q → w_roads_of_row ⟨fun _ => Q .none, Q⟩ (envOf ["row", "road", "number"] cs) := by
  rintro cs Q _ ⟨xs, rfl, h2, q⟩
  simp [w_roads_of_row, wVar_sh, rowD, wipeN]
  rw [enD_ints]
  exact roads_core h2 ⟨_, rfl⟩ (by simpa using q)
theorem h_law_roads : ∀ cs Q, cs.length = 1 → sRoads cs Q → w__law_roads ⟨fun _ => Q .none, Q⟩ (envOf ["row", "r", "number"] cs) := by
  rintro cs Q _ ⟨xs, rfl, h2, q⟩
  simp [w__law_roads, wVar_sh, rowD, wipeN]
  rw [enD_ints]
  exact roads_core h2 ⟨_, rfl⟩ (by simpa using q)
/-! ## one of some, mixed -/
def sOf : DSp := fun cs P => ∃ d ds, cs = [.src, .sh d] ∧ itemsOf d = some ds ∧ ds ≠ [] ∧ ds.length ≤ 1000000 ∧ ∀ z ∈ ds, P z
theorem h_law_of : ∀ cs Q, cs.length = 2 → sOf cs Q → w__law_of sPick ⟨fun _ => Q .none, Q⟩ (envOf ["source", "some"] cs) := by
  rintro cs Q _ ⟨d, ds, rfl, hd, hne, hl, q⟩
  simp [w__law_of, wVar_sh, hd, sPick]
  have h0 : 0 < ds.length := List.length_pos_iff.mpr hne
  refine ⟨by omega, fun i h1 h2 => ?_⟩
  obtain ⟨k, rfl⟩ : ∃ k : Nat, i = (k : Int) := ⟨i.toNat, by omega⟩
  have hk : k < ds.length := by omega
  have hg : atI ds (k : Int) = some ds[k] := atI_get (List.getElem?_eq_getElem hk)
  cases d with
  | list xs => cases hd; exact ⟨_, hg, q _ (List.getElem_mem hk)⟩
  | tuple xs => cases hd; exact ⟨_, hg, q _ (List.getElem_mem hk)⟩
  | _ => cases hd
theorem erase_perm {α : Type} : ∀ {l : List α} {j : Nat} (h : j < l.length), (l[j] :: l.eraseIdx j).Perm l
  | x :: l, 0, _ => by simp
  | x :: l, j + 1, h => by
    have ih := erase_perm (l := l) (j := j) (by simpa using h)
    simp only [List.getElem_cons_succ, List.eraseIdx_cons_succ]
    exact (List.Perm.swap _ _ _).trans (ih.cons x)
def sMixed : DSp := fun cs P => ∃ d ds, cs = [.src, .sh d] ∧ itemsOf d = some ds ∧ ds.length ≤ 1000000 ∧ ∀ es : List PyData, es.Perm ds → P (.list es)
theorem mixed_core {P : List PyData → Nv → Prop} {a b : Option Sl} {d0 : PyData} (ha : a = some .src) (h : ∀ (es : List PyData), P es [a, b, some (.ow (.list [])), none] → True) :
    ∀ (ks : List Nat) (rest acc : List PyData), rest.length = ks.length → acc.length + ks.length ≤ 1000000 → (∀ es, es.Perm (acc ++ rest) → P es [a, b, some (.ow (.list [])), none]) →
      compL (wName 3) wYes (wMeth 2 (wCons (wUser sPick (wcS 0 (wcD (wLenN 2) wc0))) wNil) popAtB) [3] P (ks.map natD) acc [a, b, some (.ow (.list rest)), none]
  | [], rest, acc, hl, _, hP => by
    have : rest = [] := List.eq_nil_of_length_eq_zero hl
    subst this
    simpa [compL] using hP acc (by simp)
  | k :: ks, rest, acc, hl, hz, hP => by
    subst ha
    simp [compL, wMeth, owL, wLenN, slD, sPick, popAtB, wipeN]
    simp at hl hz
    refine ⟨by omega, fun i h1 h2 => ?_⟩
    obtain ⟨j, rfl⟩ : ∃ j : Nat, i = (j : Int) := ⟨i.toNat, by omega⟩
    have hj : j < rest.length := by omega
    refine ⟨j, by omega, by omega, rest[j], List.getElem?_eq_getElem hj, lt_line (by omega), ?_⟩
    refine mixed_core (d0 := d0) rfl h ks (rest.eraseIdx j) (acc ++ [rest[j]]) (by rw [List.length_eraseIdx]; split <;> omega) (by simp; omega) fun es he => hP es ?_
    refine he.trans ?_
    rw [List.append_assoc]
    exact (List.Perm.refl acc).append (erase_perm hj)
theorem h_law_mixed : ∀ cs Q, cs.length = 2 → sMixed cs Q → w__law_mixed sPick ⟨fun _ => Q .none, Q⟩ (envOf ["source", "things", "rest", "lap"] cs) := by
  rintro cs Q _ ⟨d, ds, rfl, hd, hl, q⟩
  simp [w__law_mixed, wVar_sh, hd, wLenN, slD, wipeN]
  refine ⟨by omega, ?_⟩
  rw [rgD_nats]
  exact mixed_core (d0 := .none) rfl (fun _ _ => trivial) (List.range ds.length) ds [] (by simp) (by simpa using hl) fun es he => by
    simpa using q es (by simpa using he)
/-! ## the roads outside a tree -/
def outL (m : Nat) (T : List Nat) : List Nat := (List.range m).filter fun r => !decide (r ∈ T)
def sOutside : DSp := fun cs P => ∃ n ps T, cs = [.sh (frD n ps), .sh (.tuple (natsD T))] ∧ FrOk n ps ∧ T.length ≤ 1000 ∧ P (.tuple (natsD (outL ps.length T)))
theorem any_nat (T : List Nat) (r : Nat) : ((natsD T).any fun z => PyData.eqv z (natD r)) = decide (r ∈ T) := by
  induction T with
  | nil => simp
  | cons t ts ih =>
    simp only [List.map_cons, List.any_cons, ih, natD_eq]
    by_cases h1 : t = r <;> by_cases h2 : r ∈ ts <;> simp [h1, h2, eq_comm]
    all_goals (try omega)
theorem shp_nats {T : List Nat} : ∀ d ∈ natsD T, Shp 0 d := fun d hd => by
  obtain ⟨x, _, e⟩ := List.mem_map.mp hd
  subst e; exact shp_int
theorem h_law_outside : ∀ cs Q, cs.length = 2 → sOutside cs Q → w__law_outside ⟨fun _ => Q .none, Q⟩ (envOf ["frame", "tree", "r"] cs) := by
  rintro cs Q _ ⟨n, ps, T, rfl, f, hT, q⟩
  have hm := f.m
  simp [w__law_outside, wVar_sh, wipeN]
  refine ⟨by omega, ?_⟩
  rw [rgD_nats]
  refine comp_of natD (fun r => if (!decide (r ∈ T)) = true then some (natD r) else none) (List.range ps.length) [] (by have := lt_line (n := ps.length) (by omega); simpa using this) (fun r hr acc C hacc hC => ?_) ?_
  · simp [wVar_sh, wipeN, inB, any_nat, -Bool.exists_bool] at hC ⊢
    refine ⟨shaped_of (shp_tup shp_nats), ?_⟩
    rw [show T.any ((fun z => z.eqv (natD r)) ∘ natD) = decide (r ∈ T) from by simpa [List.any_map] using any_nat T r]
    by_cases h1 : r ∈ T
    · refine ⟨false, by simp [h1], ?_⟩
      simpa [h1] using hC
    · refine ⟨true, by simp [h1], ?_⟩
      simp [h1] at hC ⊢
      exact ⟨hacc, hC⟩
  · rw [fm_if, List.nil_append]
    simpa [outL] using q
end DL
set_option Elab.async false
set_option linter.all false
set_option maxRecDepth 100000
set_option maxHeartbeats 1000000
set_option autoImplicit false
namespace DL
open PySem PySem.Spec PyProof.Rows L2 DZ
/-! ## sums of rows -/
def addRow (t : Int) (acc row : List Int) : List Int := (acc.zip row).map fun p => p.1 + t * p.2
def addedL (m : Nat) (pairs : List (Int × List Int)) : List Int := pairs.foldl (fun acc p => addRow p.1 acc p.2) (List.replicate m 0)
def trD (p : Int × List Int) : PyData := .tuple [.int p.1, rowD p.2]
theorem addRow_len {t : Int} {acc row : List Int} (h : acc.length = row.length) : (addRow t acc row).length = acc.length := by simp [addRow, h]
theorem addedL_snoc {m : Nat} {pairs : List (Int × List Int)} {p : Int × List Int} : addedL m (pairs ++ [p]) = addRow p.1 (addedL m pairs) p.2 := by simp [addedL]
theorem addedL_len {m : Nat} : ∀ {pairs : List (Int × List Int)}, (∀ p ∈ pairs, p.2.length = m) → (addedL m pairs).length = m := by
  intro pairs h
  unfold addedL
  have : ∀ (pairs : List (Int × List Int)) (acc : List Int), (∀ p ∈ pairs, p.2.length = m) → acc.length = m → (pairs.foldl (fun acc p => addRow p.1 acc p.2) acc).length = m := by
    intro pairs
    induction pairs with
    | nil => intro acc _ h; exact h
    | cons p r ih =>
      intro acc h1 h2
      rw [List.foldl_cons]
      exact ih _ (fun q hq => h1 q (List.mem_cons_of_mem _ hq)) (by rw [addRow_len (by rw [h2, h1 p List.mem_cons_self])]; exact h2)
  exact this pairs _ h (by simp)
def sAdded : DSp := fun cs P => ∃ m d pairs, cs = [.sh (natD m), .sh d] ∧ itemsOf d = some (pairs.map trD) ∧ m ≤ 1000 ∧ (∀ p ∈ pairs, p.2.length = m ∧ p.1.natAbs < 2 ^ 64) ∧ P (rowD (addedL m pairs))
theorem add_core {t : Int} {acc row : List Int} {env : Nv} {P : List PyData → Nv → Prop} (hl : acc.length ≤ 1000) (ht : t.natAbs < 2 ^ 64) (he : ∃ a b c e, env = [a, b, c, some (.sh (.int t)), e, none, none]) (h : P (intsD (addRow t acc row)) env) :
    compL (wGtup 2 (wGcons (wName 5) (wGcons (wName 6) wGnil))) wYes (wBin addB (wVar 5) (wBin mulB (wVar 3) (wVar 6))) [5, 6] P ((acc.zip row).map prI) [] env := by
  obtain ⟨a, b, c, e, rfl⟩ := he
  refine comp_of prI (fun p => some (.int (p.1 + t * p.2))) (acc.zip row) [] (by have := lt_line (n := acc.length) (by omega); simp; omega) (fun p hp acc C hacc hC => ?_) ?_
  · simp [prI, wVar_sh, wipeN] at hC ⊢
    exact ⟨.inl ht, hacc, hC⟩
  · rw [fm_some, List.nil_append]
    simpa [addRow, Function.comp_def] using h
theorem rep_zero (m : Nat) : List.replicate m (PyData.int 0) = intsD (List.replicate m 0) := by simp
theorem h_added_rows : ∀ cs Q, cs.length = 2 → sAdded cs Q → w_added_rows ⟨fun _ => Q .none, Q⟩ (envOf ["many", "pairs", "found", "times", "row", "a", "b"] cs) := by
  rintro cs Q _ ⟨m, d, pairs, rfl, hd, hm, hp, q⟩
  simp [w_added_rows, wVar_sh, hd]
  refine ⟨le_line (by omega), le_line (by omega), by omega, ?_⟩
  rw [rep_zero]
  refine for_all trD pairs (fun pre env => ∃ x3 x4, env = [some (.sh (natD m)), some (.sh d), some (.sh (.list (intsD (addedL m pre)))), x3, x4, none, none]) ⟨_, _, rfl⟩ ?_ ?_
  · rintro p x q' e env Kn ⟨x3, x4, rfl⟩ hK
    obtain ⟨h1, h2⟩ := hp x (by rw [e]; simp)
    have hl : (addedL m p).length = m := addedL_len fun y hy => (hp y (by rw [e]; simp [hy])).1
    simp [trD, rowD, wVar_sh, wipeN, hl, h1]
    rw [zipD_ints]
    refine add_core (by omega) h2 ⟨_, _, _, _, rfl⟩ ?_
    simp [backN, backAt]
    exact hK _ ⟨_, _, by rw [addedL_snoc]⟩
  · rintro env ⟨x3, x4, rfl⟩
    simpa [wVar_sh, rowD] using q
theorem h_law_added : ∀ cs Q, cs.length = 2 → sAdded cs Q → w__law_added ⟨fun _ => Q .none, Q⟩ (envOf ["many", "pairs", "found", "times", "row", "a", "b"] cs) := by
  rintro cs Q _ ⟨m, d, pairs, rfl, hd, hm, hp, q⟩
  simp [w__law_added, wVar_sh, hd]
  refine ⟨le_line (by omega), le_line (by omega), by omega, ?_⟩
  rw [rep_zero]
  refine for_all trD pairs (fun pre env => ∃ x3 x4, env = [some (.sh (natD m)), some (.sh d), some (.sh (.list (intsD (addedL m pre)))), x3, x4, none, none]) ⟨_, _, rfl⟩ ?_ ?_
  · rintro p x q' e env Kn ⟨x3, x4, rfl⟩ hK
    obtain ⟨h1, h2⟩ := hp x (by rw [e]; simp)
    have hl : (addedL m p).length = m := addedL_len fun y hy => (hp y (by rw [e]; simp [hy])).1
    simp [trD, rowD, wVar_sh, wipeN, hl, h1]
    rw [zipD_ints]
    refine add_core (by omega) h2 ⟨_, _, _, _, rfl⟩ ?_
    simp [backN, backAt]
    exact hK _ ⟨_, _, by rw [addedL_snoc]⟩
  · rintro env ⟨x3, x4, rfl⟩
    simpa [wVar_sh, rowD] using q
/-! ## what is brought -/
abbrev Rd := (Nat × Nat) × Int
def brT (c : Nat) (q : Rd) : Int := (if q.1.2 = c then q.2 else 0) - (if q.1.1 = c then q.2 else 0)
def bring (qs : List Rd) (c : Nat) : Int := (qs.map (brT c)).sum
def bringL (n : Nat) (ps : List (Nat × Nat)) (row : List Int) : List Int := (List.range n).map (bring (ps.zip row))
def rdD (q : Rd) : PyData := .tuple [prD q.1, .int q.2]
theorem zipD_rd (ps : List (Nat × Nat)) (row : List Int) : zipD (ps.map prD) (intsD row) = (ps.zip row).map rdD := by
  unfold zipD intsD
  rw [List.zip_map, List.map_map]
  rfl
def sBrought : DSp := fun cs P => ∃ n ps row, cs = [.sh (frD n ps), .sh (rowD row)] ∧ FrOk n ps ∧ row.length = ps.length ∧ P (rowD (bringL n ps row))
theorem bring_snoc {qs : List Rd} {q : Rd} {c : Nat} : bring (qs ++ [q]) c = bring qs c + brT c q := by simp [bring]
theorem zip_lt {n : Nat} {ps : List (Nat × Nat)} (f : FrOk n ps) {row : List Int} {q : Rd} (h : q ∈ ps.zip row) : q.1.1 < n ∧ q.1.2 < n := f.lt _ (List.of_mem_zip (show (q.1, q.2) ∈ ps.zip row from h)).1
theorem h_brought_by : ∀ cs Q, cs.length = 2 → sBrought cs Q → w_brought_by ⟨fun _ => Q .none, Q⟩ (envOf ["frame", "row", "found", "a", "b", "number"] cs) := by
  rintro cs Q _ ⟨n, ps, row, rfl, f, hl, q⟩
  have hn := f.n2
  simp [w_brought_by, wVar_sh, rowD, hl]
  refine ⟨le_line (by omega), le_line (by omega), by omega, ?_⟩
  rw [rep_zero, zipD_rd]
  refine for_all rdD (ps.zip row) (fun pre env => ∃ x3 x4 x5, env = [some (.sh (frD n ps)), some (.sh (.tuple (intsD row))), some (.ow (.list (intsD ((List.range n).map (bring pre))))), x3, x4, x5]) ⟨none, none, none, ?_⟩ ?_ ?_
  · have : (List.range n).map (bring []) = List.replicate n 0 := by
      apply List.ext_getElem (by simp)
      intro i h1 h2
      simp [bring]
    rw [this]
  · rintro p x q' e env Kn ⟨x3, x4, x5, rfl⟩ hK
    obtain ⟨ha, hb⟩ := zip_lt f (show x ∈ ps.zip row by rw [e]; simp)
    simp [rdD, prD, wAugIx, owL, wVar_sh]
    refine ⟨by omega, bring p x.1.1, ⟨x.1.1, by simp [ha], rfl⟩, ha, by omega, if x.1.2 = x.1.1 then bring p x.1.1 - x.2 else bring p x.1.2, ?_, hb, ?_⟩
    · by_cases h1 : x.1.2 = x.1.1
      · rw [if_pos h1, h1, List.getElem?_set_self (by simpa using ha)]
      · rw [if_neg h1, List.getElem?_set_ne (Ne.symm h1)]
        simp [hb]
    · have key : (((List.map (PyData.int ∘ bring p) (List.range n)).set x.1.1 (.int (bring p x.1.1 - x.2))).set x.1.2 (.int ((if x.1.2 = x.1.1 then bring p x.1.1 - x.2 else bring p x.1.2) + x.2))) = intsD ((List.range n).map (bring (p ++ [x]))) := by
        apply List.ext_getElem (by simp)
        intro i h1 h2
        simp only [List.getElem_set, List.getElem_map, List.getElem_range, bring_snoc, brT, Function.comp_apply]
        by_cases hbi : x.1.2 = i
        · by_cases hai : x.1.1 = i
          · simp [hbi, hai]
          · have : ¬ i = x.1.1 := fun z => hai z.symm
            simp [hbi, hai, this]
        · by_cases hai : x.1.1 = i
          · simp [hbi, hai]
            omega
          · simp [hbi, hai]
      rw [key]
      exact hK _ ⟨_, _, _, rfl⟩
  · rintro env ⟨x3, x4, x5, rfl⟩
    simpa [wVar, rowD, bringL, Function.comp_def] using q
/-! ## _law_brings -/
theorem sum_filter (qs : List Rd) (p : Rd → Bool) : ((qs.filter p).map (·.2)).sum = (qs.map fun q => if p q = true then q.2 else 0).sum := by
  induction qs with
  | nil => rfl
  | cons q r ih =>
    rw [List.filter_cons]
    cases h : p q
    · simp [h, ih]
    · simp [h, ih]
theorem bring_two (qs : List Rd) (c : Nat) : ((qs.filter fun q => decide (q.1.2 = c)).map (·.2)).sum - ((qs.filter fun q => decide (q.1.1 = c)).map (·.2)).sum = bring qs c := by
  rw [sum_filter, sum_filter]
  unfold bring
  induction qs with
  | nil => rfl
  | cons q r ih =>
    simp only [List.map_cons, List.sum_cons, brT, decide_eq_true_eq] at ih ⊢
    omega
theorem part_core {i : Nat} {qs : List Rd} {env : Nv} {P : List PyData → Nv → Prop} {c : Nat} {sel : Rd → Nat} (hi : (i = 5 ∧ ∀ q, sel q = q.1.2) ∨ (i = 4 ∧ ∀ q, sel q = q.1.1)) (hl : qs.length ≤ 1000) (he : ∃ x0 x1 x2 x7, env = [x0, x1, x2, some (.sh (natD c)), none, none, none, x7])
    (h : P (intsD ((qs.filter fun q => decide (sel q = c)).map (·.2))) env) :
    compL (wGtup 2 (wGcons (wGtup 2 (wGcons (wName 4) (wGcons (wName 5) wGnil))) (wGcons (wName 6) wGnil))) (wTest (wBin eqB (wVar i) (wVar 3))) (wVar 6) [4, 5, 6] P (qs.map rdD) [] env := by
  obtain ⟨x0, x1, x2, x7, rfl⟩ := he
  refine comp_of rdD (fun q => if decide (sel q = c) = true then some (.int q.2) else none) qs [] (by have := lt_line (n := qs.length) (by omega); simpa using this) (fun q hq acc C hacc hC => ?_) ?_
  · rcases hi with ⟨rfl, hs⟩ | ⟨rfl, hs⟩
    all_goals
      rw [hs q] at hC
      simp [rdD, prD, wVar_sh, wipeN, -Bool.exists_bool] at hC ⊢
    · by_cases h1 : q.1.2 = c
      · rw [if_pos (by omega)]; simp [h1] at hC; exact ⟨hacc, hC⟩
      · rw [if_neg (by omega)]; simp [h1] at hC; exact hC
    · by_cases h1 : q.1.1 = c
      · rw [if_pos (by omega)]; simp [h1] at hC; exact ⟨hacc, hC⟩
      · rw [if_neg (by omega)]; simp [h1] at hC; exact hC
  · rw [fm_if, List.nil_append]
    simpa [Function.comp_def] using h
theorem h_law_brings : ∀ cs Q, cs.length = 2 → sBrought cs Q → w__law_brings ⟨fun _ => Q .none, Q⟩ (envOf ["frame", "row", "found", "c", "a", "b", "number", "comes"] cs) := by
  rintro cs Q _ ⟨n, ps, row, rfl, f, hl, q⟩
  have hn := f.n2
  have hm := f.m
  simp [w__law_brings, wVar_sh, rowD, hl]
  refine ⟨by omega, ?_⟩
  rw [rgD_nats]
  refine for_all natD (List.range n) (fun pre env => ∃ x3 x7, env = [some (.sh (frD n ps)), some (.sh (.tuple (intsD row))), some (.ow (.list (intsD (pre.map (bring (ps.zip row)))))), x3, none, none, none, x7]) ⟨_, _, rfl⟩ ?_ ?_
  · rintro p c q' e env Kn ⟨x3, x7, rfl⟩ hK
    have hpl : p.length ≤ n := by
      have := congrArg List.length e
      simp at this
      omega
    simp [wVar_sh, wipeN, zipD_rd]
    refine part_core (qs := ps.zip row) (sel := fun q => q.1.2) (.inl ⟨rfl, fun _ => rfl⟩) (by simp; omega) ⟨_, _, _, _, rfl⟩ (sumC_ok ?_)
    simp [backN, backAt, wMeth, owL, wVar_sh, wipeN, zipD_rd]
    refine part_core (qs := ps.zip row) (sel := fun q => q.1.1) (.inr ⟨rfl, fun _ => rfl⟩) (by simp; omega) ⟨_, _, _, _, rfl⟩ (sumC_ok ?_)
    simp [backN, backAt, appB]
    refine ⟨lt_line (by omega), ?_⟩
    have h3 := bring_two (ps.zip row) c
    have key : (p.map (PyData.int ∘ bring (ps.zip row))) ++ [.int ((((ps.zip row).filter fun q => decide (q.1.2 = c)).map (·.2)).sum - (((ps.zip row).filter fun q => decide (q.1.1 = c)).map (·.2)).sum)] = intsD ((p ++ [c]).map (bring (ps.zip row))) := by
      rw [h3]; simp
    rw [key]
    exact hK _ ⟨_, _, rfl⟩
  · rintro env ⟨x3, x7, rfl⟩
    simpa [wVar, rowD, bringL, Function.comp_def] using q
/-! ## ring rows -/
def RingRow (n : Nat) (ps : List (Nat × Nat)) (row : List Int) : Prop := ∀ c, c < n → bring (ps.zip row) c = 0
theorem eqv_nil (ds : List PyData) : PyData.eqv (.list ds) (.list []) = ds.isEmpty := by
  cases ds <;> simp [PyData.eqv, PyData.eqvAll]
def sIsRing : DSp := fun cs P => ∃ n ps row, cs = [.sh (frD n ps), .sh (rowD row)] ∧ FrOk n ps ∧ row.length = ps.length ∧ (RingRow n ps row → P (.bool true)) ∧ (¬ RingRow n ps row → P (.bool false))
theorem ring_core {n : Nat} {xs : List Int} {env : Nv} {P : Bool → Prop} (hn : xs.length ≤ 1000) (he : ∃ a b, env = [a, b, none]) (h : P (decide (∀ x ∈ xs, x = 0))) :
    compL (wName 2) (wTest (wBin neB (wVar 2) (wC (.int 0)))) (wVar 2) [2] (fun acc e2 => SeqAt.shaped (.list acc) = true ∧ SeqAt.shaped (.list []) = true ∧ P (PyData.eqv (.list acc) (.list []))) (intsD xs) [] env := by
  obtain ⟨a, b, rfl⟩ := he
  refine comp_of .int (fun x => if (!decide (x = 0)) = true then some (.int x) else none) xs [] (by have := lt_line (n := xs.length) (by omega); simpa using this) (fun x hx acc C hacc hC => ?_) ?_
  · simp [wVar_sh, wipeN, -Bool.exists_bool] at hC ⊢
    by_cases h1 : x = 0
    · simp [h1] at hC ⊢; exact hC
    · simp [h1] at hC ⊢; exact ⟨hacc, hC⟩
  · rw [fm_if, List.nil_append, eqv_nil]
    refine ⟨shaped_of (shp_lst (n := 0) fun d hd => ?_), shaped_of (shp_lst (n := 0) fun d hd => by cases hd), ?_⟩
    · obtain ⟨x, _, e⟩ := List.mem_map.mp hd
      subst e; exact shp_int
    · have : ((xs.filter fun x => !decide (x = 0)).map PyData.int).isEmpty = decide (∀ x ∈ xs, x = 0) := by
        rw [List.isEmpty_map, Bool.eq_iff_iff]
        simp [List.isEmpty_iff, List.filter_eq_nil_iff]
      rw [this]; exact h
theorem h_is_ring_row : ∀ cs Q, cs.length = 2 → sIsRing cs Q → w_is_ring_row sBrought ⟨fun _ => Q .none, Q⟩ (envOf ["frame", "row", "one"] cs) := by
  rintro cs Q _ ⟨n, ps, row, rfl, f, hl, q1, q2⟩
  have hn := f.n2
  simp [w_is_ring_row, wVar_sh]
  refine ⟨n, ps, row, rfl, f, hl, ?_⟩
  simp [rowD, wipeN]
  refine ring_core (n := n) (by simp [bringL]; omega) ⟨_, _, rfl⟩ (P := fun b => Q (.bool b)) ?_
  have e : (∀ x ∈ bringL n ps row, x = 0) ↔ RingRow n ps row := by simp [bringL, RingRow]
  by_cases h : RingRow n ps row
  · rw [decide_eq_true (e.mpr h)]; exact q1 h
  · rw [decide_eq_false (fun z => h (e.mp z))]; exact q2 h
theorem h_law_is_ring : ∀ cs Q, cs.length = 2 → sIsRing cs Q → w__law_is_ring sBrought ⟨fun _ => Q .none, Q⟩ (envOf ["frame", "row", "one"] cs) := by
  rintro cs Q _ ⟨n, ps, row, rfl, f, hl, q1, q2⟩
  have hn := f.n2
  simp [w__law_is_ring, wVar_sh]
  refine ⟨n, ps, row, rfl, f, hl, ?_⟩
  simp [rowD, wipeN]
  refine ring_core (n := n) (by simp [bringL]; omega) ⟨_, _, rfl⟩ (P := fun b => Q (.bool b)) ?_
  have e : (∀ x ∈ bringL n ps row, x = 0) ↔ RingRow n ps row := by simp [bringL, RingRow]
  by_cases h : RingRow n ps row
  · rw [decide_eq_true (e.mpr h)]; exact q1 h
  · rw [decide_eq_false (fun z => h (e.mp z))]; exact q2 h
/-! ## cut rows -/
def ith (hs : List Int) (x : Nat) : Int := hs.getD x 0
theorem ith_get {hs : List Int} {x : Nat} (h : x < hs.length) : hs[x]? = some (ith hs x) := by
  unfold ith; rw [List.getD_eq_getElem?_getD, List.getElem?_eq_getElem h]; rfl
theorem ith_at {hs : List Int} {x : Nat} (h : x < hs.length) : atI (intsD hs) (x : Int) = some (.int (ith hs x)) := by
  rw [intsD, atI_map, atI_get (ith_get h)]; rfl
def cutL (ps : List (Nat × Nat)) (hs : List Int) : List Int := ps.map fun p => ith hs p.2 - ith hs p.1
def sCut : DSp := fun cs P => ∃ n ps hs d, cs = [.sh (frD n ps), .sh d] ∧ FrOk n ps ∧ itemsOf d = some (intsD hs) ∧ hs.length = n ∧ P (rowD (cutL ps hs))
theorem cut_core {n : Nat} {ps : List (Nat × Nat)} {hs : List Int} {d : PyData} {a : Option Sl} {P : List PyData → Nv → Prop} (f : FrOk n ps) (hd : itemsOf d = some (intsD hs)) (hl : hs.length = n) (h : P (intsD (cutL ps hs)) [a, some (.sh d), none, none]) :
    compL (wGtup 2 (wGcons (wName 2) (wGcons (wName 3) wGnil))) wYes (wBin subB (wBin ixB (wVar 1) (wVar 3)) (wBin ixB (wVar 1) (wVar 2))) [2, 3] P (ps.map prD) [] [a, some (.sh d), none, none] := by
  refine comp_of prD (fun p => some (.int (ith hs p.2 - ith hs p.1))) ps [] (by have := lt_line (n := ps.length) (by have := f.m; omega); simpa using this) (fun p hp acc C hacc hC => ?_) ?_
  · obtain ⟨h1, h2⟩ := f.lt p hp
    have g1 := ith_at (hs := hs) (x := p.1) (by omega)
    have g2 := ith_at (hs := hs) (x := p.2) (by omega)
    cases d with
    | list xs =>
      cases hd
      simp [prD, wVar_sh, wipeN] at hC ⊢
      exact ⟨_, g2, _, g1, by simpa using ⟨hacc, hC⟩⟩
    | tuple xs =>
      cases hd
      simp [prD, wVar_sh, wipeN] at hC ⊢
      exact ⟨_, g2, _, g1, by simpa using ⟨hacc, hC⟩⟩
    | _ => cases hd
  · rw [fm_some, List.nil_append]
    simpa [cutL, Function.comp_def] using h
theorem h_cut_row : ∀ cs Q, cs.length = 2 → sCut cs Q → w_cut_row ⟨fun _ => Q .none, Q⟩ (envOf ["frame", "heights", "a", "b"] cs) := by
  rintro cs Q _ ⟨n, ps, hs, d, rfl, f, hd, hl, q⟩
  simp [w_cut_row, wVar_sh, wipeN]
  exact cut_core f hd hl (by simpa [rowD] using q)
theorem h_law_rising : ∀ cs Q, cs.length = 2 → sCut cs Q → w__law_rising ⟨fun _ => Q .none, Q⟩ (envOf ["frame", "heights", "a", "b"] cs) := by
  rintro cs Q _ ⟨n, ps, hs, d, rfl, f, hd, hl, q⟩
  simp [w__law_rising, wVar_sh, wipeN]
  exact cut_core f hd hl (by simpa [rowD] using q)
/-! ## _law_pieces -/
theorem h_law_pieces : ∀ cs Q, cs.length = 2 → sHeadsBy cs Q → w__law_pieces ⟨fun _ => Q .none, Q⟩ (envOf ["frame", "roads", "heads", "r", "c", "one", "other", "head"] cs) := by
  rintro cs Q _ ⟨n, ps, lot, d, rfl, f, hd, hl, q⟩
  have hn := f.n2
  simp [w__law_pieces, wVar_sh, hd, rgD_nats]
  refine ⟨by omega, ?_⟩
  refine for_all natD lot (fun pre env => ∃ x3 x5 x6, env = [some (.sh (frD n ps)), some (.sh d), some (.sh (.list (natsD (headsL n ps pre)))), x3, none, x5, x6, none]) ⟨_, _, _, rfl⟩ ?_ ?_
  · rintro p r q' e env Kn ⟨x3, x5, x6, rfl⟩ hK
    have hr : r < ps.length := hl r (by rw [e]; simp)
    simp [wVar_sh]
    refine ⟨_, atI_prs (prA_get hr), ?_⟩
    simp [prD, compL, wipeN, wVar_sh]
    obtain ⟨ha, hb⟩ := f.pr hr
    have hlen : (headsL n ps p).length = n := headsL_len
    refine ⟨_, nth_at (by omega), by decide, _, nth_at (by omega), by decide, ?_⟩
    simp [backN, backAt, wVar_sh]
    refine comp_of natD (fun h => some (natD (if h = max (nth (headsL n ps p) (prA ps r).1) (nth (headsL n ps p) (prA ps r).2) then min (nth (headsL n ps p) (prA ps r).1) (nth (headsL n ps p) (prA ps r).2) else h))) (headsL n ps p) [] (by have := line_ge; simp; omega) (fun h hh acc C hacc hC => ?_) ?_
    · simp [wVar_sh, wipeN, inB, -Bool.exists_bool] at hC ⊢
      generalize nth (headsL n ps p) (prA ps r).1 = x at hC ⊢
      generalize nth (headsL n ps p) (prA ps r).2 = y at hC ⊢
      refine ⟨by decide, shaped_of (shp_tup (n := 0) fun d hd => ?_), ?_⟩
      · simp at hd
        rcases hd with e | e <;> (subst e; exact shp_int)
      · by_cases h1 : x = h ∨ y = h
        · rw [if_pos (by omega)]
          have e1 : PyData.int (if y < x then (y : Int) else x) = natD (min x y) := by
            simp only [natD]; congr 1; split <;> omega
          have e2 : (if h = max x y then min x y else h) = min x y := by split <;> omega
          rw [e2] at hC
          rw [e1]
          exact ⟨hacc, hC⟩
        · rw [if_neg (by omega)]
          rw [if_neg (by omega)] at hC
          exact ⟨hacc, hC⟩
    · rw [fm_some, List.nil_append]
      have key : (headsL n ps p).map (fun h => natD (if h = max (nth (headsL n ps p) (prA ps r).1) (nth (headsL n ps p) (prA ps r).2) then min (nth (headsL n ps p) (prA ps r).1) (nth (headsL n ps p) (prA ps r).2) else h)) = natsD (headsL n ps (p ++ [r])) := by
        rw [headsL_snoc, mrgL, natsD, List.map_map]; rfl
      rw [key]
      exact hK _ ⟨_, _, _, rfl⟩
  · rintro env ⟨x3, x5, x6, rfl⟩
    simpa [wVar_sh] using q
end DL
set_option Elab.async false
set_option linter.all false
set_option maxRecDepth 100000
set_option maxHeartbeats 1000000
set_option autoImplicit false
namespace DL
open PySem PySem.Spec PyProof.Rows L2 DZ
/-! ## pieces: the mathematics -/
theorem nth_range {n v : Nat} (h : v < n) : nth (List.range n) v = v := by
  unfold nth; rw [List.getD_eq_getElem?_getD, List.getElem?_range h]; rfl
theorem nth_map {hs : List Nat} {f : Nat → Nat} {v : Nat} (h : v < hs.length) : nth (hs.map f) v = f (nth hs v) := by
  unfold nth; rw [List.getD_eq_getElem?_getD, List.getD_eq_getElem?_getD, List.getElem?_map, List.getElem?_eq_getElem h]; rfl
theorem nth_mrg {hs : List Nat} {x y v : Nat} (h : v < hs.length) : nth (mrgL hs x y) v = if nth hs v = max (nth hs x) (nth hs y) then min (nth hs x) (nth hs y) else nth hs v := by
  unfold mrgL; rw [nth_map h]
theorem mrg_same {hs : List Nat} {x y : Nat} (h : nth hs x = nth hs y) : mrgL hs x y = hs := by
  unfold mrgL
  rw [h]
  have : ∀ k, (if k = max (nth hs y) (nth hs y) then min (nth hs y) (nth hs y) else k) = k := fun k => by split <;> omega
  simp only [this, List.map_id']
def ConnV (n : Nat) (es : List (Nat × Nat)) : Prop := ∀ c : Nat → Nat, (∀ p ∈ es, c p.1 = c p.2) → ∀ v, v < n → c v = c 0
abbrev sub (ps : List (Nat × Nat)) (T : List Nat) : List (Nat × Nat) := T.map (prA ps)
structure Span (n : Nat) (ps : List (Nat × Nat)) (T : List Nat) : Prop where
  lt : ∀ r ∈ T, r < ps.length
  len : T.length + 1 = n
  conn : ConnV n (sub ps T)
/-- the roads that bring two pieces together -/
def greedyL (n : Nat) (ps : List (Nat × Nat)) (l : List Nat) : List Nat := l.foldl (fun found r => if nth (headsL n ps found) (prA ps r).1 ≠ nth (headsL n ps found) (prA ps r).2 then found ++ [r] else found) []
theorem greedy_snoc {n : Nat} {ps : List (Nat × Nat)} {l : List Nat} {r : Nat} : greedyL n ps (l ++ [r]) = if nth (headsL n ps (greedyL n ps l)) (prA ps r).1 ≠ nth (headsL n ps (greedyL n ps l)) (prA ps r).2 then greedyL n ps l ++ [r] else greedyL n ps l := by simp [greedyL]
theorem snoc_ind {α : Type} {P : List α → Prop} (h0 : P []) (h1 : ∀ l x, P l → P (l ++ [x])) (l : List α) : P l := by
  have : ∀ l : List α, P l.reverse := by
    intro l
    induction l with
    | nil => exact h0
    | cons x r ih => rw [List.reverse_cons]; exact h1 _ _ ih
  have := this l.reverse
  rwa [List.reverse_reverse] at this
theorem heads_greedy {n : Nat} {ps : List (Nat × Nat)} (l : List Nat) : headsL n ps (greedyL n ps l) = headsL n ps l := by
  induction l using snoc_ind with
  | h0 => rfl
  | h1 l r ih =>
    rw [greedy_snoc, headsL_snoc, ih]
    split
    · rw [headsL_snoc, ih]
    · rename_i h
      rw [ih, mrg_same (by omega)]
theorem greedy_mem {n : Nat} {ps : List (Nat × Nat)} (l : List Nat) : ∀ r ∈ greedyL n ps l, r ∈ l := by
  induction l using snoc_ind with
  | h0 => simp [greedyL]
  | h1 l x ih =>
    rw [greedy_snoc]
    intro r hr
    split at hr
    · rcases List.mem_append.mp hr with h | h
      · exact List.mem_append_left _ (ih r h)
      · exact List.mem_append_right _ h
    · exact List.mem_append_left _ (ih r hr)
structure HdOk (n : Nat) (ps : List (Nat × Nat)) (l : List Nat) : Prop where
  le : ∀ v, v < n → nth (headsL n ps l) v ≤ v
  idem : ∀ v, v < n → nth (headsL n ps l) (nth (headsL n ps l) v) = nth (headsL n ps l) v
  road : ∀ r ∈ l, nth (headsL n ps l) (prA ps r).1 = nth (headsL n ps l) (prA ps r).2
  lab : ∀ c : Nat → Nat, (∀ p ∈ sub ps (greedyL n ps l), c p.1 = c p.2) → ∀ v, v < n → c v = c (nth (headsL n ps l) v)
  cnt : (rootsL n (headsL n ps l)).length + (greedyL n ps l).length = n
theorem filter_none {l : List Nat} {M : Nat} (hm : M ∉ l) : (l.filter fun v => !decide (v = M)) = l := by
  rw [List.filter_eq_self]
  intro v hv
  have : v ≠ M := fun e => hm (e ▸ hv)
  simp [this]
theorem filter_one {l : List Nat} {M : Nat} (hn : l.Nodup) (hm : M ∈ l) : (l.filter fun v => !decide (v = M)).length + 1 = l.length := by
  induction l with
  | nil => cases hm
  | cons x r ih =>
    rw [List.nodup_cons] at hn
    by_cases h : x = M
    · subst h
      rw [List.filter_cons_of_neg (by simp), filter_none hn.1, List.length_cons]
    · rw [List.filter_cons_of_pos (by simpa using h), List.length_cons, List.length_cons]
      rcases List.mem_cons.mp hm with e | e
      · exact absurd e.symm h
      · rw [ih hn.2 e]
theorem filter_just {l : List Nat} {M : Nat} (hn : l.Nodup) (hm : M ∈ l) : (l.filter fun v => decide (v = M)).length = 1 := by
  induction l with
  | nil => cases hm
  | cons x r ih =>
    rw [List.nodup_cons] at hn
    by_cases h : x = M
    · subst h
      rw [List.filter_cons_of_pos (by simp), List.length_cons]
      have : r.filter (fun v => decide (v = x)) = [] := by
        rw [List.filter_eq_nil_iff]
        intro v hv
        have : v ≠ x := fun e => hn.1 (e ▸ hv)
        simp [this]
      rw [this]; rfl
    · rw [List.filter_cons_of_neg (by simpa using h)]
      rcases List.mem_cons.mp hm with e | e
      · exact absurd e.symm h
      · exact ih hn.2 e
theorem hdOk {n : Nat} {ps : List (Nat × Nat)} (f : FrOk n ps) (l : List Nat) (hl : ∀ r ∈ l, r < ps.length) : HdOk n ps l := by
  induction l using snoc_ind with
  | h0 =>
    have h0 : headsL n ps [] = List.range n := rfl
    refine ⟨fun v hv => ?_, fun v hv => ?_, fun r hr => (nomatch hr), fun c _ v hv => ?_, ?_⟩
    · rw [h0, nth_range hv]; exact Nat.le_refl _
    · rw [h0, nth_range hv, nth_range hv]
    · rw [h0, nth_range hv]
    · rw [h0]
      have : rootsL n (List.range n) = List.range n := by
        unfold rootsL
        rw [List.filter_eq_self]
        intro v hv
        rw [nth_range (List.mem_range.mp hv)]
        simp
      rw [this]
      simp [greedyL]
  | h1 l r ih =>
    have ih := ih fun x hx => hl x (List.mem_append_left _ hx)
    have hr := hl r (by simp)
    obtain ⟨ha, hb⟩ := f.pr hr
    have hlen : (headsL n ps l).length = n := headsL_len
    have key : ∀ v, v < n → nth (headsL n ps (l ++ [r])) v = if nth (headsL n ps l) v = max (nth (headsL n ps l) (prA ps r).1) (nth (headsL n ps l) (prA ps r).2) then min (nth (headsL n ps l) (prA ps r).1) (nth (headsL n ps l) (prA ps r).2) else nth (headsL n ps l) v := fun v hv => by
      rw [headsL_snoc, nth_mrg (by omega)]
    have la := ih.le _ ha
    have lb := ih.le _ hb
    have ia := ih.idem _ ha
    have ib := ih.idem _ hb
    generalize hA : nth (headsL n ps l) (prA ps r).1 = A at *
    generalize hB : nth (headsL n ps l) (prA ps r).2 = B at *
    have iM : nth (headsL n ps l) (max A B) = max A B := by
      rcases Nat.le_total A B with h | h
      · rw [Nat.max_eq_right h]; exact ib
      · rw [Nat.max_eq_left h]; exact ia
    have im : nth (headsL n ps l) (min A B) = min A B := by
      rcases Nat.le_total A B with h | h
      · rw [Nat.min_eq_left h]; exact ia
      · rw [Nat.min_eq_right h]; exact ib
    have hMn : max A B < n := by omega
    have hmn : min A B < n := by omega
    refine ⟨fun v hv => ?_, fun v hv => ?_, fun x hx => ?_, fun c hc v hv => ?_, ?_⟩
    · have := ih.le v hv
      rw [key v hv]; split <;> omega
    · rw [key v hv]
      have hv' := ih.le v hv
      split
      · rename_i h
        rw [key _ hmn, im]
        split <;> omega
      · rename_i h
        rw [key _ (by omega), ih.idem v hv, if_neg h]
    · have hx' := hl x hx
      obtain ⟨xa, xb⟩ := f.pr hx'
      rw [key _ xa, key _ xb]
      rcases List.mem_append.mp hx with h | h
      · rw [ih.road x h]
      · have : x = r := by simpa using h
        subst this
        rw [hA, hB]
        split <;> split <;> omega
    · rw [key v hv]
      rw [greedy_snoc, heads_greedy, hA, hB] at hc
      by_cases hAB : A = B
      · rw [if_neg (by omega)] at hc
        have := ih.lab c hc v hv
        split
        · rename_i h
          rw [this, h]
          congr 1; omega
        · exact this
      · rw [if_pos hAB] at hc
        have hc1 : ∀ p ∈ sub ps (greedyL n ps l), c p.1 = c p.2 := fun p hp => hc p (by unfold sub; rw [List.map_append]; exact List.mem_append_left _ hp)
        have hc2 : c (prA ps r).1 = c (prA ps r).2 := hc _ (by unfold sub; rw [List.map_append]; simp)
        have e1 := ih.lab c hc1 v hv
        have e2 := ih.lab c hc1 _ ha
        have e3 := ih.lab c hc1 _ hb
        rw [hA] at e2
        rw [hB] at e3
        have e4 : c A = c B := by rw [← e2, ← e3]; exact hc2
        split
        · rename_i h
          rw [e1, h]
          rcases Nat.le_total A B with q | q
          · rw [Nat.max_eq_right q, Nat.min_eq_left q]; exact e4.symm
          · rw [Nat.max_eq_left q, Nat.min_eq_right q]; exact e4
        · exact e1
    · rw [greedy_snoc, heads_greedy, hA, hB]
      by_cases hAB : A = B
      · rw [if_neg (by omega)]
        have : headsL n ps (l ++ [r]) = headsL n ps l := by rw [headsL_snoc, mrg_same (by rw [hA, hB]; exact hAB)]
        rw [this]
        exact ih.cnt
      · rw [if_pos hAB]
        have : rootsL n (headsL n ps (l ++ [r])) = (rootsL n (headsL n ps l)).filter fun v => !decide (v = max A B) := by
          unfold rootsL
          rw [List.filter_filter]
          apply List.filter_congr
          intro v hv
          have hv' := List.mem_range.mp hv
          rw [key v hv', Bool.eq_iff_iff]
          simp only [decide_eq_true_eq, Bool.and_eq_true, Bool.not_eq_true', decide_eq_false_iff_not]
          constructor
          · intro h
            split at h
            · rename_i h1
              rw [← h] at h1
              rw [im] at h1
              omega
            · rename_i h1
              refine ⟨fun z => ?_, h⟩
              rw [z] at h h1
              omega
          · rintro ⟨h1, h2⟩
            rw [if_neg (by omega)]
            exact h2
        have hM : max A B ∈ rootsL n (headsL n ps l) := by
          unfold rootsL
          rw [List.mem_filter]
          exact ⟨List.mem_range.mpr hMn, by simpa using iM⟩
        have hnd : (rootsL n (headsL n ps l)).Nodup := List.Nodup.sublist List.filter_sublist List.nodup_range
        have := filter_one hnd hM
        have hc := ih.cnt
        rw [List.length_append, List.length_singleton]
        rw [‹rootsL n (headsL n ps (l ++ [r])) = _›]
        omega
/-- the frame hangs together -/
def Conn (n : Nat) (ps : List (Nat × Nat)) : Prop := ConnV n ps
theorem prA_mem {ps : List (Nat × Nat)} {p : Nat × Nat} (h : p ∈ ps) : ∃ r, r < ps.length ∧ prA ps r = p := by
  obtain ⟨r, hr, e⟩ := List.mem_iff_getElem.mp h
  refine ⟨r, hr, ?_⟩
  have := prA_get hr
  rw [List.getElem?_eq_getElem hr] at this
  rw [← e]; exact (Option.some.inj this).symm
theorem conn_heads {n : Nat} {ps : List (Nat × Nat)} (f : FrOk n ps) (hc : Conn n ps) {l : List Nat} (hl : ∀ r ∈ l, r < ps.length) (hall : ∀ r, r < ps.length → r ∈ l) : ∀ v, v < n → nth (headsL n ps l) v = 0 := by
  intro v hv
  have H := hdOk f l hl
  have h1 := hc (fun v => nth (headsL n ps l) v) (fun p hp => by
    obtain ⟨r, hr, e⟩ := prA_mem hp
    have := H.road r (hall r hr)
    rw [e] at this; exact this) v hv
  have h2 := H.le 0 (by have := f.n1; omega)
  have h1' : nth (headsL n ps l) v = nth (headsL n ps l) 0 := h1
  omega
theorem conn_roots {n : Nat} {ps : List (Nat × Nat)} (f : FrOk n ps) (hc : Conn n ps) {l : List Nat} (hl : ∀ r ∈ l, r < ps.length) (hall : ∀ r, r < ps.length → r ∈ l) : (rootsL n (headsL n ps l)).length = 1 := by
  have hz := conn_heads f hc hl hall
  have e : rootsL n (headsL n ps l) = (List.range n).filter fun v => decide (v = 0) := by
    unfold rootsL
    apply List.filter_congr
    intro v hv
    rw [hz v (List.mem_range.mp hv)]
    congr 1
    exact propext eq_comm
  rw [e]
  exact filter_just List.nodup_range (List.mem_range.mpr (by have := f.n1; omega))
theorem span_greedy {n : Nat} {ps : List (Nat × Nat)} (f : FrOk n ps) (hc : Conn n ps) {l : List Nat} (hl : ∀ r ∈ l, r < ps.length) (hall : ∀ r, r < ps.length → r ∈ l) : Span n ps (greedyL n ps l) := by
  have H := hdOk f l hl
  refine ⟨fun r hr => hl r (greedy_mem l r hr), ?_, fun c h v hv => ?_⟩
  · have := conn_roots f hc hl hall
    have := H.cnt
    omega
  · have h1 := H.lab c h v hv
    rw [conn_heads f hc hl hall v hv] at h1
    exact h1
theorem Span.perm {n : Nat} {ps : List (Nat × Nat)} {T T' : List Nat} (s : Span n ps T) (h : T'.Perm T) : Span n ps T' :=
  ⟨fun r hr => s.lt r (h.subset hr), by rw [h.length_eq]; exact s.len, fun c hc => s.conn c fun p hp => hc p ((h.symm.map (prA ps)).subset hp)⟩
/-- with one crossing more, alone -/
theorem apart_roots {n : Nat} {ps : List (Nat × Nat)} (f : FrOk n ps) (hn : n + 1 ≤ 1000) : (rootsL (n + 1) (allHeads (n + 1) ps)).length ≠ 1 := by
  have f' : FrOk (n + 1) ps := ⟨by omega, hn, f.m, fun p hp => ⟨by have := (f.lt p hp).1; omega, by have := (f.lt p hp).2; omega⟩⟩
  have H := hdOk f' (List.range ps.length) fun r hr => List.mem_range.mp hr
  have alone : ∀ l : List Nat, (∀ r ∈ l, r < ps.length) → nth (headsL (n + 1) ps l) n = n := by
    intro l
    induction l using snoc_ind with
    | h0 => intro _; exact nth_range (by omega)
    | h1 l r ih =>
      intro hl
      have ih := ih fun x hx => hl x (List.mem_append_left _ hx)
      have hr := hl r (by simp)
      obtain ⟨ha, hb⟩ := f.pr hr
      have H' := hdOk f' l fun x hx => hl x (List.mem_append_left _ hx)
      have la := H'.le _ (show (prA ps r).1 < n + 1 by omega)
      have lb := H'.le _ (show (prA ps r).2 < n + 1 by omega)
      rw [headsL_snoc, nth_mrg (by rw [headsL_len]; omega), ih, if_neg (by omega)]
  have h0 : 0 ∈ rootsL (n + 1) (allHeads (n + 1) ps) := by
    unfold rootsL
    rw [List.mem_filter]
    have := H.le 0 (by omega)
    exact ⟨List.mem_range.mpr (by omega), decide_eq_true (by unfold allHeads; omega)⟩
  have h1 : n ∈ rootsL (n + 1) (allHeads (n + 1) ps) := by
    unfold rootsL
    rw [List.mem_filter]
    exact ⟨List.mem_range.mpr (by omega), decide_eq_true (alone _ fun r hr => List.mem_range.mp hr)⟩
  intro hlen
  match hh : rootsL (n + 1) (allHeads (n + 1) ps), hlen with
  | [x], _ =>
    rw [hh] at h0 h1
    simp at h0 h1
    have := f.n1
    omega
end DL
set_option Elab.async false
set_option linter.all false
set_option maxRecDepth 100000
set_option maxHeartbeats 1000000
set_option autoImplicit false
namespace DL
open PySem PySem.Spec PyProof.Rows L2 DZ
def prE (p : (Nat × Nat) × Nat) : PyData := .tuple [natD p.2, prD p.1]
theorem enD_prs (ps : List (Nat × Nat)) : enD (ps.map prD) = ps.zipIdx.map prE := by
  unfold enD
  apply List.ext_getElem?
  intro i
  simp [List.getElem?_mapIdx, List.getElem?_zipIdx, prE]
  cases ps[i]? <;> rfl
theorem zipIdx_pre {α : Type} {ps : List α} {p q : List (α × Nat)} {a : α × Nat} (h : ps.zipIdx = p ++ a :: q) : p.map (·.2) = List.range p.length ∧ a.2 = p.length ∧ ps[a.2]? = some a.1 := by
  have hl : p.length < ps.zipIdx.length := by rw [h]; simp
  have e1 : ps.zipIdx.map (·.2) = List.range ps.length := by
    rw [List.zipIdx_map_snd, List.range_eq_range']
  have e2 : ps.zipIdx[p.length]? = some a := by rw [h]; simp
  have e3 : a.2 = p.length := by
    have := congrArg (fun l => l[p.length]?) e1
    simp only [List.getElem?_map, e2] at this
    rw [List.getElem?_range (by simpa using hl)] at this
    simpa using this
  refine ⟨?_, e3, ?_⟩
  · have hl' : p.length < ps.length := by simpa using hl
    apply List.ext_getElem (by simp)
    intro i h1 h2
    have h3 := congrArg (fun l => l[i]?) e1
    have h4 : i < p.length := by simpa using h1
    simp only [List.getElem?_map] at h3
    rw [h, List.getElem?_append_left h4, List.getElem?_eq_getElem h4, List.getElem?_range (by omega)] at h3
    rw [List.getElem_map, List.getElem_range]
    simpa using h3
  · rw [List.getElem?_zipIdx] at e2
    rw [e3]
    match hh : ps[p.length]? with
    | none => rw [hh] at e2; cases e2
    | some x => rw [hh] at e2; simp at e2; rw [← e2]
def sTold : DSp := fun cs P => ∃ n ps, cs = [.sh (frD n ps)] ∧ FrOk n ps ∧ P (.tuple (natsD (greedyL n ps (List.range ps.length))))
theorem zero_empty : natsD ([] : List Nat) = [] := rfl
theorem h_told_tree : ∀ cs Q, cs.length = 1 → sTold cs Q → w_told_tree ⟨fun _ => Q .none, Q⟩ (envOf ["frame", "heads", "found", "road", "a", "b", "low", "high", "head"] cs) := by
  rintro cs Q _ ⟨n, ps, rfl, f, q⟩
  have hn := f.n2
  have hm := f.m
  simp [w_told_tree, wVar_sh, rgD_nats, enD_prs]
  refine ⟨by omega, ?_⟩
  refine for_all prE ps.zipIdx (fun pre env => ∃ x3 x4 x5 x6 x7, env = [some (.sh (frD n ps)), some (.sh (.list (natsD (headsL n ps (pre.map (·.2)))))), some (.ow (.list (natsD (greedyL n ps (pre.map (·.2)))))), x3, x4, x5, x6, x7, none]) ⟨_, _, _, _, _, rfl⟩ ?_ ?_
  · rintro p r q' e env Kn ⟨x3, x4, x5, x6, x7, rfl⟩ hK
    obtain ⟨e1, e2, e3⟩ := zipIdx_pre e
    have hr : r.2 < ps.length := (List.getElem?_eq_some_iff.mp e3).1
    have er : prA ps r.2 = r.1 := Option.some.inj ((prA_get hr).symm.trans e3)
    obtain ⟨ha, hb⟩ := f.pr hr
    have hlen : (headsL n ps (p.map (·.2))).length = n := headsL_len
    have hg : (greedyL n ps (p.map (·.2))).length ≤ 1000 := by
      have := (hdOk f (p.map (·.2)) (fun r hr => by rw [e1, List.mem_range] at hr; omega)).cnt
      omega
    have hK' := hK
    simp only [List.map_append, List.map_cons, List.map_nil] at hK'
    rw [greedy_snoc, headsL_snoc, heads_greedy, er] at hK'
    rw [er] at ha hb
    simp [prE, prD, wVar_sh, -Bool.exists_bool]
    generalize headsL n ps (p.map (·.2)) = hs at *
    generalize greedyL n ps (p.map (·.2)) = G at *
    refine ⟨_, nth_at (by omega), _, nth_at (by omega), ?_⟩
    generalize hx : nth hs r.1.1 = x at *
    generalize hy : nth hs r.1.2 = y at *
    simp [wVar_sh, -Bool.exists_bool]
    refine ⟨_, nth_at (by omega), _, nth_at (by omega), ?_⟩
    rw [hx, hy]
    simp [wVar_sh, -Bool.exists_bool]
    have eL : PyData.int (if y < x then (y : Int) else x) = natD (min x y) := by
      simp only [natD]; congr 1; split <;> omega
    have eH : PyData.int (if x < y then (y : Int) else x) = natD (max x y) := by
      simp only [natD]; congr 1; split <;> omega
    rw [eL, eH]
    refine ⟨decide (x ≠ y), ?_, ?_⟩
    · rw [Bool.eq_iff_iff]
      simp
      split <;> split <;> omega
    by_cases hxy : x = y
    · simp [hxy]
      refine hK' _ ?_
      rw [mrg_same (by rw [hx, hy, hxy]), if_neg (by simpa using hxy)]
      exact ⟨_, _, _, _, _, rfl⟩
    · rw [if_pos (by simpa using hxy)]
      simp [wMeth, owL, slD, appB, wVar_sh, wipeN, -Bool.exists_bool]
      refine ⟨lt_line (by omega), ?_⟩
      refine comp_of natD (fun h => some (natD (if h = max x y then min x y else h))) hs [] (by have := line_ge; simp; omega) (fun h hh acc C hacc hC => ?_) ?_
      · simp [wVar_sh, wipeN, -Bool.exists_bool] at hC ⊢
        by_cases h1 : h = max x y
        · rw [if_pos h1] at hC
          rw [if_pos (by omega)]
          exact ⟨hacc, hC⟩
        · rw [if_neg h1] at hC
          rw [if_neg (by omega)]
          exact ⟨hacc, hC⟩
      · rw [fm_some, List.nil_append]
        have key : hs.map (fun h => natD (if h = max x y then min x y else h)) = natsD (mrgL hs r.1.1 r.1.2) := by
          rw [mrgL, natsD, List.map_map, hx, hy]; rfl
        rw [key]
        rw [if_pos hxy] at hK'
        have e0 : List.map natD G ++ [natD r.2] = natsD (G ++ [r.2]) := by simp [natsD]
        simp [backN, backAt]
        rw [e0]
        exact hK' _ ⟨_, _, _, _, _, rfl⟩
  · rintro env ⟨x3, x4, x5, x6, x7, rfl⟩
    rw [List.zipIdx_map_snd, ← List.range_eq_range']
    simpa [wVar_ow] using q
/-- one step of the law's trees: found + [r] * int(..) -/
theorem step_tree {n : Nat} {ps : List (Nat × Nat)} {l : List Nat} {r : Nat} : greedyL n ps (l ++ [r]) = greedyL n ps l ++ (if nth (headsL n ps l) (prA ps r).1 ≠ nth (headsL n ps l) (prA ps r).2 then [r] else []) := by
  rw [greedy_snoc, heads_greedy]
  split <;> simp
theorem h_law_told_tree : ∀ cs Q, cs.length = 1 → sTold cs Q → w__law_told_tree sHeadsBy ⟨fun _ => Q .none, Q⟩ (envOf ["frame", "found", "r", "a", "b", "heads"] cs) := by
  rintro cs Q _ ⟨n, ps, rfl, f, q⟩
  have hn := f.n2
  have hm := f.m
  simp [w__law_told_tree, wVar_sh, enD_prs]
  refine for_all prE ps.zipIdx (fun pre env => ∃ x2 x3 x4 x5, env = [some (.sh (frD n ps)), some (.sh (.list (natsD (greedyL n ps (pre.map (·.2)))))), x2, x3, x4, x5]) ⟨_, _, _, _, rfl⟩ ?_ ?_
  · rintro p r q' e env Kn ⟨x2, x3, x4, x5, rfl⟩ hK
    obtain ⟨e1, e2, e3⟩ := zipIdx_pre e
    have hr : r.2 < ps.length := (List.getElem?_eq_some_iff.mp e3).1
    have er : prA ps r.2 = r.1 := Option.some.inj ((prA_get hr).symm.trans e3)
    obtain ⟨ha, hb⟩ := f.pr hr
    have hlen : (headsL n ps (p.map (·.2))).length = n := headsL_len
    have hg : (greedyL n ps (p.map (·.2))).length ≤ 1000 := by
      have := (hdOk f (p.map (·.2)) (fun r hr => by rw [e1, List.mem_range] at hr; omega)).cnt
      omega
    have hK' := hK
    simp only [List.map_append, List.map_cons, List.map_nil] at hK'
    rw [step_tree, er] at hK'
    rw [er] at ha hb
    simp [prE, prD, wVar_sh, -Bool.exists_bool]
    refine ⟨by omega, n, ps, p.map (·.2), _, rfl, f, ?_, fun x hx => ?_, ?_⟩
    · rw [e1, e2, rgD_nats]; rfl
    · rw [e1, List.mem_range] at hx; omega
    generalize headsL n ps (p.map (·.2)) = hs at *
    generalize greedyL n ps (p.map (·.2)) = G at *
    generalize hx : nth hs r.1.1 = x at *
    generalize hy : nth hs r.1.2 = y at *
    simp [wVar_sh, -Bool.exists_bool]
    refine ⟨le_line (by decide), _, nth_at (by omega), _, nth_at (by omega), ?_⟩
    rw [hx, hy]
    simp [wVar_sh, -Bool.exists_bool]
    have hL := line_ge
    by_cases hxy : x = y
    · rw [if_neg (by simpa using hxy)] at hK'
      simp [hxy]
      refine ⟨by omega, hK' _ ?_⟩
      rw [List.append_nil]
      exact ⟨_, _, _, _, rfl⟩
    · rw [if_pos (by simpa using hxy)] at hK'
      rw [if_neg (show ¬ (x : Int) = y by omega)]
      simp
      refine ⟨by omega, by omega, hK' _ ?_⟩
      have e0 : List.map natD G ++ [natD r.2] = natsD (G ++ [r.2]) := by simp [natsD]
      rw [e0]
      exact ⟨_, _, _, _, rfl⟩
  · rintro env ⟨x2, x3, x4, x5, rfl⟩
    rw [List.zipIdx_map_snd, ← List.range_eq_range']
    simpa [wVar_sh] using q
end DL
set_option Elab.async false
set_option linter.all false
set_option maxRecDepth 100000
set_option maxHeartbeats 1000000
set_option autoImplicit false
namespace DL
open PySem PySem.Spec PyProof.Rows L2 DZ
theorem perm_map_of {α β : Type} {f : α → β} : ∀ {es ds : List β}, es.Perm ds → ∀ {xs : List α}, ds = xs.map f → ∃ l : List α, l.Perm xs ∧ es = l.map f := by
  intro es ds h
  induction h with
  | nil =>
    intro xs e
    have : xs = [] := by simpa using e.symm
    subst this; exact ⟨[], .nil, rfl⟩
  | cons x _ ih =>
    intro xs e
    match xs, e with
    | y :: ys, e =>
      simp only [List.map_cons, List.cons.injEq] at e
      obtain ⟨l, h1, h2⟩ := ih e.2
      exact ⟨y :: l, h1.cons y, by rw [List.map_cons, h2, e.1]⟩
  | swap x y l =>
    intro xs e
    match xs, e with
    | a :: b :: ys, e =>
      simp only [List.map_cons, List.cons.injEq] at e
      exact ⟨b :: a :: ys, List.Perm.swap _ _ _, by rw [List.map_cons, List.map_cons, e.1, e.2.1, e.2.2]⟩
  | trans _ _ ih1 ih2 =>
    intro xs e
    obtain ⟨l, h1, h2⟩ := ih2 e
    obtain ⟨l', h3, h4⟩ := ih1 h2
    exact ⟨l', h3.trans h1, h4⟩
theorem sortedC_nats {T : List Nat} {P : PyData → Prop} (h : ∀ T' : List Nat, T'.Perm T → P (.list (natsD T'))) : sortedC [.list (natsD T)] P := by
  refine ⟨T.map (fun k : Nat => (k : Int)), by simp [natsD, Function.comp_def], fun ms h1 h2 => ?_⟩
  obtain ⟨T', h3, h4⟩ := perm_map_of (f := fun k : Nat => (k : Int)) h1 rfl
  have := h T' h3
  rw [h4]
  simpa [natsD, Function.comp_def] using this
def sDrawnTree : DSp := fun cs P => ∃ n ps, cs = [.src, .sh (frD n ps)] ∧ FrOk n ps ∧ Conn n ps ∧ ∀ T, Span n ps T → P (.tuple (natsD T))
theorem h_law_drawn_tree : ∀ cs Q, cs.length = 2 → sDrawnTree cs Q → w__law_drawn_tree sMixed sHeadsBy ⟨fun _ => Q .none, Q⟩ (envOf ["source", "frame", "found", "r", "a", "b", "heads"] cs) := by
  rintro cs Q _ ⟨n, ps, rfl, f, hc, q⟩
  have hn := f.n2
  have hm := f.m
  have hL := line_ge
  simp [w__law_drawn_tree, wVar_sh]
  refine ⟨by omega, _, _, rfl, rfl, by rw [rgD_nats]; simp; omega, fun es hp => ?_⟩
  rw [rgD_nats] at hp
  obtain ⟨l, h1, rfl⟩ := perm_map_of hp rfl
  have hlt : ∀ r ∈ l, r < ps.length := fun r hr => List.mem_range.mp (h1.subset hr)
  simp
  refine for_all natD l (fun pre env => ∃ x3 x4 x5 x6, env = [some .src, some (.sh (frD n ps)), some (.sh (.list (natsD (greedyL n ps pre)))), x3, x4, x5, x6]) ⟨_, _, _, _, rfl⟩ ?_ ?_
  · rintro p r q' e env Kn ⟨x3, x4, x5, x6, rfl⟩ hK
    have hr : r < ps.length := hlt r (by rw [e]; simp)
    have hpl : ∀ x ∈ p, x < ps.length := fun x hx => hlt x (by rw [e]; simp [hx])
    obtain ⟨ha, hb⟩ := f.pr hr
    have hlen : (headsL n ps p).length = n := headsL_len
    have hg : (greedyL n ps p).length ≤ 1000 := by
      have := (hdOk f p hpl).cnt
      omega
    have hK' := hK
    rw [step_tree] at hK'
    simp [wVar_sh, -Bool.exists_bool]
    refine ⟨_, atI_prs (prA_get hr), ?_⟩
    simp [prD, wVar_sh, -Bool.exists_bool]
    refine ⟨n, ps, greedyL n ps p, _, rfl, f, rfl, fun x hx => hpl x (greedy_mem p x hx), ?_⟩
    rw [heads_greedy]
    generalize headsL n ps p = hs at *
    generalize greedyL n ps p = G at *
    generalize hx : nth hs (prA ps r).1 = x at *
    generalize hy : nth hs (prA ps r).2 = y at *
    simp [wVar_sh, -Bool.exists_bool]
    refine ⟨le_line (by decide), _, nth_at (by omega), _, nth_at (by omega), ?_⟩
    rw [hx, hy]
    simp [wVar_sh, -Bool.exists_bool]
    by_cases hxy : x = y
    · rw [if_neg (by simpa using hxy)] at hK'
      simp [hxy]
      refine ⟨by omega, hK' _ ?_⟩
      rw [List.append_nil]
      exact ⟨_, _, _, _, rfl⟩
    · rw [if_pos (by simpa using hxy)] at hK'
      rw [if_neg (show ¬ (x : Int) = y by omega)]
      simp
      refine ⟨by omega, by omega, hK' _ ?_⟩
      have e0 : List.map natD G ++ [natD r] = natsD (G ++ [r]) := by simp [natsD]
      rw [e0]
      exact ⟨_, _, _, _, rfl⟩
  · rintro env ⟨x3, x4, x5, x6, rfl⟩
    have hs := span_greedy f hc hlt fun r hr => h1.symm.subset (List.mem_range.mpr hr)
    simp [wVar_sh]
    exact sortedC_nats fun T' hT => by simpa using q T' (hs.perm hT)
end DL
set_option Elab.async false
set_option linter.all false
set_option maxRecDepth 100000
set_option maxHeartbeats 1000000
set_option autoImplicit false
namespace DL
open PySem PySem.Spec PyProof.Rows L2 DZ
/-! ## dicts whose keys are crossings -/
section
variable {β : Type}
def lk (l : List (Nat × β)) (v : Nat) : Option β := (l.find? fun p => decide (p.1 = v)).map (·.2)
def kvE (enc : β → PyData) (p : Nat × β) : PyData × PyData := (natD p.1, enc p.2)
def mapD (enc : β → PyData) (l : List (Nat × β)) : PyData := .dict (l.map (kvE enc))
@[simp] theorem kOf_nat {v : Nat} : kOf (natD v) = some (.inl (v : Int)) := rfl
theorem kv_key {enc : β → PyData} {p : Nat × β} {v : Nat} : decide (kOf (kvE enc p).1 = some (.inl (v : Int))) = decide (p.1 = v) := by
  rw [Bool.eq_iff_iff]
  simp [kvE]
  omega
theorem look_map {enc : β → PyData} {l : List (Nat × β)} {v : Nat} : dLook (l.map (kvE enc)) (.inl (v : Int)) = (lk l v).map enc := by
  unfold dLook lk
  rw [List.find?_map]
  simp only [Function.comp_def, kv_key, Option.map_map]
  rfl
theorem put_map {enc : β → PyData} {l : List (Nat × β)} {v : Nat} {x : β} (h : lk l v = none) : dPut (l.map (kvE enc)) (.inl (v : Int)) (enc x) = (l ++ [(v, x)]).map (kvE enc) := by
  unfold dPut
  rw [if_neg]
  · simp [kvE, keyD, natD]
  · simp only [lk, Option.map_eq_none_iff, List.find?_eq_none] at h
    simp only [List.any_map, List.any_eq_true, not_exists, not_and, Function.comp_def, kv_key]
    intro p hp
    exact h p hp
theorem lk_snoc {l : List (Nat × β)} {v w : Nat} {x : β} (h : lk l v = none) : lk (l ++ [(v, x)]) w = if v = w then some x else lk l w := by
  unfold lk at *
  rw [List.find?_append]
  by_cases hv : v = w
  · subst hv
    have h' : l.find? (fun p => decide (p.1 = v)) = none := by simpa using h
    rw [if_pos rfl, h']
    simp
  · rw [if_neg hv]
    cases l.find? (fun p => decide (p.1 = w)) <;> simp [hv]
theorem lk_mem {l : List (Nat × β)} {v : Nat} {x : β} (h : lk l v = some x) : v ∈ l.map (·.1) := by
  unfold lk at h
  obtain ⟨p, h1, h2⟩ := Option.map_eq_some_iff.mp h
  have := List.find?_some h1
  have h3 := List.mem_of_find?_eq_some h1
  exact List.mem_map.mpr ⟨p, h3, by simpa using this⟩
end
theorem cover_len : ∀ (n : Nat) (ks : List Nat), (∀ v, v < n → v ∈ ks) → n ≤ ks.length
  | 0, _, _ => Nat.zero_le _
  | n + 1, ks, h => by
    have h1 := h n (by omega)
    have h2 := cover_len n (ks.erase n) fun v hv => (List.mem_erase_of_ne (by omega)).mpr (h v (by omega))
    rw [List.length_erase_of_mem h1] at h2
    have := List.length_pos_of_mem h1
    omega
theorem map_erase_inj {α β : Type} [DecidableEq α] [BEq β] [LawfulBEq β] {f : α → β} (hf : ∀ a b, f a = f b → a = b) (a : α) : ∀ l : List α, (l.map f).erase (f a) = (l.erase a).map f
  | [] => rfl
  | x :: l => by
    by_cases h : x = a
    · subst h; simp
    · have h' : ¬ f x = f a := fun e => h (hf _ _ e)
      rw [List.map_cons, List.erase_cons_tail (by simpa using h'), List.erase_cons_tail (by simpa using h), map_erase_inj hf a l, List.map_cons]
/-! ## heights along a tree -/
/-- heights that rise as a row tells along roads -/
def Rises (ps : List (Nat × Nat)) (row hs : List Int) (T : List Nat) : Prop := ∀ r ∈ T, ith hs (prA ps r).2 - ith hs (prA ps r).1 = ith row r
def sAlong : DSp := fun cs P => ∃ n ps d T row, cs = [.sh (frD n ps), .sh d, .sh (rowD row)] ∧ FrOk n ps ∧ itemsOf d = some (natsD T) ∧ Span n ps T ∧ row.length = ps.length ∧ ∀ hs : List Int, hs.length = n → ith hs 0 = 0 → Rises ps row hs T → P (rowD hs)
structure Met (n : Nat) (ps : List (Nat × Nat)) (T : List Nat) (row : List Int) (l : List (Nat × Int)) (L : List Nat) : Prop where
  len : l.length + L.length = n
  zero : lk l 0 = some 0
  sub : ∀ r ∈ L, r ∈ T
  done : ∀ r ∈ T, r ∉ L → ∃ x y, lk l (prA ps r).1 = some x ∧ lk l (prA ps r).2 = some y ∧ y - x = ith row r
theorem Met.all {n : Nat} {ps : List (Nat × Nat)} {T : List Nat} {row : List Int} {l : List (Nat × Int)} {L : List Nat} (s : Span n ps T) (m : Met n ps T row l L) (h : ∀ r ∈ L, (lk l (prA ps r).1).isSome = (lk l (prA ps r).2).isSome) : ∀ v, v < n → (lk l v).isSome = true := by
  have := s.conn (fun v => if (lk l v).isSome = true then 1 else 0) (fun p hp => by
    obtain ⟨r, hr, e⟩ := List.mem_map.mp hp
    subst e
    by_cases hL : r ∈ L
    · simp only [h r hL]
    · obtain ⟨x, y, h1, h2, _⟩ := m.done r hr hL
      simp only [h1, h2, Option.isSome_some])
  intro v hv
  have := this v hv
  simp only [m.zero, Option.isSome_some] at this
  by_cases h : (lk l v).isSome = true
  · exact h
  · rw [if_neg h] at this; simp at this
theorem Met.some {n : Nat} {ps : List (Nat × Nat)} {T : List Nat} {row : List Int} {l : List (Nat × Int)} {L : List Nat} (s : Span n ps T) (m : Met n ps T row l L) (h : L ≠ []) : ∃ r ∈ L, (lk l (prA ps r).1).isSome ≠ (lk l (prA ps r).2).isSome := by
  apply Classical.byContradiction
  intro hno
  have hall := m.all s fun r hr => Classical.byContradiction fun hne => hno ⟨r, hr, hne⟩
  have := cover_len n (l.map (·.1)) fun v hv => by
    obtain ⟨x, hx⟩ := Option.isSome_iff_exists.mp (hall v hv)
    exact lk_mem hx
  have h1 := m.len
  have h2 := List.length_pos_iff.mpr h
  simp at this
  omega
abbrev intD (x : Int) : PyData := .int x
theorem eqv_nats0 (L : List Nat) : PyData.eqv (.list (natsD L)) (.list []) = decide (L = []) := by
  cases L <;> simp [PyData.eqv, PyData.eqvAll]
theorem eqv_bool (a b : Bool) : PyData.eqv (.bool a) (.bool b) = decide (a = b) := by cases a <;> cases b <;> simp [PyData.eqv] <;> rfl
theorem shp_lnats {T : List Nat} : SeqAt.shaped (.list (natsD T)) = true := shaped_of (shp_lst (n := 0) shp_nats)
theorem shp_tnats {T : List Nat} : SeqAt.shaped (.tuple (natsD T)) = true := shaped_of (shp_tup (n := 0) shp_nats)
theorem ith_range {n v : Nat} {g : Nat → Int} (h : v < n) : ith ((List.range n).map g) v = g v := by
  unfold ith; rw [List.getD_eq_getElem?_getD, List.getElem?_map, List.getElem?_range h]; rfl
@[simp] theorem kOf_int {i : Int} : kOf (.int i) = some (.inl i) := rfl
def alT : WT := wTest (wEqN true 4 (wC (.list [])))
def alB2 : WS := (wSeqS (wAsg (wBin ixB (wBin ixB (wVar 0) (wC (.int 1))) (wVar 6)) (wGtup 2 (wGcons (wName 7) (wGcons (wName 8) wGnil))))
    (wSeqS (wIfS (wTest (wDinN false 3 (wVar 7))) (wSetDk 3 (wBin addB (wDgN 3 (wVar 7)) (wBin ixB (wVar 2) (wVar 6))) (wVar 8)) (wSetDk 3 (wBin subB (wDgN 3 (wVar 8)) (wBin ixB (wVar 2) (wVar 6))) (wVar 7)))
    (wExpr (wMeth 4 (wCons (wVar 6) wNil) remB))))
def alB : WS := (wSeqS (wSet 6 (wBin ixB (wCompN 4 (wName 5) (wTest (wBin neB (wDinN false 3 (wBin ixB (wBin ixB (wBin ixB (wVar 0) (wC (.int 1))) (wVar 5)) (wC (.int 0)))) (wDinN false 3 (wBin ixB (wBin ixB (wBin ixB (wVar 0) (wC (.int 1))) (wVar 5)) (wC (.int 1)))))) (wVar 5) [5]) (wC (.int 0))))
    alB2)
def alE : WS := (wRet (wCall (wCons (wComp (wRg1 (wBin ixB (wVar 0) (wC (.int 0)))) (wName 9) wYes (wDgN 3 (wVar 9)) [9]) wNil) tupleC))
theorem al_split : w_heights_along = (wSeqS (wPar 3 4 .o .o (wDict1 (wC (.int 0)) (wC (.int 0))) (wCall (wCons (wVar 1) wNil) listC)) (wSeqS (wWhile alT alB) alE)) := rfl
theorem al_loop {n : Nat} {ps : List (Nat × Nat)} {d : PyData} {T : List Nat} {row : List Int} {D : DE} (f : FrOk n ps) (s : Span n ps T) (hrow : row.length = ps.length)
    (hend : ∀ l, Met n ps T row l [] → ∀ x6 x7 x8, D.nx [some (.sh (frD n ps)), some (.sh d), some (.sh (rowD row)), some (.ow (mapD intD l)), some (.ow (.list [])), none, x6, x7, x8, none]) :
    ∀ (k : Nat) (l : List (Nat × Int)) (L : List Nat), L.length = k → Met n ps T row l L → ∀ x6 x7 x8, ∃ m, whileL alT alB D m [some (.sh (frD n ps)), some (.sh d), some (.sh (rowD row)), some (.ow (mapD intD l)), some (.ow (.list (natsD L))), none, x6, x7, x8, none] := by
  intro k
  have hn := f.n2
  have hm := f.m
  have hLn := line_ge
  induction k with
  | zero =>
    intro l L hk m x6 x7 x8
    refine ⟨1, ?_⟩
    have hLe : L = [] := List.eq_nil_of_length_eq_zero hk
    subst hLe
    simp [whileL, alT, wEqN, slD, -Bool.exists_bool]
    refine ⟨shp_lnats (T := []), false, ?_, by simpa using hend l m x6 x7 x8⟩
    simpa using eqv_nats0 []
  | succ k ih =>
    intro l L hk m x6 x7 x8
    have hLe : L ≠ [] := by rintro rfl; simp at hk
    obtain ⟨r0, hr0, hne⟩ := m.some s hLe
    have hM : ∃ r R, L.filter (fun r => decide ((lk l (prA ps r).1).isSome ≠ (lk l (prA ps r).2).isSome)) = r :: R := by
      cases hh : L.filter (fun r => decide ((lk l (prA ps r).1).isSome ≠ (lk l (prA ps r).2).isSome)) with
      | nil =>
        rw [List.filter_eq_nil_iff] at hh
        exact absurd (decide_eq_true hne) (hh r0 hr0)
      | cons r R => exact ⟨r, R, rfl⟩
    obtain ⟨r, R, hM⟩ := hM
    have hr : r ∈ L.filter (fun r => decide ((lk l (prA ps r).1).isSome ≠ (lk l (prA ps r).2).isSome)) := by
      rw [hM]; exact List.mem_cons_self
    obtain ⟨hrL, hrne⟩ := List.mem_filter.mp hr
    have hrne := of_decide_eq_true hrne
    have hrm : r < ps.length := s.lt r (m.sub r hrL)
    obtain ⟨ha, hb⟩ := f.pr hrm
    -- what the next lap takes over
    have step : ∀ (v : Nat) (x : Int), lk l v = none → (∃ y z, lk (l ++ [(v, x)]) (prA ps r).1 = some y ∧ lk (l ++ [(v, x)]) (prA ps r).2 = some z ∧ z - y = ith row r) → ∀ x6 x7 x8, ∃ m, whileL alT alB D m [some (.sh (frD n ps)), some (.sh d), some (.sh (rowD row)), some (.ow (mapD intD (l ++ [(v, x)]))), some (.ow (.list (natsD (L.erase r)))), none, x6, x7, x8, none] := by
      intro v x hv hrr
      have hlen := List.length_erase_of_mem hrL
      have hpos := List.length_pos_iff.mpr hLe
      refine ih _ _ (by omega) ⟨by have := m.len; simp; omega, ?_, fun x hx => m.sub x (List.mem_of_mem_erase hx), fun r' hr' hno => ?_⟩
      · rw [lk_snoc hv]
        split
        · rename_i e; rw [e, m.zero] at hv; cases hv
        · exact m.zero
      · by_cases e : r' = r
        · subst e; exact hrr
        · obtain ⟨y, z, h1, h2, h3⟩ := m.done r' hr' fun hin => hno ((List.mem_erase_of_ne e).mpr hin)
          refine ⟨y, z, ?_, ?_, h3⟩
          · rw [lk_snoc hv, if_neg (fun e => by rw [e, h1] at hv; cases hv)]; exact h1
          · rw [lk_snoc hv, if_neg (fun e => by rw [e, h2] at hv; cases hv)]; exact h2
    -- the lap
    have lap : ∀ m, (∀ e, e = [some (.sh (frD n ps)), some (.sh d), some (.sh (rowD row)), some (.ow (mapD intD l)), some (.ow (.list (natsD L))), none, some (.sh (natD r)), x7, x8, none] → alB2 ⟨fun e => whileL alT alB D m e, D.rt⟩ e) → whileL alT alB D (m + 1) [some (.sh (frD n ps)), some (.sh d), some (.sh (rowD row)), some (.ow (mapD intD l)), some (.ow (.list (natsD L))), none, x6, x7, x8, none] := by
      intro mm hh
      simp only [whileL]
      generalize whileL alT alB D mm = W at hh ⊢
      unfold alT alB
      simp [wEqN, slD, eqv_nats0, hLe, -Bool.exists_bool]
      refine ⟨shp_lnats, shp_lnats (T := []), ?_⟩
      simp [wCompN, wVar_sh, wipeN, -Bool.exists_bool]
      refine comp_of natD (fun r => if decide ((lk l (prA ps r).1).isSome ≠ (lk l (prA ps r).2).isSome) = true then some (natD r) else none) L [] (by have := m.len; simp; omega) (fun c hc acc C hacc hC => ?_) ?_
      · have hcm := s.lt c (m.sub c hc)
        simp [wDinN, slD, wVar_sh, wipeN, -Bool.exists_bool] at hC ⊢
        refine ⟨_, atI_prs (prA_get hcm), ?_⟩
        simp [prD, mapD, look_map, -Bool.exists_bool] at hC ⊢
        refine ⟨_, atI_prs (prA_get hcm), ?_⟩
        simp [prD, look_map, eqv_bool, -Bool.exists_bool]
        by_cases hq : (lk l (prA ps c).1).isSome = (lk l (prA ps c).2).isSome
        · rw [if_pos hq] at hC
          refine ⟨false, by simpa using hq, ?_⟩
          simpa using hC
        · rw [if_neg hq] at hC
          refine ⟨true, by simpa using hq, ?_⟩
          simpa [hacc] using hC
      · rw [fm_if, hM]
        simp [backN, backAt]
        exact ⟨natD r, atI_get (j := 0) rfl, hh _ rfl⟩
    have goOn : ∀ (v : Nat) (x : Int) (x6 x7 x8 : Option Sl) (W : Nv → Prop), W [some (.sh (frD n ps)), some (.sh d), some (.sh (rowD row)), some (.ow (mapD intD (l ++ [(v, x)]))), some (.ow (.list (natsD (L.erase r)))), none, x6, x7, x8, none] → x6 = some (.sh (natD r)) →
        wMeth 4 (wCons (wVar 6) wNil) remB [some (.sh (frD n ps)), some (.sh d), some (.sh (rowD row)), some (.ow (mapD intD (l ++ [(v, x)]))), some (.ow (.list (natsD L))), none, x6, x7, x8, none] (fun _ e => W e) := by
      intro v x x6 x7 x8 m h e6
      subst e6
      simp [wMeth, owL, wVar_sh, remB]
      refine ⟨L.map (fun k : Nat => (k : Int)), by simp [natsD, Function.comp_def], List.mem_map.mpr ⟨r, hrL, rfl⟩, ?_⟩
      rw [map_erase_inj (f := fun k : Nat => (k : Int)) (fun a b h => Int.ofNat_inj.mp h)]
      simpa [natsD, Function.comp_def] using h
    have hllen : l.length < sizeLine := by have := m.len; omega
    have hrow' : r < row.length := by omega
    cases hA : lk l (prA ps r).1 with
    | some x =>
      cases hB : lk l (prA ps r).2 with
      | some y => rw [hA, hB] at hrne; exact absurd rfl hrne
      | none =>
        obtain ⟨mm, hmm⟩ := step (prA ps r).2 (x + ith row r) hB ⟨x, x + ith row r, by rw [lk_snoc hB, if_neg (fun e => by rw [e, hA] at hB; cases hB)]; exact hA, by rw [lk_snoc hB, if_pos rfl], by omega⟩ (some (.sh (natD r))) (some (.sh (natD (prA ps r).1))) (some (.sh (natD (prA ps r).2)))
        refine ⟨mm + 1, lap mm fun e he => ?_⟩
        subst he
        generalize whileL alT alB D mm = W at hmm ⊢
        simp [alB2, wVar_sh]
        refine ⟨_, atI_prs (prA_get hrm), ?_⟩
        simp [prD, wDinN, slD, mapD, look_map, hA, wVar_sh]
        simp [wSetDk, wDgN, slD, look_map, hA, wVar_sh, rowD]
        refine ⟨_, ith_at hrow', ?_⟩
        simp
        refine ⟨hllen, ?_⟩
        rw [show (PyData.int (x + ith row r)) = intD (x + ith row r) from rfl, put_map hB]
        exact goOn _ _ _ _ _ _ hmm rfl
    | none =>
      cases hB : lk l (prA ps r).2 with
      | none => rw [hA, hB] at hrne; exact absurd rfl hrne
      | some y =>
        obtain ⟨mm, hmm⟩ := step (prA ps r).1 (y - ith row r) hA ⟨y - ith row r, y, by rw [lk_snoc hA, if_pos rfl], by rw [lk_snoc hA, if_neg (fun e => by rw [e, hB] at hA; cases hA)]; exact hB, by omega⟩ (some (.sh (natD r))) (some (.sh (natD (prA ps r).1))) (some (.sh (natD (prA ps r).2)))
        refine ⟨mm + 1, lap mm fun e he => ?_⟩
        subst he
        generalize whileL alT alB D mm = W at hmm ⊢
        simp [alB2, wVar_sh]
        refine ⟨_, atI_prs (prA_get hrm), ?_⟩
        simp [prD, wDinN, slD, mapD, look_map, hA, wVar_sh]
        simp [wSetDk, wDgN, slD, look_map, hB, wVar_sh, rowD]
        refine ⟨_, ith_at hrow', ?_⟩
        simp
        refine ⟨hllen, ?_⟩
        rw [show (PyData.int (y - ith row r)) = intD (y - ith row r) from rfl, put_map hA]
        exact goOn _ _ _ _ _ _ hmm rfl
theorem h_heights_along : ∀ cs Q, cs.length = 3 → sAlong cs Q → w_heights_along ⟨fun _ => Q .none, Q⟩ (envOf ["frame", "tree", "row", "found", "left", "one", "road", "a", "b", "crossing"] cs) := by
  rintro cs Q _ ⟨n, ps, d, T, row, rfl, f, hd, s, hrow, q⟩
  have hn := f.n2
  have hn1 := f.n1
  have hm := f.m
  have hL := line_ge
  rw [al_split]
  simp [wVar_sh, wDict1, hd]
  show ∃ m, whileL alT alB _ m _
  refine al_loop (l := [(0, 0)]) (L := T) f s hrow (fun l m x6 x7 x8 => ?_) _ rfl ⟨by have := s.len; simp; omega, rfl, fun _ h => h, fun r h1 h2 => absurd h1 h2⟩ none none none
  have hk := m.all s (fun r hr => (nomatch hr))
  simp [alE, wVar_sh, wipeN]
  rw [rgD_nats]
  refine ⟨by omega, ?_⟩
  refine comp_of natD (fun c => some (.int ((lk l c).getD 0))) (List.range n) [] (by simp; omega) (fun c hc acc C hacc hC => ?_) ?_
  · have hc' := List.mem_range.mp hc
    obtain ⟨x, hx⟩ := Option.isSome_iff_exists.mp (hk c hc')
    simp [wDgN, slD, wVar_sh, wipeN, mapD, look_map, hx] at hC ⊢
    exact ⟨hacc, hC⟩
  · rw [fm_some, List.nil_append]
    have := q ((List.range n).map fun c => (lk l c).getD 0) (by simp) ?_ ?_
    · simpa [rowD, Function.comp_def] using this
    · rw [ith_range (by omega), m.zero]; rfl
    · intro r hr
      obtain ⟨h1, h2⟩ := f.pr (s.lt r hr)
      obtain ⟨x, y, h3, h4, h5⟩ := m.done r hr (fun h => (nomatch h))
      rw [ith_range h1, ith_range h2, h3, h4]
      exact h5
end DL
set_option Elab.async false
set_option linter.all false
set_option maxRecDepth 100000
set_option maxHeartbeats 1000000
set_option autoImplicit false
namespace DL
open PySem PySem.Spec PyProof.Rows L2 DZ
theorem eqv_row {a b : List Int} : PyData.eqv (rowD a) (rowD b) = decide (a = b) := by
  show PyData.eqvAll (a.map .int) (b.map .int) = _
  exact eqvAll_inj (fun x y => eqv_int) a b
theorem items_row {a : List Int} : itemsOf (rowD a) = some (intsD a) := rfl
theorem tup_row {a : List Int} : PyData.tuple (a.map .int) = rowD a := rfl
theorem shp_row {a : List Int} : Shp 1 (rowD a) := shp_tup (n := 0) fun d hd => by
  obtain ⟨x, _, rfl⟩ := List.mem_map.mp hd
  exact shp_int
theorem shaped_row {a : List Int} : SeqAt.shaped (rowD a) = true := shaped_of shp_row
theorem ConnV.int {n : Nat} {es : List (Nat × Nat)} (h : ConnV n es) (z : Nat → Int) (hz : ∀ p ∈ es, z p.1 = z p.2) : ∀ v, v < n → z v = z 0 := by
  intro v hv
  have := h (fun v => if z v = z 0 then 0 else 1) (fun p hp => by simp only [hz p hp]) v hv
  by_cases e : z v = z 0
  · exact e
  · simp [e] at this
theorem ith_ext {xs ys : List Int} {n : Nat} (h1 : xs.length = n) (h2 : ys.length = n) (h : ∀ v, v < n → ith xs v = ith ys v) : xs = ys := by
  apply List.ext_getElem?
  intro v
  by_cases hv : v < n
  · rw [ith_get (by omega), ith_get (by omega), h v hv]
  · rw [List.getElem?_eq_none (by omega), List.getElem?_eq_none (by omega)]
theorem ith_cut {ps : List (Nat × Nat)} {hs : List Int} {r : Nat} (h : r < ps.length) : ith (cutL ps hs) r = ith hs (prA ps r).2 - ith hs (prA ps r).1 := by
  unfold ith cutL
  rw [List.getD_eq_getElem?_getD, List.getElem?_map, prA_get h]; rfl
/-- the heights, 0 at crossing 0, of a cut row, or none -/
def HtsOf (n : Nat) (ps : List (Nat × Nat)) (row : List Int) : Option (List Int) → Prop
  | some hs => hs.length = n ∧ ith hs 0 = 0 ∧ cutL ps hs = row
  | none => ∀ hs : List Int, hs.length = n → cutL ps hs ≠ row
def optD : Option (List Int) → PyData
  | some hs => rowD hs
  | none => .none
theorem htsOf_ex {n : Nat} {ps : List (Nat × Nat)} (f : FrOk n ps) (row : List Int) : ∃ o, HtsOf n ps row o := by
  by_cases h : ∃ hs : List Int, hs.length = n ∧ cutL ps hs = row
  · obtain ⟨hs, h1, h2⟩ := h
    have hn := f.n1
    have e : ∀ v, v < n → ith (hs.map fun x => x - ith hs 0) v = ith hs v - ith hs 0 := fun v hv => by
      show List.getD _ _ _ = _
      rw [List.getD_eq_getElem?_getD, List.getElem?_map, ith_get (by omega)]; rfl
    refine ⟨some (hs.map fun x => x - ith hs 0), by simpa using h1, ?_, ?_⟩
    · rw [e 0 (by omega)]; omega
    · rw [← h2]
      unfold cutL
      apply List.map_congr_left
      intro p hp
      obtain ⟨ha, hb⟩ := f.lt p hp
      rw [e _ ha, e _ hb]; omega
  · exact ⟨none, fun hs h1 h2 => h ⟨hs, h1, h2⟩⟩
/-- heights that every heights of the row would be -/
theorem hts_cand {n : Nat} {ps : List (Nat × Nat)} {row hs : List Int} {o : Option (List Int)} (h : HtsOf n ps row o) (hl : hs.length = n) (hc : ∀ hs' : List Int, hs'.length = n → ith hs' 0 = 0 → cutL ps hs' = row → hs' = hs) : optD o = if cutL ps hs = row then rowD hs else .none := by
  cases o with
  | some hs' =>
    obtain ⟨h1, h2, h3⟩ := h
    have := hc hs' h1 h2 h3
    subst this
    rw [if_pos h3]; rfl
  | none => rw [if_neg (h hs hl)]; rfl
theorem rises_one {n : Nat} {ps : List (Nat × Nat)} {T : List Nat} {row hs hs' : List Int} (s : Span n ps T) (h1 : hs.length = n) (h2 : hs'.length = n) (z1 : ith hs 0 = 0) (z2 : ith hs' 0 = 0) (r1 : Rises ps row hs T) (r2 : Rises ps row hs' T) : hs' = hs := by
  refine ith_ext h2 h1 fun v hv => ?_
  have := s.conn.int (fun v => ith hs' v - ith hs v) (fun p hp => by
    obtain ⟨r, hr, e⟩ := List.mem_map.mp hp
    subst e
    have := r1 r hr
    have := r2 r hr
    show ith hs' (prA ps r).1 - ith hs (prA ps r).1 = ith hs' (prA ps r).2 - ith hs (prA ps r).2
    omega) v hv
  simp only [z1, z2] at this
  omega
def sHeights : DSp := fun cs P => ∃ n ps row o, cs = [.sh (frD n ps), .sh (rowD row)] ∧ FrOk n ps ∧ Conn n ps ∧ row.length = ps.length ∧ HtsOf n ps row o ∧ P (optD o)
theorem h_heights_of_cut : ∀ cs Q, cs.length = 2 → sHeights cs Q → w_heights_of_cut sAlong sTold sCut ⟨fun _ => Q .none, Q⟩ (envOf ["frame", "row", "heights"] cs) := by
  rintro cs Q _ ⟨n, ps, row, o, rfl, f, hc, hl, ho, q⟩
  have hT : Span n ps (greedyL n ps (List.range ps.length)) := span_greedy f hc (fun r hr => List.mem_range.mp hr) fun r hr => List.mem_range.mpr hr
  simp [w_heights_of_cut, wVar_sh, -Bool.exists_bool]
  refine ⟨n, ps, rfl, f, n, ps, _, _, row, rfl, f, rfl, hT, hl, fun hs h1 h2 h3 => ?_⟩
  have := hts_cand ho h1 fun hs' g1 g2 g3 => rises_one hT h1 g1 h2 g2 h3 fun r hr => by
    rw [← g3, ith_cut (hT.lt r hr)]
  simp [wVar_sh, -Bool.exists_bool]
  refine ⟨n, ps, hs, _, rfl, f, rfl, h1, ?_⟩
  rw [this] at q
  simp [items_row, tup_row, wVar_sh, eqv_row, -Bool.exists_bool]
  refine ⟨shaped_row, shaped_row, ?_⟩
  by_cases hq : cutL ps hs = row
  · rw [if_pos hq] at q; rw [if_pos hq]; exact q
  · rw [if_neg hq] at q; rw [if_neg hq]; exact q
def sIsCut : DSp := fun cs P => ∃ n ps row o, cs = [.sh (frD n ps), .sh (rowD row)] ∧ FrOk n ps ∧ Conn n ps ∧ row.length = ps.length ∧ HtsOf n ps row o ∧ P (.bool o.isSome)
theorem h_is_cut_row : ∀ cs Q, cs.length = 2 → sIsCut cs Q → w_is_cut_row sHeights ⟨fun _ => Q .none, Q⟩ (envOf ["frame", "row"] cs) := by
  rintro cs Q _ ⟨n, ps, row, o, rfl, f, hc, hl, ho, q⟩
  simp [w_is_cut_row, wVar_sh, -Bool.exists_bool]
  refine ⟨n, ps, row, o, rfl, f, hc, hl, ho, ?_⟩
  cases o <;> simpa [optD, rowD, isNone] using q
end DL
set_option Elab.async false
set_option linter.all false
set_option maxRecDepth 100000
set_option maxHeartbeats 1000000
set_option autoImplicit false
namespace DL
open PySem PySem.Spec PyProof.Rows L2 DZ
theorem nodup_le : ∀ (n : Nat) (ks : List Nat), ks.Nodup → (∀ v ∈ ks, v < n) → ks.length ≤ n
  | 0, ks, _, h => by
    match ks, h with
    | [], _ => exact Nat.le_refl _
    | k :: ks, h => exact absurd (h k List.mem_cons_self) (by omega)
  | n + 1, ks, hn, h => by
    by_cases h1 : n ∈ ks
    · have h2 := nodup_le n (ks.erase n) (hn.sublist List.erase_sublist) fun v hv => by
        have h3 := h v (List.mem_of_mem_erase hv)
        have h4 : v ≠ n := fun e => by
          subst e
          exact (List.Nodup.mem_erase_iff hn).mp hv |>.1 rfl
        omega
      rw [List.length_erase_of_mem h1] at h2
      omega
    · have := nodup_le n ks hn fun v hv => by
        have h3 := h v hv
        have h4 : v ≠ n := fun e => h1 (e ▸ hv)
        omega
      omega
/-- heights that are known of -/
structure Known (n : Nat) (ps : List (Nat × Nat)) (row : List Int) (l : List (Nat × Int)) : Prop where
  zero : lk l 0 = some 0
  nd : (l.map (·.1)).Nodup
  lt : ∀ v ∈ l.map (·.1), v < n
  faith : ∀ hs' : List Int, hs'.length = n → ith hs' 0 = 0 → cutL ps hs' = row → ∀ v x, lk l v = some x → x = ith hs' v
theorem lk_none {β : Type} {l : List (Nat × β)} {v : Nat} (h : lk l v = none) : v ∉ l.map (·.1) := by
  unfold lk at h
  simp only [Option.map_eq_none_iff, List.find?_eq_none] at h
  intro hv
  obtain ⟨p, h1, h2⟩ := List.mem_map.mp hv
  exact h p h1 (decide_eq_true h2)
theorem Known.snoc {n : Nat} {ps : List (Nat × Nat)} {row : List Int} {l : List (Nat × Int)} {v : Nat} {x : Int} (k : Known n ps row l) (h : lk l v = none) (hv : v < n) (hx : ∀ hs' : List Int, hs'.length = n → ith hs' 0 = 0 → cutL ps hs' = row → x = ith hs' v) : Known n ps row (l ++ [(v, x)]) := by
  refine ⟨?_, ?_, ?_, fun hs' h1 h2 h3 w y hy => ?_⟩
  · rw [lk_snoc h]
    split
    · rename_i e; rw [e, k.zero] at h; cases h
    · exact k.zero
  · rw [List.map_append, List.map_cons, List.map_nil, List.nodup_append]
    refine ⟨k.nd, by simp, fun a ha b hb => ?_⟩
    have : b = v := by simpa using hb
    subst this
    exact fun e => lk_none h (e ▸ ha)
  · intro w hw
    rw [List.map_append, List.mem_append] at hw
    rcases hw with e | e
    · exact k.lt w e
    · have : w = v := by simpa using e
      omega
  · rw [lk_snoc h] at hy
    split at hy
    · rename_i e; subst e; cases hy; exact hx hs' h1 h2 h3
    · exact k.faith hs' h1 h2 h3 w y hy
theorem Known.len {n : Nat} {ps : List (Nat × Nat)} {row : List Int} {l : List (Nat × Int)} (k : Known n ps row l) : l.length ≤ n := by
  have := nodup_le n _ k.nd k.lt
  simpa using this
theorem zip_mem_fst {α β : Type} : ∀ {as : List α} {bs : List β}, bs.length = as.length → ∀ a ∈ as, ∃ b, (a, b) ∈ as.zip bs
  | a :: as, b :: bs, h, c, hc => by
    rcases List.mem_cons.mp hc with e | e
    · subst e; exact ⟨b, List.mem_cons_self⟩
    · obtain ⟨b', hb'⟩ := zip_mem_fst (by simpa using h) c e
      exact ⟨b', List.mem_cons_of_mem _ hb'⟩
theorem zip_map_mem {α β : Type} {g : α → β} : ∀ {as : List α} {q : α × β}, q ∈ as.zip (as.map g) → q.2 = g q.1
  | a :: as, q, h => by
    rcases List.mem_cons.mp h with e | e
    · subst e; rfl
    · exact zip_map_mem e
theorem ext_some {β : Type} {l more : List (Nat × β)} {v : Nat} (h : (lk l v).isSome = true) : (lk (l ++ more) v).isSome = true := by
  unfold lk at *
  rw [List.find?_append]
  obtain ⟨x, hx⟩ := Option.isSome_iff_exists.mp h
  obtain ⟨p, h1, _⟩ := Option.map_eq_some_iff.mp hx
  rw [h1]; rfl
def lhB : WS := (wSeqS (wIfS (wAndT (wTest (wDinN false 2 (wVar 4))) (wTest (wDinN true 2 (wVar 5)))) (wSetDk 2 (wBin addB (wDgN 2 (wVar 4)) (wVar 6)) (wVar 5)) wNilS)
    (wIfS (wAndT (wTest (wDinN false 2 (wVar 5))) (wTest (wDinN true 2 (wVar 4)))) (wSetDk 2 (wBin subB (wDgN 2 (wVar 5)) (wVar 6)) (wVar 4)) wNilS))
theorem lh_step {n : Nat} {ps : List (Nat × Nat)} {row : List Int} {l : List (Nat × Int)} {q : Rd} {fr x3 x7 x8 : Option Sl} {x1 : Sl} {rt : PyData → Prop} {Kn : Nv → Prop} (hn : n ≤ 1000) (k : Known n ps row l) (hq : q.1.1 < n ∧ q.1.2 < n) (hf : ∀ hs' : List Int, cutL ps hs' = row → q.2 = ith hs' q.1.2 - ith hs' q.1.1)
    (h : ∀ more, Known n ps row (l ++ more) → ((lk l q.1.1).isSome = true ∨ (lk l q.1.2).isSome = true → (lk (l ++ more) q.1.1).isSome = true ∧ (lk (l ++ more) q.1.2).isSome = true) → Kn [fr, some x1, some (.ow (mapD intD (l ++ more))), x3, some (.sh (natD q.1.1)), some (.sh (natD q.1.2)), some (.sh (.int q.2)), x7, x8]) :
    lhB ⟨Kn, rt⟩ [fr, some x1, some (.ow (mapD intD l)), x3, some (.sh (natD q.1.1)), some (.sh (natD q.1.2)), some (.sh (.int q.2)), x7, x8] := by
  have hL := line_ge
  have hlen := k.len
  unfold lhB
  cases hA : lk l q.1.1 with
  | some x =>
    cases hB : lk l q.1.2 with
    | some y =>
      simp [wDinN, slD, mapD, look_map, hA, hB, wVar_sh, -Bool.exists_bool]
      have := h [] (by simpa using k) (by simp [hA, hB])
      simpa [mapD] using this
    | none =>
      have k' := k.snoc hB hq.2 (x := x + q.2) fun hs' h1 h2 h3 => by
        have := k.faith hs' h1 h2 h3 _ _ hA
        have := hf hs' h3
        omega
      have e1 : lk (l ++ [(q.1.2, x + q.2)]) q.1.1 = some x := by rw [lk_snoc hB, if_neg (fun e => by rw [e, hA] at hB; cases hB)]; exact hA
      have e2 : lk (l ++ [(q.1.2, x + q.2)]) q.1.2 = some (x + q.2) := by rw [lk_snoc hB, if_pos rfl]
      have := h _ k' (by simp [e1, e2])
      simp [wDinN, slD, mapD, look_map, hA, hB, wVar_sh, wSetDk, wDgN, -Bool.exists_bool]
      refine ⟨by omega, ?_⟩
      rw [show (PyData.int (x + q.2)) = intD (x + q.2) from rfl, put_map hB]
      simp [look_map, e1, e2, -Bool.exists_bool, -List.map_append]
      simpa [mapD] using this
  | none =>
    cases hB : lk l q.1.2 with
    | some y =>
      have k' := k.snoc hA hq.1 (x := y - q.2) fun hs' h1 h2 h3 => by
        have := k.faith hs' h1 h2 h3 _ _ hB
        have := hf hs' h3
        omega
      have e1 : lk (l ++ [(q.1.1, y - q.2)]) q.1.2 = some y := by rw [lk_snoc hA, if_neg (fun e => by rw [e, hB] at hA; cases hA)]; exact hB
      have e2 : lk (l ++ [(q.1.1, y - q.2)]) q.1.1 = some (y - q.2) := by rw [lk_snoc hA, if_pos rfl]
      have := h _ k' (by simp [e1, e2])
      simp [wDinN, slD, mapD, look_map, hA, hB, wVar_sh, wSetDk, wDgN, -Bool.exists_bool]
      refine ⟨by omega, ?_⟩
      rw [show (PyData.int (y - q.2)) = intD (y - q.2) from rfl, put_map hA]
      simpa [mapD] using this
    | none =>
      simp [wDinN, slD, mapD, look_map, hA, hB, wVar_sh, -Bool.exists_bool]
      have := h [] (by simpa using k) (by simp [hA, hB])
      simpa [mapD] using this
theorem lh_split : w__law_heights sCut = (wSeqS (wSetO 2 (wDict1 (wC (.int 0)) (wC (.int 0))))
    (wSeqS (wFor (wRg1 (wBin ixB (wVar 0) (wC (.int 0)))) (wName 3) (wFor (wZip false (wBin ixB (wVar 0) (wC (.int 1))) (wVar 1)) (wGtup 2 (wGcons (wGtup 2 (wGcons (wName 4) (wGcons (wName 5) wGnil))) (wGcons (wName 6) wGnil))) lhB))
    (wSeqS (wSet 8 (wCall (wCons (wComp (wRg1 (wBin ixB (wVar 0) (wC (.int 0)))) (wName 7) wYes (wDgN 2 (wVar 7)) [7]) wNil) tupleC))
    (wRet (wIf (wTest (wBin eqB (wUser sCut (wcD (wVar 0) (wcD (wVar 8) wc0))) (wCall (wCons (wVar 1) wNil) tupleC))) (wVar 8) (wC .none)))))) := rfl
theorem h_law_heights : ∀ cs Q, cs.length = 2 → sHeights cs Q → w__law_heights sCut ⟨fun _ => Q .none, Q⟩ (envOf ["frame", "row", "known", "lap", "a", "b", "number", "c", "heights"] cs) := by
  rintro cs Q _ ⟨n, ps, row, o, rfl, f, hc, hl, ho, q⟩
  have hn := f.n2
  have hn1 := f.n1
  have hm := f.m
  have hL := line_ge
  rw [lh_split]
  simp [wVar_sh, wDict1, -Bool.exists_bool]
  refine ⟨by omega, ?_⟩
  rw [rgD_nats]
  refine for_all natD (List.range n) (fun pre env => ∃ l x3 x4 x5 x6, env = [some (.sh (frD n ps)), some (.sh (rowD row)), some (.ow (mapD intD l)), x3, x4, x5, x6, none, none] ∧ Known n ps row l ∧ ((∀ v, v < n → (lk l v).isSome = true) ∨ pre.length + 1 ≤ l.length)) ?_ ?_ ?_
  · refine ⟨[(0, 0)], none, none, none, none, rfl, ⟨rfl, by simp, fun v hv => ?_, fun hs' h1 h2 h3 v x hx => ?_⟩, .inr (by simp)⟩
    · have : v = 0 := by simpa using hv
      omega
    · unfold lk at hx
      by_cases hv : v = 0
      · subst hv; simp at hx; omega
      · simp [Ne.symm hv] at hx
  · rintro p v q' e env Kn ⟨l, x3, x4, x5, x6, rfl, k, hk⟩ hK
    simp [wVar_sh, items_row, zipD_rd, -Bool.exists_bool]
    refine for_all rdD (ps.zip row) (fun pre env => ∃ more x4 x5 x6, env = [some (.sh (frD n ps)), some (.sh (rowD row)), some (.ow (mapD intD (l ++ more))), some (.sh (natD v)), x4, x5, x6, none, none] ∧ Known n ps row (l ++ more) ∧ ∀ q ∈ pre, (lk l q.1.1).isSome = true ∨ (lk l q.1.2).isSome = true → (lk (l ++ more) q.1.1).isSome = true ∧ (lk (l ++ more) q.1.2).isSome = true) ?_ ?_ ?_
    · exact ⟨[], _, _, _, by rw [List.append_nil], by rw [List.append_nil]; exact k, fun q hq => (nomatch hq)⟩
    · rintro p2 q q2 e2 env Kn2 ⟨more, x4, x5, x6, rfl, k2, hcl⟩ hK2
      have hqm : q ∈ ps.zip row := by rw [e2]; simp
      simp [rdD, prD]
      refine lh_step hn k2 (zip_lt f hqm) (fun hs' h3 => ?_) fun m2 k3 h3 => ?_
      · subst h3
        exact zip_map_mem hqm
      · rw [List.append_assoc] at k3 h3 ⊢
        refine hK2 _ ⟨more ++ m2, _, _, _, rfl, k3, fun q3 hq3 h4 => ?_⟩
        rcases List.mem_append.mp hq3 with h5 | h5
        · have := hcl q3 h5 h4
          rw [← List.append_assoc]
          exact ⟨ext_some this.1, ext_some this.2⟩
        · have : q3 = q := by simpa using h5
          subst this
          exact h3 (h4.imp ext_some ext_some)
    · rintro env ⟨more, x4, x5, x6, rfl, k2, hcl⟩
      refine hK _ ⟨l ++ more, _, _, _, _, rfl, k2, ?_⟩
      rcases hk with hk | hk
      · exact .inl fun v hv => ext_some (hk v hv)
      · cases more with
        | cons z more => exact .inr (by simp; omega)
        | nil =>
          rw [List.append_nil] at hcl ⊢
          refine .inl fun v hv => ?_
          have := hc (fun v => if (lk l v).isSome = true then 1 else 0) (fun p hp => by
            obtain ⟨b, hb⟩ := zip_mem_fst hl p hp
            have := hcl _ hb
            simp only at this
            by_cases h1 : (lk l p.1).isSome = true
            · simp [this (.inl h1)]
            · by_cases h2 : (lk l p.2).isSome = true
              · exact absurd (this (.inr h2)).1 h1
              · simp [h1, h2]) v hv
          simp only [k.zero, Option.isSome_some] at this
          by_cases h : (lk l v).isSome = true
          · exact h
          · rw [if_neg h] at this; simp at this
  · rintro env ⟨l, x3, x4, x5, x6, rfl, k, hk⟩
    have hall : ∀ v, v < n → (lk l v).isSome = true := by
      rcases hk with h | h
      · exact h
      · have := k.len; simp at h; omega
    simp [wVar_sh, wipeN, -Bool.exists_bool]
    refine ⟨by omega, ?_⟩
    rw [rgD_nats]
    refine comp_of natD (fun c => some (.int ((lk l c).getD 0))) (List.range n) [] (by simp; omega) (fun c hc acc C hacc hC => ?_) ?_
    · have hc' := List.mem_range.mp hc
      obtain ⟨x, hx⟩ := Option.isSome_iff_exists.mp (hall c hc')
      simp [wDgN, slD, wVar_sh, wipeN, mapD, look_map, hx] at hC ⊢
      exact ⟨hacc, hC⟩
    · rw [fm_some, List.nil_append]
      have hh := hts_cand ho (hs := (List.range n).map fun c => (lk l c).getD 0) (by simp) fun hs' h1 h2 h3 => by
        refine ith_ext h1 (n := n) (by simp) fun v hv => ?_
        obtain ⟨x, hx⟩ := Option.isSome_iff_exists.mp (hall v hv)
        rw [ith_range hv, hx, k.faith hs' h1 h2 h3 v x hx]; rfl
      rw [hh] at q
      have e1 : (List.range n).map (fun c => PyData.int ((lk l c).getD 0)) = intsD ((List.range n).map fun c => (lk l c).getD 0) := by simp [Function.comp_def]
      have hlen : ((List.range n).map fun c => (lk l c).getD 0).length = n := by simp
      rw [e1]
      generalize (List.range n).map (fun c => (lk l c).getD 0) = hs at *
      simp [backN, backAt, wVar_sh, -Bool.exists_bool]
      refine ⟨n, ps, hs, _, rfl, f, rfl, hlen, ?_⟩
      simp [items_row, tup_row, wVar_sh, eqv_row, -Bool.exists_bool]
      refine ⟨shaped_row, shaped_row, ?_⟩
      by_cases hq : cutL ps hs = row
      · rw [if_pos hq] at q; rw [if_pos hq]; exact q
      · rw [if_neg hq] at q; rw [if_neg hq]; exact q
end DL
set_option Elab.async false
set_option linter.all false
set_option maxRecDepth 100000
set_option maxHeartbeats 1000000
set_option autoImplicit false
namespace DL
open PySem PySem.Spec PyProof.Rows L2 DZ
/-! ## sums -/
theorem sum_one {k : Nat} {d : Int} : ∀ m, ((List.range m).map fun r => if r = k then d else 0).sum = if k < m then d else 0
  | 0 => rfl
  | m + 1 => by
    rw [List.range_succ, List.map_append, List.sum_append, sum_one m]
    simp only [List.map_cons, List.map_nil, List.sum_cons, List.sum_nil]
    split <;> split <;> split <;> omega
theorem sum_plus {α : Type} {g h : α → Int} : ∀ l : List α, (l.map fun r => g r + h r).sum = (l.map g).sum + (l.map h).sum
  | [] => rfl
  | x :: l => by simp only [List.map_cons, List.sum_cons, sum_plus l]; omega
theorem sum_times {α : Type} {g : α → Int} {t : Int} : ∀ l : List α, (l.map fun r => t * g r).sum = t * (l.map g).sum
  | [] => by simp
  | x :: l => by simp only [List.map_cons, List.sum_cons, sum_times l, Int.mul_add]
/-- what a road adds at a crossing -/
def rt (ps : List (Nat × Nat)) (c r : Nat) : Int := (if (prA ps r).2 = c then 1 else 0) - (if (prA ps r).1 = c then 1 else 0)
def bsum (ps : List (Nat × Nat)) (w : List (Nat × Int)) (c : Nat) : Int := (w.map fun q => q.2 * rt ps c q.1).sum
theorem bsum_snoc {ps : List (Nat × Nat)} {w : List (Nat × Int)} {q : Nat × Int} {c : Nat} : bsum ps (w ++ [q]) c = bsum ps w c + q.2 * rt ps c q.1 := by simp [bsum]
def rowOf (m : Nat) (w : List (Nat × Int)) : List Int := (List.range m).map fun r => (lk w r).getD 0
theorem sum_lk {m : Nat} {t : Nat → Int} (w : List (Nat × Int)) (hn : (w.map (·.1)).Nodup) (hl : ∀ r ∈ w.map (·.1), r < m) : ((List.range m).map fun r => (lk w r).getD 0 * t r).sum = (w.map fun q => q.2 * t q.1).sum := by
  induction w using snoc_ind with
  | h0 =>
    have : ∀ r, (lk ([] : List (Nat × Int)) r).getD 0 * t r = 0 * 0 := fun r => by simp [lk]
    simp only [this, sum_times]
    simp
  | h1 w q ih =>
    rw [List.map_append, List.map_cons, List.map_nil, List.nodup_append] at hn
    have hq : lk w q.1 = none := by
      cases h : lk w q.1 with
      | none => rfl
      | some x => exact absurd rfl (hn.2.2 q.1 (lk_mem h) q.1 (by simp))
    have ih := ih hn.1 fun r hr => hl r (by rw [List.map_append]; exact List.mem_append_left _ hr)
    have hqm := hl q.1 (by simp)
    have e : ∀ r, (lk (w ++ [q]) r).getD 0 * t r = (lk w r).getD 0 * t r + (if r = q.1 then q.2 * t q.1 else 0) := fun r => by
      rw [show q = (q.1, q.2) from rfl, lk_snoc hq]
      by_cases h : q.1 = r
      · subst h; simp [hq]
      · simp [h, Ne.symm h]
    simp only [e, sum_plus, ih, sum_one, if_pos hqm]
    simp
theorem zip_prs {ps : List (Nat × Nat)} {g : Nat → Int} : ps.zip ((List.range ps.length).map g) = (List.range ps.length).map fun r => (prA ps r, g r) := by
  apply List.ext_getElem?
  intro i
  by_cases h : i < ps.length
  · rw [List.getElem?_map, List.getElem?_range h, List.getElem?_zip_eq_some (z := (prA ps i, g i)).mpr ⟨prA_get h, by rw [List.getElem?_map, List.getElem?_range h]; rfl⟩]; rfl
  · rw [List.getElem?_eq_none (by simp; omega), List.getElem?_eq_none (by simp; omega)]
theorem brT_rt {ps : List (Nat × Nat)} {c r : Nat} {x : Int} : brT c (prA ps r, x) = x * rt ps c r := by
  unfold brT rt
  simp only
  split <;> split <;> omega
theorem bring_lk {ps : List (Nat × Nat)} {w : List (Nat × Int)} {c : Nat} (hn : (w.map (·.1)).Nodup) (hl : ∀ r ∈ w.map (·.1), r < ps.length) : bring (ps.zip (rowOf ps.length w)) c = bsum ps w c := by
  unfold bring rowOf bsum
  rw [zip_prs, List.map_map, ← sum_lk w hn hl]
  congr 1
  apply List.map_congr_left
  intro r _
  exact brT_rt
/-! ## ways in a tree -/
structure Way (ps : List (Nat × Nat)) (T : List Nat) (l : List (Nat × List (Nat × Int))) (b v : Nat) (w : List (Nat × Int)) : Prop where
  nd : (w.map (·.1)).Nodup
  ok : ∀ q ∈ w, q.1 ∈ T ∧ (q.2 = 1 ∨ q.2 = -1) ∧ (lk l (prA ps q.1).1).isSome = true ∧ (lk l (prA ps q.1).2).isSome = true
  sum : ∀ c, bsum ps w c = (if v = c then 1 else 0) - (if b = c then 1 else 0)
def Cl (ps : List (Nat × Nat)) (l : List (Nat × List (Nat × Int))) (r v : Nat) : Prop := ((prA ps r).1 = v → (lk l (prA ps r).2).isSome = true) ∧ ((prA ps r).2 = v → (lk l (prA ps r).1).isSome = true)
structure Dfs (n : Nat) (ps : List (Nat × Nat)) (T : List Nat) (b : Nat) (here : Nat) (pre : List Nat) (K : Nat) (l : List (Nat × List (Nat × Int))) (line : List Nat) : Prop where
  base : (lk l b).isSome = true
  nd : (l.map (·.1)).Nodup
  lt : ∀ v ∈ l.map (·.1), v < n
  ways : ∀ v w, lk l v = some w → Way ps T l b v w
  lkn : ∀ v ∈ line, (lk l v).isSome = true
  cl : ∀ v, (lk l v).isSome = true → v ∉ line → ∀ r ∈ T, v ≠ here ∨ r ∈ pre → Cl ps l r v
  fuel : line.length + (n - l.length) = K
theorem Dfs.len {n : Nat} {ps : List (Nat × Nat)} {T : List Nat} {b here : Nat} {pre : List Nat} {K : Nat} {l : List (Nat × List (Nat × Int))} {line : List Nat} (d : Dfs n ps T b here pre K l line) : l.length ≤ n := by
  have := nodup_le n _ d.nd d.lt
  simpa using this
theorem Cl.ext {ps : List (Nat × Nat)} {l more : List (Nat × List (Nat × Int))} {r v : Nat} (h : Cl ps l r v) : Cl ps (l ++ more) r v := ⟨fun e => ext_some (h.1 e), fun e => ext_some (h.2 e)⟩
theorem Dfs.snoc {n : Nat} {ps : List (Nat × Nat)} {T : List Nat} {b here : Nat} {pre : List Nat} {K : Nat} {l : List (Nat × List (Nat × Int))} {line : List Nat} (d : Dfs n ps T b here pre K l line)
    {r y : Nat} {s : Int} {w : List (Nat × Int)} (hr : r ∈ T) (hw : lk l here = some w) (hy : lk l y = none) (hyn : y < n) (hs : (s = 1 ∧ (prA ps r).1 = here ∧ (prA ps r).2 = y) ∨ (s = -1 ∧ (prA ps r).2 = here ∧ (prA ps r).1 = y)) :
    Dfs n ps T b here pre K (l ++ [(y, w ++ [(r, s)])]) (line ++ [y]) := by
  have hW := d.ways here w hw
  have hlt : l.length < n := by
    have := nodup_le n (y :: l.map (·.1)) (List.nodup_cons.mpr ⟨lk_none hy, d.nd⟩) (fun v hv => by
      rcases List.mem_cons.mp hv with e | e
      · omega
      · exact d.lt v e)
    simp at this
    omega
  have hhere : (lk l here).isSome = true := by rw [hw]; rfl
  have yk : (lk (l ++ [(y, w ++ [(r, s)])]) y).isSome = true := by rw [lk_snoc hy, if_pos rfl]; rfl
  refine ⟨ext_some d.base, ?_, ?_, ?_, ?_, ?_, ?_⟩
  · rw [List.map_append, List.map_cons, List.map_nil, List.nodup_append]
    refine ⟨d.nd, by simp, fun a ha c hc => ?_⟩
    have : c = y := by simpa using hc
    subst this
    exact fun e => lk_none hy (e ▸ ha)
  · intro v hv
    rw [List.map_append, List.mem_append] at hv
    rcases hv with e | e
    · exact d.lt v e
    · have : v = y := by simpa using e
      omega
  · intro v w' h
    rw [lk_snoc hy] at h
    split at h
    · rename_i e
      subst e
      cases h
      refine ⟨?_, ?_, ?_⟩
      · rw [List.map_append, List.map_cons, List.map_nil, List.nodup_append]
        refine ⟨hW.nd, by simp, fun a ha c hc => ?_⟩
        have : c = r := by simpa using hc
        subst this
        intro e
        subst e
        obtain ⟨q, hq, e⟩ := List.mem_map.mp ha
        obtain ⟨_, _, k1, k2⟩ := hW.ok q hq
        rw [e] at k1 k2
        rcases hs with ⟨_, _, h3⟩ | ⟨_, _, h3⟩
        · rw [h3, hy] at k2; cases k2
        · rw [h3, hy] at k1; cases k1
      · intro q hq
        rcases List.mem_append.mp hq with h | h
        · obtain ⟨h1, h2, h3, h4⟩ := hW.ok q h
          exact ⟨h1, h2, ext_some h3, ext_some h4⟩
        · have : q = (r, s) := by simpa using h
          subst this
          rcases hs with ⟨h1, h2, h3⟩ | ⟨h1, h2, h3⟩
          · exact ⟨hr, .inl h1, by simp only [h2]; exact ext_some hhere, by simp only [h3]; exact yk⟩
          · exact ⟨hr, .inr h1, by simp only [h3]; exact yk, by simp only [h2]; exact ext_some hhere⟩
      · intro c
        rw [bsum_snoc, hW.sum c]
        unfold rt
        rcases hs with ⟨h1, h2, h3⟩ | ⟨h1, h2, h3⟩
        · simp only [h1, h2, h3]; omega
        · simp only [h1, h2, h3]; omega
    · obtain ⟨h1, h2, h3⟩ := d.ways v w' h
      exact ⟨h1, fun q hq => by
        obtain ⟨k1, k2, k3, k4⟩ := h2 q hq
        exact ⟨k1, k2, ext_some k3, ext_some k4⟩, h3⟩
  · intro v hv
    rcases List.mem_append.mp hv with e | e
    · exact ext_some (d.lkn v e)
    · have : v = y := by simpa using e
      subst this; exact yk
  · intro v hv hno r' hr' hp
    have hvy : v ≠ y := fun e => hno (by rw [e]; simp)
    have hv' : (lk l v).isSome = true := by rw [lk_snoc hy, if_neg (Ne.symm hvy)] at hv; exact hv
    exact (d.cl v hv' (fun e => hno (List.mem_append_left _ e)) r' hr' hp).ext
  · have := d.fuel
    simp only [List.length_append, List.length_singleton]
    omega
end DL
set_option Elab.async false
set_option linter.all false
set_option maxRecDepth 100000
set_option maxHeartbeats 1000000
set_option autoImplicit false
namespace DL
open PySem PySem.Spec PyProof.Rows L2 DZ
def stD (q : Nat × Int) : PyData := .tuple [natD q.1, .int q.2]
def wayD (w : List (Nat × Int)) : PyData := .tuple (w.map stD)
def orC : WS := (wIfS (wAndT (wTest (wBin eqB (wVar 10) (wVar 7))) (wTest (wDinN true 5 (wVar 11)))) (wSeqS (wSetDk 5 (wBin addB (wDgN 5 (wVar 7)) (wTup (wCons (wTup (wCons (wVar 8) (wCons (wVar 9) wNil))) wNil))) (wVar 11))
    (wExpr (wMeth 6 (wCons (wVar 11) wNil) appB))) wNilS)
theorem or_step {n : Nat} {ps : List (Nat × Nat)} {T : List Nat} {b here : Nat} {pre : List Nat} {K : Nat} {l : List (Nat × List (Nat × Int))} {line : List Nat} (d : Dfs n ps T b here pre K l line) (hk : (lk l here).isSome = true) (hn : n ≤ 1000) (hm : ps.length ≤ 1000) (hT : ∀ r ∈ T, r < ps.length)
    {r x y : Nat} {s : Int} (hr : r ∈ T) (hyn : y < n) (hs : (s = 1 ∧ (prA ps r).1 = x ∧ (prA ps r).2 = y) ∨ (s = -1 ∧ (prA ps r).2 = x ∧ (prA ps r).1 = y)) {x0 x1 x2 x3 x4 x12 : Option Sl} {rt : PyData → Prop} {Kn : Nv → Prop} (hKl : K ≤ 1000)
    (h : ∀ more ml, Dfs n ps T b here pre K (l ++ more) (line ++ ml) → (x = here → (lk (l ++ more) y).isSome = true) → Kn [x0, x1, x2, x3, x4, some (.ow (mapD wayD (l ++ more))), some (.ow (.list (natsD (line ++ ml)))), some (.sh (natD here)), some (.sh (natD r)), some (.sh (.int s)), some (.sh (natD x)), some (.sh (natD y)), x12]) :
    orC ⟨Kn, rt⟩ [x0, x1, x2, x3, x4, some (.ow (mapD wayD l)), some (.ow (.list (natsD line))), some (.sh (natD here)), some (.sh (natD r)), some (.sh (.int s)), some (.sh (natD x)), some (.sh (natD y)), x12] := by
  have hL := line_ge
  have hlen := d.len
  have hfu := d.fuel
  unfold orC
  simp [wVar_sh, -Bool.exists_bool]
  by_cases hx : x = here
  · subst hx
    cases hy : lk l y with
    | some w' =>
      have := h [] [] (by simpa using d) (fun _ => by rw [List.append_nil, hy]; rfl)
      simp [wDinN, slD, mapD, look_map, hy, wVar_sh, -Bool.exists_bool]
      simpa [mapD] using this
    | none =>
      obtain ⟨w, hw⟩ := Option.isSome_iff_exists.mp hk
      have hwl : w.length ≤ 1000 := by
        have hW := d.ways x w hw
        have := nodup_le ps.length _ hW.nd (fun r hr => by
          obtain ⟨q, hq, e⟩ := List.mem_map.mp hr
          rw [← e]; exact hT _ (hW.ok q hq).1)
        simp at this
        omega
      have d' := d.snoc hr hw hy hyn hs
      have := h [(y, w ++ [(r, s)])] [y] d' (fun _ => by rw [lk_snoc hy, if_pos rfl]; rfl)
      simp [wDinN, slD, mapD, look_map, hy, hw, wVar_sh, wSetDk, wDgN, -Bool.exists_bool]
      simp [wayD]
      refine ⟨by omega, by omega, by omega, by omega, ?_⟩
      have e1 : PyData.tuple (List.map stD w ++ [PyData.tuple [natD r, PyData.int s]]) = wayD (w ++ [(r, s)]) := by simp [wayD, stD]
      rw [e1, put_map hy]
      simp [wMeth, owL, wVar_sh, appB]
      refine ⟨by omega, ?_⟩
      simpa [mapD] using this
  · have := h [] [] (by simpa using d) (fun e => absurd e hx)
    simp
    rw [if_neg (by omega)]
    simpa using this
def orL : WS := (wSeqS (wSet 7 (wMeth 6 wNil popB))
    (wFor (wSeq (wVar 1)) (wName 8) (wFor (wSeq (wTup (wCons (wTup (wCons (wC (.int 1)) (wCons (wBin ixB (wBin ixB (wVar 0) (wC (.int 1))) (wVar 8)) wNil))) (wCons (wTup (wCons (wNeg (wC (.int 1))) (wCons (wRev (wBin ixB (wBin ixB (wVar 0) (wC (.int 1))) (wVar 8))) wNil))) wNil)))) (wGtup 2 (wGcons (wName 9) (wGcons (wGtup 2 (wGcons (wName 10) (wGcons (wName 11) wGnil))) wGnil))) orC)))
def orT : WT := wTest (wEqN true 6 (wC (.list [])))
def orE : WS := (wSeqS (wSet 12 (wCall (wCons (wBin addB (wCall (wCons (wDgN 5 (wVar 3)) wNil) listC) (wLst (wCons (wTup (wCons (wVar 2) (wCons (wC (.int 1)) wNil))) wNil))) wNil) dictC))
    (wRet (wCall (wCons (wComp (wRg1 (wCall (wCons (wBin ixB (wVar 0) (wC (.int 1))) wNil) lenC)) (wName 8) wYes (wGetN 12 (wVar 8) (wC (.int 0))) [8]) wNil) tupleC)))
theorem or_split : w__law_own_ring = (wSeqS (wAsg (wBin ixB (wBin ixB (wVar 0) (wC (.int 1))) (wVar 2)) (wGtup 2 (wGcons (wName 3) (wGcons (wName 4) wGnil))))
    (wSeqS (wPar 5 6 .o .o (wDict1 (wVar 4) (wTup wNil)) (wLst (wCons (wVar 4) wNil)))
    (wSeqS (wWhile orT orL) orE))) := rfl
theorem or_loop {n : Nat} {ps : List (Nat × Nat)} {T : List Nat} {b : Nat} {D : DE} {x2 x3 x4 : Option Sl} (f : FrOk n ps) (hT : ∀ r ∈ T, r < ps.length)
    (hend : ∀ l here K, Dfs n ps T b here T K l [] → ∀ x7 x8 x9 x10 x11, D.nx [some (.sh (frD n ps)), some (.sh (.tuple (natsD T))), x2, x3, x4, some (.ow (mapD wayD l)), some (.ow (.list [])), x7, x8, x9, x10, x11, none]) :
    ∀ (K : Nat) (l : List (Nat × List (Nat × Int))) (line : List Nat) (here : Nat), K ≤ 1000 → Dfs n ps T b here T K l line → ∀ x7 x8 x9 x10 x11, whileL orT orL D (K + 1) [some (.sh (frD n ps)), some (.sh (.tuple (natsD T))), x2, x3, x4, some (.ow (mapD wayD l)), some (.ow (.list (natsD line))), x7, x8, x9, x10, x11, none] := by
  have hn := f.n2
  have hm := f.m
  have hL := line_ge
  have hexit : ∀ (K : Nat) (l : List (Nat × List (Nat × Int))) (here K' : Nat), Dfs n ps T b here T K' l [] → ∀ x7 x8 x9 x10 x11, whileL orT orL D (K + 1) [some (.sh (frD n ps)), some (.sh (.tuple (natsD T))), x2, x3, x4, some (.ow (mapD wayD l)), some (.ow (.list (natsD []))), x7, x8, x9, x10, x11, none] := by
    intro K l here K' d x7 x8 x9 x10 x11
    simp only [whileL]
    generalize whileL orT orL D K = W
    unfold orT
    simp [wEqN, slD, -Bool.exists_bool]
    refine ⟨shp_lnats (T := []), false, ?_, by simpa using hend l here K' d x7 x8 x9 x10 x11⟩
    simpa using eqv_nats0 []
  intro K
  induction K with
  | zero =>
    intro l line here _ d x7 x8 x9 x10 x11
    have : line = [] := List.eq_nil_of_length_eq_zero (by have := d.fuel; omega)
    subst this
    exact hexit 0 l here 0 d x7 x8 x9 x10 x11
  | succ K ih =>
    intro l line here hK d x7 x8 x9 x10 x11
    rcases List.eq_nil_or_concat line with e | ⟨line0, h2, e⟩
    · subst e; exact hexit (K + 1) l here (K + 1) d x7 x8 x9 x10 x11
    rw [List.concat_eq_append] at e
    subst e
    have d0 : Dfs n ps T b h2 [] K l line0 := ⟨d.base, d.nd, d.lt, d.ways, fun v hv => d.lkn v (List.mem_append_left _ hv), fun v hv hno r hr hp => by
      have hne : v ≠ h2 := hp.resolve_right (fun h => nomatch h)
      refine d.cl v hv (fun h => ?_) r hr (.inr hr)
      rcases List.mem_append.mp h with h | h
      · exact hno h
      · exact hne (by simpa using h), by have := d.fuel; simp at this; omega⟩
    have hk2 : (lk l h2).isSome = true := d.lkn h2 (by simp)
    rw [whileL]
    have ih := fun l line here d => ih l line here (by omega) d
    generalize whileL orT orL D (K + 1) = W at ih ⊢
    unfold orT orL
    simp [wEqN, slD, -Bool.exists_bool]
    have hne : PyData.eqv (.list (natsD (line0 ++ [h2]))) (.list []) = false := by rw [eqv_nats0]; simp
    have hsh : SeqAt.shaped (.list (natsD (line0 ++ [h2]))) = true := shp_lnats
    simp at hne hsh
    refine ⟨hsh, shp_lnats (T := []), true, by rw [hne]; rfl, ?_⟩
    have e0 : List.map natD line0 ++ [natD h2] = natsD (line0 ++ [h2]) := by simp
    simp [wMeth, owL, popB, wVar_sh]
    have hTl : itemsOf (.tuple (natsD T)) = some (natsD T) := rfl
    refine for_all natD T (fun pre env => ∃ l' line' x8 x9 x10 x11, env = [some (.sh (frD n ps)), some (.sh (.tuple (natsD T))), x2, x3, x4, some (.ow (mapD wayD l')), some (.ow (.list (natsD line'))), some (.sh (natD h2)), x8, x9, x10, x11, none] ∧ Dfs n ps T b h2 pre K l' line' ∧ (lk l' h2).isSome = true) ⟨l, line0, _, _, _, _, rfl, d0, hk2⟩ ?_ ?_
    · rintro p r q' e env Kn ⟨l', line', x8, x9, x10, x11, rfl, dp, hkp⟩ hK'
      have hr : r ∈ T := by rw [e]; simp
      have hrm := hT r hr
      obtain ⟨ha, hb⟩ := f.pr hrm
      simp [wVar_sh]
      refine ⟨_, atI_prs (prA_get hrm), ?_⟩
      simp [prD, forL, wVar_sh]
      refine ⟨le_line (by decide), _, atI_prs (prA_get hrm), ?_⟩
      simp [prD]
      refine ⟨le_line (by decide), ?_⟩
      refine or_step dp hkp hn hm hT hr hb (.inl ⟨rfl, rfl, rfl⟩) (by omega) fun more ml d1 g1 => ?_
      simp [-List.map_append]
      refine or_step d1 (ext_some hkp) hn hm hT hr ha (.inr ⟨rfl, rfl, rfl⟩) (by omega) fun more2 ml2 d2 g2 => ?_
      refine hK' _ ⟨_, _, _, _, _, _, rfl, ⟨d2.base, d2.nd, d2.lt, d2.ways, d2.lkn, fun v hv hno r' hr' hp => ?_, d2.fuel⟩, ext_some (ext_some hkp)⟩
      by_cases hvh : v = h2
      · rcases hp with h | h
        · exact absurd hvh h
        · rcases List.mem_append.mp h with h | h
          · exact d2.cl v hv hno r' hr' (.inr h)
          · have : r' = r := by simpa using h
            subst this
            exact ⟨fun e => ext_some (g1 (e.trans hvh)), fun e => g2 (e.trans hvh)⟩
      · exact d2.cl v hv hno r' hr' (.inl hvh)
    · rintro env ⟨l', line', x8, x9, x10, x11, rfl, dp, hkp⟩
      exact ih l' line' h2 dp _ _ _ _ _
theorem puts_map {w : List (Nat × Int)} : ∀ (more acc : List (Nat × Int)), ((acc ++ more).map (·.1)).Nodup → putsD (acc.map (kvE intD)) (more.map fun q => (Sum.inl (q.1 : Int), PyData.int q.2)) = (acc ++ more).map (kvE intD)
  | [], acc, _ => by rw [List.append_nil]; rfl
  | q :: more, acc, h => by
    have hq : lk acc q.1 = none := by
      cases hh : lk acc q.1 with
      | none => rfl
      | some x =>
        rw [List.map_append, List.nodup_append] at h
        exact absurd rfl (h.2.2 q.1 (lk_mem hh) q.1 (by simp))
    have e := puts_map (w := w) more (acc ++ [q]) (by simpa using h)
    rw [List.append_assoc] at e
    show putsD (dPut (acc.map (kvE intD)) (Sum.inl (q.1 : Int)) (intD q.2)) _ = _
    rw [put_map hq]
    exact e
def sOwnRing : DSp := fun cs P => ∃ n ps T road, cs = [.sh (frD n ps), .sh (.tuple (natsD T)), .sh (natD road)] ∧ FrOk n ps ∧ Span n ps T ∧ road < ps.length ∧ road ∉ T ∧ ∀ w : List Int, w.length = ps.length → RingRow n ps w → (∀ x ∈ w, x.natAbs ≤ 1) → P (rowD w)
theorem h_law_own_ring : ∀ cs Q, cs.length = 3 → sOwnRing cs Q → w__law_own_ring ⟨fun _ => Q .none, Q⟩ (envOf ["frame", "tree", "road", "a", "b", "ways", "line", "here", "r", "sign", "one", "other", "steps"] cs) := by
  rintro cs Q _ ⟨n, ps, T, road, rfl, f, s, hrd, hno, q⟩
  have hn := f.n2
  have hn1 := f.n1
  have hm := f.m
  have hL := line_ge
  obtain ⟨ha, hb⟩ := f.pr hrd
  rw [or_split]
  simp [wVar_sh, -Bool.exists_bool]
  refine ⟨_, atI_prs (prA_get hrd), ?_⟩
  simp [prD, wDict1, wVar_sh, -Bool.exists_bool]
  refine ⟨le_line (by decide), n + 1, ?_⟩
  have hone : ∀ v, (lk [((prA ps road).2, ([] : List (Nat × Int)))] v).isSome = true → v = (prA ps road).2 := fun v hv => by
    obtain ⟨x, hx⟩ := Option.isSome_iff_exists.mp hv
    have := lk_mem hx
    simpa using this
  have hself : lk [((prA ps road).2, ([] : List (Nat × Int)))] (prA ps road).2 = some [] := by simp [lk]
  refine or_loop (b := (prA ps road).2) f s.lt ?_ n [((prA ps road).2, [])] [(prA ps road).2] n hn ?_ none none none none none
  · intro l here K d x7 x8 x9 x10 x11
    have hcl : ∀ v, v < n → (lk l v).isSome = true := by
      intro v hv
      have h := s.conn (fun v => if (lk l v).isSome = true then 1 else 0) (fun p hp => by
        obtain ⟨r, hr, e⟩ := List.mem_map.mp hp
        subst e
        by_cases h1 : (lk l (prA ps r).1).isSome = true
        · have := (d.cl _ h1 (by simp) r hr (.inr hr)).1 rfl
          simp [h1, this]
        · by_cases h2 : (lk l (prA ps r).2).isSome = true
          · exact absurd ((d.cl _ h2 (by simp) r hr (.inr hr)).2 rfl) h1
          · simp [h1, h2])
      have e1 := h v hv
      have e2 := h _ hb
      simp only [d.base] at e2
      rw [← e2] at e1
      by_cases hh : (lk l v).isSome = true
      · exact hh
      · simp [hh] at e1
    obtain ⟨w, hw⟩ := Option.isSome_iff_exists.mp (hcl _ ha)
    have hW := d.ways _ _ hw
    have hlt : ∀ r ∈ (w ++ [(road, (1 : Int))]).map (·.1), r < ps.length := by
      intro r hr
      rw [List.map_append, List.mem_append] at hr
      rcases hr with h | h
      · obtain ⟨q, hq, e⟩ := List.mem_map.mp h
        rw [← e]; exact s.lt _ (hW.ok q hq).1
      · have : r = road := by simpa using h
        omega
    have hnd : ((w ++ [(road, (1 : Int))]).map (·.1)).Nodup := by
      rw [List.map_append, List.map_cons, List.map_nil, List.nodup_append]
      refine ⟨hW.nd, by simp, fun a hain c hc => ?_⟩
      have : c = road := by simpa using hc
      subst this
      obtain ⟨q, hq, e⟩ := List.mem_map.mp hain
      exact fun e' => hno (by rw [← e', ← e]; exact (hW.ok q hq).1)
    have hwl := nodup_le ps.length _ hnd hlt
    simp at hwl
    have q := q (rowOf ps.length (w ++ [(road, 1)])) (by simp [rowOf]) (fun c hc => ?_) (fun x hx => ?_)
    · simp [orE, wDgN, slD, mapD, look_map, hw, wVar_sh, -Bool.exists_bool]
      simp [wayD, -Bool.exists_bool]
      refine ⟨le_line (by decide), le_line (by decide), by omega, (w ++ [(road, (1 : Int))]).map (fun q : Nat × Int => (Sum.inl (q.1 : Int), PyData.int q.2)), ?_, by omega, ?_⟩
      · simp [pairD, keyD, stD, Function.comp_def]
      · have e1 := puts_map (w := w) (w ++ [(road, 1)]) [] (by simpa using hnd)
        rw [List.nil_append] at e1
        rw [show ([] : List (PyData × PyData)) = ([] : List (Nat × Int)).map (kvE intD) from rfl, e1, rgD_nats]
        generalize w ++ [(road, 1)] = W at *
        simp only [wipeN]
        refine comp_of natD (fun r => some (.int ((lk W r).getD 0))) (List.range ps.length) [] (by simp; omega) (fun r hr acc C hacc hC => ?_) ?_
        · simp [wGetN, slD, wVar_sh, wipeN, look_map] at hC ⊢
          refine ⟨hacc, ?_⟩
          cases hh : lk W r with
          | none => rw [hh] at hC; simpa using hC
          | some z => rw [hh] at hC; simpa using hC
        · rw [fm_some, List.nil_append]
          simpa [rowOf, rowD, Function.comp_def] using q
    · rw [bring_lk hnd hlt, bsum_snoc, hW.sum c]
      unfold rt
      simp only
      omega
    · unfold rowOf at hx
      obtain ⟨r, hr, e⟩ := List.mem_map.mp hx
      subst e
      cases hh : lk (w ++ [(road, 1)]) r with
      | none => simp
      | some z =>
        unfold lk at hh
        obtain ⟨p, h1, h2⟩ := Option.map_eq_some_iff.mp hh
        have := List.mem_of_find?_eq_some h1
        subst h2
        rcases List.mem_append.mp this with h | h
        · rcases (hW.ok p h).2.1 with e | e <;> simp [e]
        · have : p = (road, 1) := by simpa using h
          subst this; simp
  · refine ⟨by rw [hself]; rfl, by simp, fun v hv => ?_, fun v w hw => ?_, fun v hv => ?_, fun v hv hno => ?_, by simp; omega⟩
    · have : v = (prA ps road).2 := by simpa using hv
      omega
    · have : v = (prA ps road).2 := hone v (by rw [hw]; rfl)
      subst this
      rw [hself] at hw
      cases hw
      exact ⟨by simp, fun q hq => (nomatch hq), fun c => by simp [bsum]⟩
    · have : v = (prA ps road).2 := by simpa using hv
      subst this
      rw [hself]; rfl
    · exact absurd (by rw [hone v hv]; simp) hno
end DL
set_option Elab.async false
set_option linter.all false
set_option maxRecDepth 100000
set_option maxHeartbeats 1000000
set_option autoImplicit false
namespace DL
open PySem PySem.Spec PyProof.Rows L2 DZ
theorem brT_add {c : Nat} {p : Nat × Nat} {a t x : Int} : brT c (p, a + t * x) = brT c (p, a) + t * brT c (p, x) := by
  unfold brT
  simp only
  by_cases h1 : p.2 = c <;> by_cases h2 : p.1 = c <;> simp [h1, h2, Int.mul_neg] <;> omega
theorem bring_cons {q : Rd} {qs : List Rd} {c : Nat} : bring (q :: qs) c = brT c q + bring qs c := by simp [bring]
theorem bring_add {c : Nat} {t : Int} : ∀ (ps : List (Nat × Nat)) (acc w : List Int), acc.length = ps.length → w.length = ps.length → bring (ps.zip (addRow t acc w)) c = bring (ps.zip acc) c + t * bring (ps.zip w) c
  | [], acc, w, _, _ => by simp [bring]
  | p :: ps, a :: acc, x :: w, h1, h2 => by
    have ih := bring_add (c := c) (t := t) ps acc w (by simpa using h1) (by simpa using h2)
    have e : (p :: ps).zip (addRow t (a :: acc) (x :: w)) = (p, a + t * x) :: ps.zip (addRow t acc w) := rfl
    rw [e, List.zip_cons_cons, List.zip_cons_cons, bring_cons, bring_cons, bring_cons, ih, brT_add, Int.mul_add]
    omega
theorem ring_zero {n : Nat} {ps : List (Nat × Nat)} : RingRow n ps (List.replicate ps.length 0) := by
  intro c _
  have : ∀ ps : List (Nat × Nat), bring (ps.zip (List.replicate ps.length 0)) c = 0 := by
    intro ps
    induction ps with
    | nil => rfl
    | cons p ps ih =>
      rw [List.length_cons, List.replicate_succ, List.zip_cons_cons, bring_cons, ih]
      simp [brT]
  exact this ps
theorem addRow_bnd {t : Int} {B : Nat} {C : Nat} (ht : t.natAbs ≤ C) : ∀ (acc w : List Int), (∀ x ∈ acc, x.natAbs ≤ B) → (∀ x ∈ w, x.natAbs ≤ 1) → ∀ x ∈ addRow t acc w, x.natAbs ≤ B + C
  | [], w, _, _, x, hx => by simp [addRow] at hx
  | a :: acc, [], _, _, x, hx => by simp [addRow] at hx
  | a :: acc, b :: w, h1, h2, x, hx => by
    have e : addRow t (a :: acc) (b :: w) = (a + t * b) :: addRow t acc w := rfl
    rw [e] at hx
    rcases List.mem_cons.mp hx with h | h
    · subst h
      have k1 := h1 a List.mem_cons_self
      have k2 := h2 b List.mem_cons_self
      have k3 : (t * b).natAbs ≤ C := by
        rw [Int.natAbs_mul]
        calc t.natAbs * b.natAbs ≤ C * 1 := Nat.mul_le_mul ht k2
          _ = C := Nat.mul_one C
      omega
    · exact addRow_bnd ht acc w (fun x hx => h1 x (List.mem_cons_of_mem _ hx)) (fun x hx => h2 x (List.mem_cons_of_mem _ hx)) x h
/-- rows that may be added -/
def OwnOk (n : Nat) (ps : List (Nat × Nat)) (p : Int × List Int) : Prop := p.2.length = ps.length ∧ RingRow n ps p.2 ∧ (∀ x ∈ p.2, x.natAbs ≤ 1) ∧ p.1.natAbs ≤ 1000
theorem added_ring {n : Nat} {ps : List (Nat × Nat)} (pairs : List (Int × List Int)) (h : ∀ p ∈ pairs, OwnOk n ps p) : (addedL ps.length pairs).length = ps.length ∧ RingRow n ps (addedL ps.length pairs) ∧ ∀ x ∈ addedL ps.length pairs, x.natAbs ≤ 1000 * pairs.length := by
  induction pairs using snoc_ind with
  | h0 =>
    refine ⟨by simp [addedL], ring_zero, fun x hx => ?_⟩
    have := List.eq_of_mem_replicate hx
    subst this; simp
  | h1 pairs p ih =>
    obtain ⟨i1, i2, i3⟩ := ih fun q hq => h q (List.mem_append_left _ hq)
    obtain ⟨k1, k2, k3, k4⟩ := h p (by simp)
    rw [addedL_snoc]
    refine ⟨by rw [addRow_len (by omega)]; exact i1, fun c hc => ?_, fun x hx => ?_⟩
    · rw [bring_add ps _ _ i1 k1, i2 c hc, k2 c hc]; simp
    · have := addRow_bnd k4 _ _ i3 k3 x hx
      simp only [List.length_append, List.length_singleton]
      omega
def sDrawnRing : DSp := fun cs P => ∃ n ps far, cs = [.src, .sh (frD n ps), .sh (.int far)] ∧ FrOk n ps ∧ Conn n ps ∧ 0 ≤ far ∧ far ≤ 1000 ∧ ∀ w : List Int, w.length = ps.length → RingRow n ps w → (∀ x ∈ w, x.natAbs ≤ 1000000) → P (rowD w)
theorem h_law_drawn_ring_row : ∀ cs Q, cs.length = 3 → sDrawnRing cs Q → w__law_drawn_ring_row sDrawnTree sOutside sPick sOwnRing sAdded ⟨fun _ => Q .none, Q⟩ (envOf ["source", "frame", "far", "tree", "r", "pairs"] cs) := by
  rintro cs Q _ ⟨n, ps, far, rfl, f, hc, h0, h1, q⟩
  have hn := f.n2
  have hm := f.m
  have hL := line_ge
  simp [w__law_drawn_ring_row, wVar_sh]
  refine ⟨n, ps, rfl, f, hc, fun T s => ?_⟩
  have hTl := s.len
  simp [wVar_sh]
  refine ⟨n, ps, T, rfl, f, by omega, ?_⟩
  have hol : (outL ps.length T).length ≤ ps.length := by
    have := List.length_filter_le (fun r => !decide (r ∈ T)) (List.range ps.length)
    simpa [outL] using this
  simp [wVar_sh, wipeN]
  refine comp_any natD trD (OwnOk n ps) (outL ps.length T) [] (by simp; omega) (fun r hr C N hC => ?_) (fun zs hz1 hz2 => ?_)
  · have hr2 : r < ps.length ∧ r ∉ T := by simpa [outL] using hr
    simp [wVar_sh, sPick, wipeN, -Bool.exists_bool]
    refine ⟨by omega, fun i k1 k2 => ?_⟩
    refine ⟨n, ps, T, r, rfl, f, s, hr2.1, hr2.2, fun w j1 j2 j3 => ?_⟩
    refine ⟨le_line (by decide), ?_⟩
    exact hC (i - far, w) ⟨j1, j2, j3, by simp only; omega⟩
  · simp [backN, backAt, wVar_sh]
    obtain ⟨g1, g2, g3⟩ := added_ring zs hz2
    refine ⟨ps.length, _, zs, rfl, by simp, hm, fun p hp => ⟨(hz2 p hp).1, ?_⟩, ?_⟩
    · have := (hz2 p hp).2.2.2
      omega
    · exact q _ g1 g2 fun x hx => by have := g3 x hx; omega
def sDrawnCut : DSp := fun cs P => ∃ n ps far, cs = [.src, .sh (frD n ps), .sh (.int far)] ∧ FrOk n ps ∧ 0 ≤ far ∧ far ≤ 1000 ∧ ∀ hs : List Int, hs.length = n → (∀ x ∈ hs, x.natAbs ≤ 1000) → P (rowD (cutL ps hs))
theorem h_law_drawn_cut_row : ∀ cs Q, cs.length = 3 → sDrawnCut cs Q → w__law_drawn_cut_row sCut sPick ⟨fun _ => Q .none, Q⟩ (envOf ["source", "frame", "far", "c"] cs) := by
  rintro cs Q _ ⟨n, ps, far, rfl, f, h0, h1, q⟩
  have hn := f.n2
  have hL := line_ge
  simp [w__law_drawn_cut_row, wVar_sh, wipeN]
  refine ⟨by omega, ?_⟩
  rw [rgD_nats]
  refine comp_any natD PyData.int (fun x => x.natAbs ≤ 1000) (List.range n) [] (by simp; omega) (fun r hr C N hC => ?_) (fun zs hz1 hz2 => ?_)
  · simp [wVar_sh, sPick, wipeN, -Bool.exists_bool]
    refine ⟨by omega, fun i k1 k2 => ?_⟩
    exact hC (i - far) (by omega)
  · have hz1 : zs.length = n := by simpa using hz1
    exact ⟨n, ps, zs, _, rfl, f, rfl, hz1, q zs hz1 hz2⟩
end DL
set_option Elab.async false
set_option linter.all false
set_option maxRecDepth 100000
set_option maxHeartbeats 1000000
set_option autoImplicit false
namespace DL
open PySem PySem.Spec PyProof.Rows L2 DZ
@[simp] theorem wRg2_eq {w1 w2 : WE} {env : Nv} {P : List PyData → Nv → Prop} : wRg2 w1 w2 env P = w1 env fun d e => w2 e fun d2 e2 => ∃ i n : Int, d = .int i ∧ d2 = .int n ∧ (-(2 ^ 62) ≤ i ∧ i < 2 ^ 62 ∧ -(2 ^ 62) ≤ n ∧ n < 2 ^ 62) ∧ P (rgD i (n - i).toNat) e2 := rfl
theorem comp_rel {α β : Type} {g : WG} {wt : WT} {we : WE} {own : List Nat} {P : List PyData → Nv → Prop} {env : Nv} (enc : α → PyData) (out : β → PyData) (R : α → β → Prop) :
    ∀ (xs : List α) (acc : List β), acc.length + xs.length < sizeLine →
      (∀ x ∈ xs, ∀ (C : PyData → Nv → Prop) (N : Nv → Prop), (∀ z, R x z → C (out z) env) → g (enc x) env fun e1 => wt e1 fun b e2 => if b = true then we e2 fun z e3 => C z (wipeN e3 own) else N (wipeN e2 own)) →
      (∀ zs : List β, zs.length = xs.length → (∀ z ∈ zs, ∃ x ∈ xs, R x z) → (∀ x ∈ xs, ∃ z ∈ zs, R x z) → P ((acc ++ zs).map out) env) → compL g wt we own P (xs.map enc) (acc.map out) env
  | [], acc, _, _, h => by
    have := h [] rfl (by simp) (by simp)
    simpa [compL] using this
  | x :: xs, acc, hl, hx, h => by
    refine hx x List.mem_cons_self (fun z e => (acc.map out).length < sizeLine ∧ compL g wt we own P (xs.map enc) (acc.map out ++ [z]) e) _ fun z hz => ⟨by simp at hl ⊢; omega, ?_⟩
    have := comp_rel enc out R xs (acc ++ [z]) (by simp at hl ⊢; omega) (fun y hy => hx y (List.mem_cons_of_mem _ hy)) fun zs h1 h2 h3 => by
      have := h (z :: zs) (by simp [h1]) (fun y hy => by
        rcases List.mem_cons.mp hy with e | e
        · subst e; exact ⟨x, List.mem_cons_self, hz⟩
        · obtain ⟨x', k1, k2⟩ := h2 y e
          exact ⟨x', List.mem_cons_of_mem _ k1, k2⟩) (fun y hy => by
        rcases List.mem_cons.mp hy with e | e
        · subst e; exact ⟨z, List.mem_cons_self, hz⟩
        · obtain ⟨x', k1, k2⟩ := h3 y e
          exact ⟨x', List.mem_cons_of_mem _ k1, k2⟩)
      simpa using this
    simpa using this
/-- each name is tied to an earlier one -/
def Tied (nm : List Nat) (n : Nat) (L : List (Nat × Nat)) : Prop := ∀ k, 1 ≤ k → k < n → ∃ j, j < k ∧ (nth nm j, nth nm k) ∈ L
theorem tied_conn {nm : List Nat} {n : Nat} {L : List (Nat × Nat)} (hp : nm.Perm (List.range n)) (h : Tied nm n L) : ConnV n L := by
  intro c hc v hv
  have key : ∀ k, k < n → c (nth nm k) = c (nth nm 0) := by
    intro k
    induction k using Nat.strongRecOn with
    | ind k ih =>
      intro hk
      by_cases h0 : k = 0
      · subst h0; rfl
      · obtain ⟨j, h1, h2⟩ := h k (by omega) hk
        have := hc _ h2
        have := ih j h1 (by omega)
        simp only at *
        omega
  have hlen : nm.length = n := by simpa using hp.length_eq
  have at_ : ∀ v, v < n → c v = c (nth nm 0) := fun v hv => by
    have hm : v ∈ nm := hp.symm.subset (List.mem_range.mpr hv)
    obtain ⟨k, hk, e⟩ := List.mem_iff_getElem.mp hm
    have := key k (by omega)
    have e2 := nth_get hk
    rw [List.getElem?_eq_getElem hk, e] at e2
    rw [← Option.some.inj e2] at this
    exact this
  rw [at_ v hv, at_ 0 (by omega)]
def sHung : DSp := fun cs P => ∃ cr rd : Int, cs = [.src, .sh (.int cr), .sh (.int rd)] ∧ 1 ≤ cr ∧ cr ≤ 100 ∧ 0 ≤ rd ∧ rd ≤ 100 ∧ ∀ n ps, FrOk n ps → Conn n ps → n ≤ 100 → ps.length ≤ 300 → P (frD n ps)
theorem hung_all {α : Type} {l p q : List α} {x : α} (e : l = p ++ x :: q) : l[p.length]? = some x := by rw [e]; simp
theorem h_law_hung : ∀ cs Q, cs.length = 3 → sHung cs Q → w__law_hung sPick sMixed ⟨fun _ => Q .none, Q⟩ (envOf ["source", "crossings", "roads", "n", "pairs", "names", "k", "lap", "pair"] cs) := by
  rintro cs Q _ ⟨cr, rd, rfl, hc1, hc2, hr0, hr1, q⟩
  have hL := line_ge
  simp [w__law_hung, wVar_sh, sPick, -Bool.exists_bool]
  refine ⟨by omega, fun i hi1 hi2 => ?_⟩
  obtain ⟨n, hn⟩ : ∃ n : Nat, 1 + i = (n : Int) := ⟨(1 + i).toNat, by omega⟩
  rw [hn]
  have hn1 : 1 ≤ n := by omega
  have hn2 : n ≤ 100 := by omega
  simp [wVar_sh, -Bool.exists_bool]
  refine ⟨by omega, _, _, rfl, rfl, by rw [rgD_nats]; simp; omega, fun es hp => ?_⟩
  rw [rgD_nats] at hp
  obtain ⟨nm, hpm, rfl⟩ := perm_map_of hp rfl
  have hlen : nm.length = n := by simpa using hpm.length_eq
  have hlt : ∀ k, k < n → nth nm k < n := fun k hk => by
    have : nth nm k ∈ nm := List.mem_of_getElem? (nth_get (by omega))
    exact List.mem_range.mp (hpm.subset this)
  have e1 : rgD 1 (n - 1) = (List.range (n - 1)).map fun k => natD (k + 1) := by
    unfold rgD; apply List.map_congr_left; intro k _; simp only [natD]; congr 1; omega
  refine ⟨by omega, ?_⟩
  rw [e1]
  refine for_all (fun k => natD (k + 1)) (List.range (n - 1)) (fun pre env => ∃ x6 L, env = [some .src, some (.sh (.int cr)), some (.sh (.int rd)), some (.sh (.int n)), some (.ow (.list (L.map prD))), some (.sh (.list (natsD nm))), x6, none, none] ∧ L.length = pre.length ∧ (∀ p ∈ L, p.1 < n ∧ p.2 < n) ∧ ∀ k ∈ pre, ∃ j, j < k + 1 ∧ (nth nm j, nth nm (k + 1)) ∈ L) ⟨none, [], rfl, rfl, by simp, by simp⟩ ?_ ?_
  · rintro p k q' e env Kn ⟨x6, L, rfl, h1, h2, h3⟩ hK
    have hk : k < n - 1 := List.mem_range.mp (by rw [e]; simp)
    have hpl : p.length < n := by
      have := congrArg List.length e
      simp at this
      omega
    simp [wMeth, owL, wVar_sh, sPick, appB]
    refine ⟨by omega, fun j hj1 hj2 => ?_⟩
    obtain ⟨j', rfl⟩ : ∃ j' : Nat, j = (j' : Int) := ⟨j.toNat, by omega⟩
    have hj : j' < k + 1 := by omega
    refine ⟨_, nth_at (by omega), _, nth_at (hs := nm) (x := k + 1) (by omega), le_line (by decide), by omega, ?_⟩
    refine hK _ ⟨some (.sh (natD (k + 1))), L ++ [(nth nm j', nth nm (k + 1))], by simp [prD], by simp [h1], fun p hp => ?_, fun k' hk' => ?_⟩
    · rcases List.mem_append.mp hp with h | h
      · exact h2 p h
      · have : p = (nth nm j', nth nm (k + 1)) := by simpa using h
        subst this
        exact ⟨hlt _ (by omega), hlt _ (by omega)⟩
    · rcases List.mem_append.mp hk' with h | h
      · obtain ⟨j, a, b⟩ := h3 k' h
        exact ⟨j, a, List.mem_append_left _ b⟩
      · have : k' = k := by simpa using h
        subst this
        exact ⟨j', hj, by simp⟩
  rintro env ⟨x6, L, rfl, h1, h2, h3⟩
  have hL1 : L.length = n - 1 := by simpa using h1
  have hT : Tied nm n L := fun k k1 k2 => by
    obtain ⟨j, a, b⟩ := h3 (k - 1) (List.mem_range.mpr (by omega))
    rw [show k - 1 + 1 = k by omega] at a b
    exact ⟨j, a, b⟩
  simp [wVar_sh, -Bool.exists_bool]
  refine ⟨by omega, fun i hi1 hi2 => ⟨by omega, by omega, ?_⟩⟩
  have hi3 : i.toNat ≤ 102 := by
    split at hi2 <;> omega
  rw [rgD_nats]
  refine for_all natD (List.range i.toNat) (fun pre env => ∃ x6 x7 more, env = [some .src, some (.sh (.int cr)), some (.sh (.int rd)), some (.sh (.int n)), some (.ow (.list ((L ++ more).map prD))), some (.sh (.list (natsD nm))), x6, x7, none] ∧ more.length = pre.length ∧ (∀ p ∈ more, p.1 < n ∧ p.2 < n)) ⟨x6, none, [], by simp, rfl, by simp⟩ ?_ ?_
  · rintro p k q' e env Kn ⟨x6, x7, more, rfl, g1, g2⟩ hK
    have hpl : p.length < i.toNat := by
      have := congrArg List.length e
      simp at this
      omega
    simp [wMeth, owL, wVar_sh, sPick, appB]
    refine ⟨by omega, fun a ha1 ha2 => ⟨by omega, fun b hb1 hb2 => ?_⟩⟩
    obtain ⟨a', rfl⟩ : ∃ a' : Nat, a = (a' : Int) := ⟨a.toNat, by omega⟩
    obtain ⟨b', rfl⟩ : ∃ b' : Nat, b = (b' : Int) := ⟨b.toNat, by omega⟩
    refine ⟨le_line (by decide), by omega, hK _ ⟨x6, some (.sh (natD k)), more ++ [(a', b')], by simp [prD], by simp [g1], fun p hp => ?_⟩⟩
    rcases List.mem_append.mp hp with h | h
    · exact g2 p h
    · have : p = (a', b') := by simpa using h
      subst this
      exact ⟨by simp only; omega, by simp only; omega⟩
  rintro env ⟨x6, x7, more, rfl, g1, g2⟩
  have g1 : more.length = i.toNat := by simpa using g1
  simp [wVar_ow, -Bool.exists_bool, -List.map_append]
  refine ⟨_, _, rfl, rfl, by simp; omega, fun es hp => ?_⟩
  obtain ⟨M, hpm2, rfl⟩ := perm_map_of hp rfl
  have hMl : M.length = L.length + more.length := by simpa using hpm2.length_eq
  have hMlt : ∀ p ∈ M, p.1 < n ∧ p.2 < n := fun p hp => by
    rcases List.mem_append.mp (hpm2.subset hp) with h | h
    · exact h2 p h
    · exact g2 p h
  simp [wipeN, -Bool.exists_bool]
  refine comp_rel prD prD (fun x z => z = x ∨ z = (x.2, x.1)) M [] (by simp; omega) (fun x hx C N hC => ?_) (fun zs z1 z2 z3 => ?_)
  · simp [wVar_sh, sPick, prD, wipeN, -Bool.exists_bool]
    intro a ha1 ha2
    by_cases h : a = 0
    · rw [if_pos h]
      exact hC (x.2, x.1) (.inr rfl)
    · rw [if_neg h]
      exact hC x (.inl rfl)
  · simp [backN, backAt, wVar_sh, wVar_ow]
    refine ⟨le_line (by decide), ?_⟩
    refine q n zs ⟨hn1, by omega, by omega, fun z hz => ?_⟩ (fun c hc => ?_) hn2 (by omega)
    · obtain ⟨x, hx, e⟩ := z2 z hz
      have := hMlt x hx
      rcases e with e | e
      · subst e; exact this
      · subst e; exact ⟨this.2, this.1⟩
    · refine tied_conn hpm hT c fun p hp => ?_
      obtain ⟨z, hz, e⟩ := z3 p (hpm2.symm.subset (List.mem_append_left _ hp))
      have := hc z hz
      rcases e with e | e
      · subst e; exact this
      · subst e; exact this.symm
end DL
set_option Elab.async false
set_option linter.all false
set_option maxRecDepth 100000
set_option maxHeartbeats 1000000
set_option autoImplicit false
namespace DL
open PySem PySem.Spec PyProof.Rows L2 DZ
/-! ## what repr may be asked of -/
structure Tx (k j : Nat) (d : PyData) : Prop where
  sw : d.showable = true
  ls : d.leavesShort 41 = true
  bk : d.bulk ≤ k
  dp : d.depth ≤ j
  lo : lok d = true
theorem Tx.up {k j k' j' : Nat} {d : PyData} (h : Tx k j d) (hk : k ≤ k') (hj : j ≤ j') : Tx k' j' d := ⟨h.sw, h.ls, Nat.le_trans h.bk hk, Nat.le_trans h.dp hj, h.lo⟩
theorem tx_int {i : Int} (h : i.natAbs < 10 ^ 40) : Tx 0 0 (.int i) := by
  refine ⟨?_, ?_, by simp [PyData.bulk], by simp [PyData.depth], by simp⟩
  · simp only [PyData.showable, decide_eq_true_eq]
    by_cases h0 : i.natAbs = 0
    · rw [h0]; decide
    · rw [Nat.log2_lt h0]
      exact Nat.lt_of_lt_of_le h (by decide +kernel)
  · simp only [PyData.leavesShort, decide_eq_true_eq]
    have := PySem.int_text_length_le10 (a := i) (k := 40) (by decide) h
    show (PyData.shown (.int i)).length ≤ 41
    simp only [PyData.shown]
    rw [PySem.ofString_length]
    exact this
theorem tx_bool {b : Bool} : Tx 0 0 (.bool b) := ⟨by simp [PyData.showable], by simp [PyData.leavesShort], by simp [PyData.bulk], by simp [PyData.depth], by simp⟩
theorem tx_none : Tx 0 0 .none := ⟨by simp [PyData.showable], by simp [PyData.leavesShort], by simp [PyData.bulk], by simp [PyData.depth], by simp⟩
theorem tx_all {k j : Nat} : ∀ {ds : List PyData}, (∀ d ∈ ds, Tx k j d) → PyData.showableAll ds = true ∧ PyData.leavesShortAll 41 ds = true ∧ PyData.bulkAll ds ≤ ds.length * (k + 1) ∧ PyData.depthAll ds ≤ j
  | [], _ => ⟨by simp [PyData.showableAll], by simp [PyData.leavesShortAll], by simp [PyData.bulkAll], by simp [PyData.depthAll]⟩
  | d :: ds, h => by
    have h1 := h d List.mem_cons_self
    obtain ⟨a, b, c, e⟩ := tx_all fun d hd => h d (List.mem_cons_of_mem _ hd)
    have hb := h1.bk
    have hp := h1.dp
    refine ⟨by simp [PyData.showableAll, h1.sw, a], by simp [PyData.leavesShortAll, h1.ls, b], ?_, ?_⟩
    · simp only [PyData.bulkAll, List.length_cons, Nat.add_mul]; omega
    · simp only [PyData.depthAll]; omega
theorem tx_tup {k j K : Nat} {ds : List PyData} (h : ∀ d ∈ ds, Tx k j d) (hK : ds.length * (k + 1) ≤ K) : Tx K (j + 1) (.tuple ds) := by
  obtain ⟨a, b, c, e⟩ := tx_all h
  exact ⟨by simp [PyData.showable, a], by simp [PyData.leavesShort, b], by simp only [PyData.bulk]; omega, by simp only [PyData.depth]; omega, lok_tup fun d hd => (h d hd).lo⟩
theorem tx_lst {k j K : Nat} {ds : List PyData} (h : ∀ d ∈ ds, Tx k j d) (hK : ds.length * (k + 1) ≤ K) : Tx K (j + 1) (.list ds) := by
  obtain ⟨a, b, c, e⟩ := tx_all h
  exact ⟨by simp [PyData.showable, a], by simp [PyData.leavesShort, b], by simp only [PyData.bulk]; omega, by simp only [PyData.depth]; omega, lok_lst fun d hd => (h d hd).lo⟩
theorem Tx.ok {k j : Nat} {d : PyData} (h : Tx k j d) (hk : k ≤ 300000 := by decide) (hj : j ≤ 100 := by decide) (hd : d.hasDict = true → noLst d = true) : ReprOk d := by
  refine ⟨h.sw, ?_, Nat.le_trans h.dp hj, hd⟩
  have h1 := PyData.shown_le_bulk 41 (by decide) d h.ls
  have h2 : (41 + 2) * d.bulk ≤ 43 * 300000 := Nat.mul_le_mul (by decide) (Nat.le_trans h.bk hk)
  have := line_ge
  omega
/-! no dicts -/
theorem nod_int {i : Int} : (PyData.int i).hasDict = false := by simp [PyData.hasDict]
theorem nod_all : ∀ {ds : List PyData}, (∀ d ∈ ds, d.hasDict = false) → PyData.hasDictAll ds = false
  | [], _ => by simp [PyData.hasDictAll]
  | d :: ds, h => by simp [PyData.hasDictAll, h d List.mem_cons_self, nod_all fun d hd => h d (List.mem_cons_of_mem _ hd)]
theorem nod_tup {ds : List PyData} (h : ∀ d ∈ ds, d.hasDict = false) : (PyData.tuple ds).hasDict = false := by simp [PyData.hasDict, nod_all h]
theorem nod_lst {ds : List PyData} (h : ∀ d ∈ ds, d.hasDict = false) : (PyData.list ds).hasDict = false := by simp [PyData.hasDict, nod_all h]
theorem nol_all : ∀ {ds : List PyData}, (∀ d ∈ ds, noLst d = true) → noLstAll ds = true
  | [], _ => by simp [noLstAll]
  | d :: ds, h => by simp [noLstAll, h d List.mem_cons_self, nol_all fun d hd => h d (List.mem_cons_of_mem _ hd)]
theorem nol_tup {ds : List PyData} (h : ∀ d ∈ ds, noLst d = true) : noLst (.tuple ds) = true := by simp [noLst, nol_all h]
/-- plain data: no dict in it -/
structure Pl (k j : Nat) (d : PyData) : Prop where
  tx : Tx k j d
  nd : d.hasDict = false
theorem Pl.ok {k j : Nat} {d : PyData} (h : Pl k j d) (hk : k ≤ 300000 := by decide) (hj : j ≤ 100 := by decide) : ReprOk d := h.tx.ok hk hj fun e => by rw [h.nd] at e; cases e
theorem Pl.up {k j k' j' : Nat} {d : PyData} (h : Pl k j d) (hk : k ≤ k') (hj : j ≤ j') : Pl k' j' d := ⟨h.tx.up hk hj, h.nd⟩
theorem pl_int {i : Int} (h : i.natAbs < 10 ^ 40) : Pl 0 0 (.int i) := ⟨tx_int h, nod_int⟩
theorem pl_bool {b : Bool} : Pl 0 0 (.bool b) := ⟨tx_bool, by simp [PyData.hasDict]⟩
theorem pl_none : Pl 0 0 .none := ⟨tx_none, by simp [PyData.hasDict]⟩
theorem pl_tup {k j K : Nat} {ds : List PyData} (h : ∀ d ∈ ds, Pl k j d) (hK : ds.length * (k + 1) ≤ K) : Pl K (j + 1) (.tuple ds) := ⟨tx_tup (fun d hd => (h d hd).tx) hK, nod_tup fun d hd => (h d hd).nd⟩
theorem pl_lst {k j K : Nat} {ds : List PyData} (h : ∀ d ∈ ds, Pl k j d) (hK : ds.length * (k + 1) ≤ K) : Pl K (j + 1) (.list ds) := ⟨tx_lst (fun d hd => (h d hd).tx) hK, nod_lst fun d hd => (h d hd).nd⟩
theorem pl_row {xs : List Int} (h : ∀ x ∈ xs, x.natAbs < 10 ^ 40) (hl : xs.length ≤ 1000) : Pl 1000 1 (rowD xs) := pl_tup (k := 0) (j := 0) (fun d hd => by
  obtain ⟨x, hx, rfl⟩ := List.mem_map.mp hd
  exact pl_int (h x hx)) (by simp; omega)
theorem pl_nats {xs : List Nat} (h : ∀ x ∈ xs, x < 10 ^ 40) (hl : xs.length ≤ 1000) : Pl 1000 1 (.tuple (natsD xs)) := pl_tup (k := 0) (j := 0) (fun d hd => by
  obtain ⟨x, hx, rfl⟩ := List.mem_map.mp hd
  exact pl_int (by simpa using h x hx)) (by simp; omega)
theorem pl_pr {p : Nat × Nat} {n : Nat} (h : p.1 < n ∧ p.2 < n) (hn : n ≤ 1000) : Pl 2 1 (prD p) := pl_tup (k := 0) (j := 0) (fun d hd => by
  have : d = natD p.1 ∨ d = natD p.2 := by simpa using hd
  rcases this with e | e
  · subst e; exact pl_int (by have := h.1; show (p.1 : Int).natAbs < _; simp; omega)
  · subst e; exact pl_int (by have := h.2; show (p.2 : Int).natAbs < _; simp; omega)) (by simp)
theorem pl_fr {n : Nat} {ps : List (Nat × Nat)} (f : FrOk n ps) : Pl 10000 3 (frD n ps) := by
  have h1 := f.n2
  have h2 := f.m
  refine pl_tup (k := 3000) (j := 2) (fun d hd => ?_) (by simp)
  have : d = natD n ∨ d = .tuple (ps.map prD) := by simpa using hd
  rcases this with e | e
  · subst e; exact (pl_int (by show (n : Int).natAbs < _; simp; omega)).up (by omega) (by omega)
  · subst e
    exact pl_tup (k := 2) (j := 1) (fun d hd => by
      obtain ⟨p, hp, rfl⟩ := List.mem_map.mp hd
      exact pl_pr (f.lt p hp) h1) (by simp; omega)
end DL
set_option Elab.async false
set_option linter.all false
set_option maxRecDepth 100000
set_option maxHeartbeats 1000000
set_option autoImplicit false
namespace DL
open PySem PySem.Spec PyProof.Rows L2 DZ
/-! ## values with something otherwise -/
def GoodV (z : PyData) : Prop := (ReprOk z ∧ lok z = true) ∧ ∀ ds, z = .tuple ds → ds.length ≤ 1000
structure OddOk (z : PyData) : Prop where
  tx : Tx 10 2 z
  nd : z.hasDict = false ∨ noLst z = true
  len : ∀ ds, z = .tuple ds → ds.length ≤ 1000
def IntE (d : PyData) : Prop := ∃ x : Int, d = .int x ∧ x.natAbs < 10 ^ 40
theorem IntE.pl {d : PyData} (h : IntE d) : Pl 0 0 d := by
  obtain ⟨x, rfl, h⟩ := h
  exact pl_int h
theorem IntE.nol {d : PyData} (h : IntE d) : noLst d = true := by
  obtain ⟨x, rfl, _⟩ := h
  simp [noLst]
theorem OddOk.good {z : PyData} (h : OddOk z) : GoodV z := ⟨⟨h.tx.ok (hd := fun e => by rcases h.nd with q | q; (· rw [q] at e; cases e); exact q), h.tx.lo⟩, h.len⟩
theorem good_tup {ds : List PyData} (h : ∀ d ∈ ds, IntE d) (hl : ds.length ≤ 1000) : GoodV (.tuple ds) :=
  ⟨⟨(pl_tup (k := 0) (j := 0) (K := 1000) (fun d hd => (h d hd).pl) (by omega)).ok, lok_tup fun d hd => (h d hd).pl.tx.lo⟩, fun es e => by cases e; exact hl⟩
theorem good_lst {ds : List PyData} (h : ∀ d ∈ ds, IntE d) (hl : ds.length ≤ 1000) : GoodV (.list ds) :=
  ⟨⟨(pl_lst (k := 0) (j := 0) (K := 1000) (fun d hd => (h d hd).pl) (by omega)).ok, lok_lst fun d hd => (h d hd).pl.tx.lo⟩, fun es e => by cases e⟩
theorem good_mix {as bs : List PyData} {o : PyData} (ha : ∀ d ∈ as, IntE d) (hb : ∀ d ∈ bs, IntE d) (ho : OddOk o) (hl : as.length + bs.length ≤ 900) : GoodV (.tuple (as ++ [o] ++ bs)) := by
  have hm : ∀ d ∈ as ++ [o] ++ bs, IntE d ∨ d = o := fun d hd => by
    simp at hd
    rcases hd with h | h | h
    · exact .inl (ha d h)
    · exact .inr h
    · exact .inl (hb d h)
  have ht : Tx 11000 3 (.tuple (as ++ [o] ++ bs)) := tx_tup (k := 10) (j := 2) (K := 11000) (fun d hd => ?_) (by simp; omega)
  refine ⟨⟨ht.ok (hd := fun e => ?_), ht.lo⟩, fun es e => by cases e; simp; omega⟩
  case' refine_1 => skip
  · rcases hm d hd with h | h
    · exact h.pl.tx.up (by omega) (by omega)
    · rw [h]; exact ho.tx
  · rcases ho.nd with q | q
    · rw [nod_tup (fun d hd => by
        rcases hm d hd with h | h
        · exact h.pl.nd
        · rw [h]; exact q)] at e
      cases e
    · exact nol_tup fun d hd => by
        rcases hm d hd with h | h
        · exact h.nol
        · rw [h]; exact q
theorem cut_mem {xs : List PyData} {lo hi : Option Int} : ∀ d ∈ cutD xs lo hi, d ∈ xs := fun d hd => List.mem_of_mem_drop (List.mem_of_mem_take hd)
theorem cut_len {xs : List PyData} {lo hi : Option Int} : (cutD xs lo hi).length ≤ xs.length := by
  unfold cutD
  rw [List.length_take, List.length_drop]; omega
def oddL : List PyData := [.none, .int 0, .int 1, .int 2, .bool true, .int (-1), .str "a", .str "sum", .str "brings", .str "heights", .str "against", .tuple [], .tuple [.int 0], .tuple [.int 0, .int 0], .list [], .dict [], .int (10 ^ 6)]
theorem odd_int {i : Int} (h : i.natAbs < 10 ^ 40) : OddOk (.int i) := ⟨(tx_int h).up (by omega) (by omega), .inl nod_int, fun ds e => by cases e⟩
theorem odd_str {x : Str} (h0 : PyData.strOk (reprText x) = true) (h : (x.cps.toList.all fun c => decide (c < 16 ^ 8)) = true) (hl : x.cps.size ≤ 10) : OddOk (.str x) :=
  ⟨⟨by simp [PyData.showable], by simpa [PyData.leavesShort] using h, by simpa [PyData.bulk] using hl, by simp [PyData.depth], by simpa [lok] using h0⟩, .inl (by simp [PyData.hasDict]), fun ds e => by cases e⟩
theorem odd_ints {ds : List PyData} (h : ∀ d ∈ ds, IntE d) (hl : ds.length ≤ 10) : OddOk (.tuple ds) :=
  ⟨(pl_tup (k := 0) (j := 0) (K := 10) (fun d hd => (h d hd).pl) (by omega)).tx.up (by omega) (by omega), .inl (nod_tup fun d hd => (h d hd).pl.nd), fun es e => by cases e; omega⟩
theorem int0E : IntE (.int 0) := ⟨0, rfl, by decide⟩
theorem odd_all : ∀ z ∈ oddL, OddOk z := by
  intro z hz
  simp only [oddL, List.mem_cons, List.not_mem_nil, or_false] at hz
  rcases hz with e | e | e | e | e | e | e | e | e | e | e | e | e | e | e | e | e <;> subst e
  · exact ⟨tx_none.up (by omega) (by omega), .inl (by simp [PyData.hasDict]), fun ds e => by cases e⟩
  · exact odd_int (by decide)
  · exact odd_int (by decide)
  · exact odd_int (by decide)
  · exact ⟨tx_bool.up (by omega) (by omega), .inl (by simp [PyData.hasDict]), fun ds e => by cases e⟩
  · exact odd_int (by decide)
  · exact odd_str (by decide +kernel) (by decide +kernel) (by decide +kernel)
  · exact odd_str (by decide +kernel) (by decide +kernel) (by decide +kernel)
  · exact odd_str (by decide +kernel) (by decide +kernel) (by decide +kernel)
  · exact odd_str (by decide +kernel) (by decide +kernel) (by decide +kernel)
  · exact odd_str (by decide +kernel) (by decide +kernel) (by decide +kernel)
  · exact odd_ints (by simp) (by simp)
  · exact odd_ints (by simpa using int0E) (by simp)
  · exact odd_ints (by simpa using int0E) (by simp)
  · exact ⟨⟨by simp [PyData.showable, PyData.showableAll], by simp [PyData.leavesShort, PyData.leavesShortAll], by simp [PyData.bulk, PyData.bulkAll], by simp [PyData.depth, PyData.depthAll], by simp [lok, lokAll]⟩, .inl (by simp [PyData.hasDict, PyData.hasDictAll]), fun ds e => by cases e⟩
  · exact ⟨⟨by simp [PyData.showable, PyData.showableKv], by simp [PyData.leavesShort, PyData.leavesShortKv], by simp [PyData.bulk, PyData.bulkKv], by simp [PyData.depth, PyData.depthKv], by simp [lok, lokKv]⟩, .inr (by simp [noLst, noLstKv]), fun ds e => by cases e⟩
  · exact odd_int (by decide)
theorem cpow6 : CPow 10 6 := by
  unfold CPow
  decide
def sBent0 : DSp := fun cs P => ∃ x : Int, cs = [.src, .sh (.int x)] ∧ ∀ z, OddOk z → P z
def sFalse : DSp := fun _ _ => False
theorem h_bent0 : ∀ cs Q, cs.length = 2 → sBent0 cs Q → w__law_bent sPick sOf sIsWhole sFalse ⟨fun _ => Q .none, Q⟩ (envOf ["source", "value", "odd", "some", "k", "way"] cs) := by
  rintro cs Q _ ⟨x, rfl, q⟩
  have hL := line_ge
  simp [w__law_bent, wVar_sh, wDict0, isTup, -Bool.exists_bool]
  refine ⟨by omega, by omega, cpow6, by omega, _, oddL, rfl, rfl, by decide, by decide, fun z hz => ⟨by omega, _, [z], rfl, rfl, by simp, by simp, fun y hy => ?_⟩⟩
  have : y = z := by simpa using hy
  subst this
  exact q y (odd_all y hz)
theorem int_of_row {row : List Int} (hb : ∀ x ∈ row, x.natAbs < 10 ^ 39) : ∀ d ∈ row.map PyData.int, IntE d := fun d hd => by
  obtain ⟨x, hx, rfl⟩ := List.mem_map.mp hd
  exact ⟨x, rfl, Nat.lt_trans (hb x hx) (by decide)⟩
def sBent1 : DSp := fun cs P => ∃ row : List Int, cs = [.src, .sh (rowD row)] ∧ row.length ≤ 400 ∧ (∀ x ∈ row, x.natAbs < 10 ^ 39) ∧ ∀ z, GoodV z → P z
theorem h_bent1 : ∀ cs Q, cs.length = 2 → sBent1 cs Q → w__law_bent sPick sOf sIsWhole sBent0 ⟨fun _ => Q .none, Q⟩ (envOf ["source", "value", "odd", "some", "k", "way"] cs) := by
  rintro cs Q _ ⟨row, rfl, hl, hb, q⟩
  have hL := line_ge
  have hE := int_of_row hb
  simp [w__law_bent, wVar_sh, wDict0, isTup, rowD, -Bool.exists_bool]
  refine ⟨by omega, by omega, cpow6, by omega, ?_⟩
  generalize hR : row.map PyData.int = R at hE
  have hRl : R.length = row.length := by rw [← hR]; simp
  have hRe : intsD row = R := hR
  rw [hRe]
  have cm : ∀ (lo hi : Option Int), ∀ d ∈ cutD R lo hi, IntE d := fun lo hi d hd => hE d (cut_mem d hd)
  have cl : ∀ (lo hi : Option Int), (cutD R lo hi).length ≤ 400 := fun lo hi => Nat.le_trans cut_len (by omega)
  have e1 : ∀ d ∈ ([.int 0] : List PyData), IntE d := fun d hd => by
    have : d = .int 0 := by simpa using hd
    subst this; exact int0E
  have first : sOf [Sl.src, Sl.sh (.list oddL)] fun d => 1 ≤ sizeLine ∧ row.length + (cutD R none (some 1)).length ≤ sizeLine ∧ 1 ≤ sizeLine ∧ row.length + 1 ≤ sizeLine ∧ 6 ≤ sizeLine ∧ 7 ≤ sizeLine ∧
      sOf [Sl.src, Sl.sh (.list [d, .tuple (cutD R (some 1) none), .tuple (cutD R none (some (-1))), .tuple (R ++ cutD R none (some 1)), .list R, .tuple R.reverse, .tuple (R ++ [.int 0])])] fun z => Q z := by
    refine ⟨_, oddL, rfl, rfl, by decide, by decide, fun z hz => ?_⟩
    have c1 := cl none (some 1)
    refine ⟨by omega, by omega, by omega, by omega, by omega, by omega, _, _, rfl, rfl, by simp, by simp, fun y hy => q y ?_⟩
    simp only [List.mem_cons, List.not_mem_nil, or_false] at hy
    rcases hy with e | e | e | e | e | e | e <;> subst e
    · exact (odd_all y hz).good
    · exact good_tup (cm _ _) (Nat.le_trans (cl _ _) (by omega))
    · exact good_tup (cm _ _) (Nat.le_trans (cl _ _) (by omega))
    · refine good_tup (fun d hd => ?_) (by simp; omega)
      rcases List.mem_append.mp hd with h | h
      · exact hE d h
      · exact cm _ _ d h
    · exact good_lst hE (by omega)
    · exact good_tup (fun d hd => hE d (List.mem_reverse.mp hd)) (by simp; omega)
    · refine good_tup (fun d hd => ?_) (by simp; omega)
      rcases List.mem_append.mp hd with h | h
      · exact hE d h
      · exact e1 d h
  have shR : SeqAt.shaped (.tuple R) = true := by rw [← hR]; exact shaped_row
  refine ⟨shR, shaped_of (shp_tup (n := 0) (by simp)), ?_⟩
  by_cases h0 : R = []
  · have : PyData.eqv (.tuple R) (.tuple []) = true := by rw [h0]; rfl
    rw [if_pos this]
    exact first
  have hne : PyData.eqv (.tuple R) (.tuple []) = false := by
    cases R with
    | nil => exact absurd rfl h0
    | cons a b => rfl
  rw [if_neg (by rw [hne]; decide)]
  have hpos : 0 < R.length := List.length_pos_iff.mpr h0
  refine ⟨5, rfl, by decide, fun i _ _ => ⟨shaped_int, ?_⟩⟩
  split
  · exact first
  refine ⟨row.length, rfl, by omega, fun k hk1 hk2 => ⟨6, rfl, by decide, fun way _ _ => ?_⟩⟩
  obtain ⟨k', rfl⟩ : ∃ k' : Nat, k = (k' : Int) := ⟨k.toNat, by omega⟩
  have hk : k' < row.length := by omega
  have hx := ith_at (hs := row) (x := k') hk
  rw [hRe] at hx
  have hxb : (ith row k').natAbs < 10 ^ 39 := hb _ (List.mem_of_getElem? (ith_get hk))
  have c1 := cl none (some (k' : Int))
  have c2 := cl (some ((k' : Int) + 1)) none
  by_cases hw : way < 3
  · simp [hw, -Bool.exists_bool]
    refine ⟨_, hx, _, rfl, ?_⟩
    refine ⟨true, by simp [isW, isInt, isBool], ?_⟩
    simp
    refine ⟨_, hx, ?_⟩
    simp
    refine ⟨_, hx, ?_⟩
    simp
    refine ⟨_, hx, ?_⟩
    simp
    refine ⟨_, hx, ?_⟩
    simp
    refine ⟨by omega, _, _, rfl, rfl, by simp, by simp, fun z hz => ⟨by omega, by omega, by omega, ?_⟩⟩
    have hzo : OddOk z := by
      simp only [List.mem_cons, List.not_mem_nil, or_false] at hz
      rcases hz with e | e | e | e <;> subst e <;> exact odd_int (by omega)
    have := good_mix (cm none (some (k' : Int))) (cm (some ((k' : Int) + 1)) none) hzo (by omega)
    rw [List.append_assoc] at this
    exact q _ this
  · simp [hw, -Bool.exists_bool]
    split
    · refine ⟨by omega, q _ (good_tup (fun d hd => ?_) (by simp; omega))⟩
      rcases List.mem_append.mp hd with h | h
      · exact cm _ _ d h
      · exact cm _ _ d h
    · refine ⟨_, hx, _, rfl, fun z hz => ⟨by omega, by omega, by omega, ?_⟩⟩
      have := good_mix (cm none (some (k' : Int))) (cm (some ((k' : Int) + 1)) none) hz (by omega)
      rw [List.append_assoc] at this
      exact q _ this
end DL
set_option Elab.async false
set_option linter.all false
set_option maxRecDepth 100000
set_option maxHeartbeats 1000000
set_option autoImplicit false
namespace DL
open PySem PySem.Spec PyProof.Rows L2 DZ
def L1 : WS := (wPar 3 4 .s .s (wUser sHung (wcS 1 (wcD (wBin ixB (wLst (wCons (wC (.int 2)) (wCons (wC (.int 4)) (wCons (wC (.int 6)) (wCons (wC (.int 7)) wNil))))) (wVar 2)) (wcD (wBin ixB (wLst (wCons (wC (.int 3)) (wCons (wC (.int 7)) (wCons (wC (.int 10)) (wCons (wC (.int 12)) wNil))))) (wVar 2)) wc0)))) (wUser sOf (wcS 1 (wcD (wLst (wCons (wC (.int 1)) (wCons (wC (.int 3)) (wCons (wBin powB (wC (.int 10)) (wC (.int 9))) wNil)))) wc0))))
def L2 : WS := (wPar3 5 6 7 (wBin ixB (wVar 3) (wC (.int 0))) (wCall (wCons (wBin ixB (wVar 3) (wC (.int 1))) wNil) lenC) (wCall (wCons (wVar 3) wNil) reprC))
def L3 : WS := (wSet 9 (wCall (wCons (wComp (wRg1 (wVar 6)) (wName 8) wYes (wBin subB (wUser sPick (wcS 1 (wcD (wBin addB (wBin mulB (wC (.int 2)) (wVar 4)) (wC (.int 1))) wc0))) (wVar 4)) [8]) wNil) tupleC))
def L4 : WS := (wSet 10 (wCall (wCons (wVar 4) (wCons (wC (.int 1000)) wNil)) minC))
def L5 : WS := (wPar 11 12 .s .s (wUser sDrawnRing (wcS 1 (wcD (wVar 3) (wcD (wVar 10) wc0)))) (wUser sDrawnCut (wcS 1 (wcD (wVar 3) (wcD (wVar 10) wc0)))))
def L6 : WS := (wSet 14 (wCall (wCons (wComp (wSeq (wUser sOf (wcS 1 (wcD (wLst (wCons (wVar 11) (wCons (wVar 12) wNil))) wc0)))) (wName 13) wYes (wBin addB (wVar 13) (wCall (wCons (wBin eqB (wUser sPick (wcS 1 (wcD (wC (.int 6)) wc0))) (wC (.int 0))) wNil) intC)) [13]) wNil) tupleC))
def L7 : WS := (wFor (wSeq (wTup (wCons (wVar 9) (wCons (wVar 11) (wCons (wVar 12) (wCons (wVar 14) (wCons (wBin tmulB (wTup (wCons (wC (.int 0)) wNil)) (wVar 6)) wNil))))))) (wName 15) (wSeqS (wSet 16 (wUser sHeights (wcD (wVar 3) (wcD (wVar 15) wc0))))
    (wSeqS (wSet 17 (wLst (wCons (wUser sBrought (wcD (wVar 3) (wcD (wVar 15) wc0))) (wCons (wUser sIsRing (wcD (wVar 3) (wcD (wVar 15) wc0))) wNil))))
    (wSeqS (wIfS (wTest (wBin neB (wCall (wCons (wLst (wCons (wUser sBrought (wcD (wVar 3) (wcD (wVar 15) wc0))) (wCons (wUser sIsRing (wcD (wVar 3) (wcD (wVar 15) wc0))) wNil))) wNil) reprC) (wCall (wCons (wVar 17) wNil) reprC))) (wRet (wC (.bool false))) wNilS)
    (wSeqS (wIfS (wTest (wBin neB (wCall (wCons (wLst (wCons (wUser sHeights (wcD (wVar 3) (wcD (wVar 15) wc0))) (wCons (wUser sIsCut (wcD (wVar 3) (wcD (wVar 15) wc0))) wNil))) wNil) reprC) (wCall (wCons (wLst (wCons (wVar 16) (wCons (wBin notNB (wVar 16) (wC .none)) wNil))) wNil) reprC))) (wRet (wC (.bool false))) wNilS)
    (wSeqS (wIfS (wTest (wBin neB (wCall (wCons (wLst (wCons (wUser sRowSize (wcD (wVar 15) wc0)) (wCons (wUser sRoads (wcD (wVar 15) wc0)) wNil))) wNil) reprC) (wCall (wCons (wLst (wCons (wUser sProduct (wcD (wVar 15) (wcD (wVar 15) wc0))) (wCons (wUser sRoads (wcD (wVar 15) wc0)) wNil))) wNil) reprC))) (wRet (wC (.bool false))) wNilS)
    (wSeqS (wIfS (wTest (wBin neB (wCall (wCons (wUser sProduct (wcD (wVar 15) (wcD (wVar 12) wc0))) wNil) reprC) (wCall (wCons (wUser sProduct (wcD (wVar 15) (wcD (wVar 12) wc0))) wNil) reprC))) (wRet (wC (.bool false))) wNilS)
    (wIfS (wAndT (wTest (wUser sIsRing (wcD (wVar 3) (wcD (wVar 15) wc0)))) (wAndT (wTest (wUser sIsCut (wcD (wVar 3) (wcD (wVar 15) wc0)))) (wTest (wBin neB (wUser sRoads (wcD (wVar 15) wc0)) (wTup wNil))))) (wRet (wC (.bool false))) wNilS))))))))
def L8 : WS := (wIfS (wOrT (wTest (wBin neB (wUser sProduct (wcD (wVar 11) (wcD (wVar 12) wc0))) (wC (.int 0)))) (wOrT (wNotT (wTest (wUser sIsRing (wcD (wVar 3) (wcD (wVar 11) wc0))))) (wNotT (wTest (wUser sIsCut (wcD (wVar 3) (wcD (wVar 12) wc0))))))) (wRet (wC (.bool false))) wNilS)
def L9 : WS := (wSet 16 (wCall (wCons (wComp (wRg1 (wVar 5)) (wName 18) wYes (wBin subB (wUser sPick (wcS 1 (wcD (wC (.int 9)) wc0))) (wC (.int 4))) [18]) wNil) tupleC))
def L10 : WS := (wSet 19 (wLst (wCons (wUser sCut (wcD (wVar 3) (wcD (wVar 16) wc0))) (wCons (wUser sCut (wcD (wVar 3) (wcD (wCall (wCons (wVar 16) wNil) listC) wc0))) wNil))))
def L11 : WS := (wIfS (wTest (wBin neB (wCall (wCons (wVar 19) wNil) reprC) (wCall (wCons (wBin mulB (wLst (wCons (wUser sCut (wcD (wVar 3) (wcD (wVar 16) wc0))) wNil)) (wC (.int 2))) wNil) reprC))) (wRet (wC (.bool false))) wNilS)
def L12 : WS := (wSet 20 (wComp (wSeq (wSl (wTup (wCons (wVar 11) (wCons (wVar 12) (wCons (wVar 9) wNil)))) wPn (wPs (wUser sPick (wcS 1 (wcD (wC (.int 4)) wc0)))))) (wName 15) wYes (wTup (wCons (wBin subB (wUser sPick (wcS 1 (wcD (wC (.int 7)) wc0))) (wC (.int 3))) (wCons (wVar 15) wNil))) [15]))
def L13 : WS := (wIfS (wTest (wBin neB (wCall (wCons (wLst (wCons (wUser sAdded (wcD (wVar 6) (wcD (wVar 20) wc0))) (wCons (wUser sAdded (wcD (wVar 6) (wcD (wCall (wCons (wVar 20) wNil) tupleC) wc0))) wNil))) wNil) reprC) (wCall (wCons (wBin mulB (wLst (wCons (wUser sAdded (wcD (wVar 6) (wcD (wVar 20) wc0))) wNil)) (wC (.int 2))) wNil) reprC))) (wRet (wC (.bool false))) wNilS)
def L14 : WS := (wSet 21 (wUser sDrawnTree (wcS 1 (wcD (wVar 3) wc0))))
def L15 : WS := (wSet 22 (wUser sAlong (wcD (wVar 3) (wcD (wVar 21) (wcD (wVar 9) wc0)))))
def L16 : WS := (wIfS (wOrT (wTest (wBin neB (wCall (wCons (wUser sTold (wcD (wVar 3) wc0)) wNil) reprC) (wCall (wCons (wUser sTold (wcD (wVar 3) wc0)) wNil) reprC))) (wOrT (wNotT (wTest (wUser (sWholeRow true) (wcD (wVar 22) (wcD (wVar 5) wc0))))) (wTest (wBin neB (wBin ixB (wVar 22) (wC (.int 0))) (wC (.int 0)))))) (wRet (wC (.bool false))) wNilS)
def L17 : WS := (wIfS (wTest (wBin neB (wComp (wSeq (wVar 21)) (wName 8) (wTest (wBin neB (wBin subB (wBin ixB (wVar 22) (wBin ixB (wBin ixB (wBin ixB (wVar 3) (wC (.int 1))) (wVar 8)) (wC (.int 1)))) (wBin ixB (wVar 22) (wBin ixB (wBin ixB (wBin ixB (wVar 3) (wC (.int 1))) (wVar 8)) (wC (.int 0))))) (wBin ixB (wVar 9) (wVar 8)))) (wVar 8) [8]) (wLst wNil))) (wRet (wC (.bool false))) wNilS)
def L18 : WS := (wSet 23 (wUser sOf (wcS 1 (wcD (wLst (wCons (wC .none) (wCons (wC (.bool true)) (wCons (wC (.str "0")) (wCons (wTup wNil) (wCons (wTup (wCons (wC (.int 0)) wNil)) (wCons (wLst (wCons (wC (.int 0)) wNil)) (wCons wDict0 wNil)))))))) wc0))))
def L19 : WS := (wSet 24 (wLst (wCons (wVar 9) (wCons (wCall (wCons (wVar 9) wNil) listC) (wCons (wSl (wVar 9) (wPs (wC (.int 1))) wPn) (wCons (wBin addB (wVar 9) (wTup (wCons (wC (.int 0)) wNil))) (wCons (wBin addB (wBin addB (wSl (wVar 9) wPn (wPs (wC (.int 1)))) (wTup (wCons (wVar 23) wNil))) (wSl (wVar 9) (wPs (wC (.int 2))) wPn)) (wCons (wVar 23) (wCons (wC .none) (wCons (wBin tmulB (wTup (wCons (wC (.int 0)) wNil)) (wVar 6)) wNil))))))))))
def L20 : WS := (wFor (wSeq (wBin addB (wVar 24) (wComp (wRg1 (wC (.int 4))) (wName 26) wYes (wUser sBent1 (wcS 1 (wcD (wVar 9) wc0))) [26]))) (wName 25) (wSeqS (wSet 27 (wCall (wCons (wVar 25) wNil) reprC))
    (wIfS (wOrT (wTest (wBin neB (wCall (wCons (wUser (sWholeRow false) (wcD (wVar 6) (wcD (wVar 25) wc0))) wNil) reprC) (wCall (wCons (wUser (sWholeRow true) (wcD (wVar 25) (wcD (wVar 6) wc0))) wNil) reprC))) (wTest (wBin neB (wCall (wCons (wVar 25) wNil) reprC) (wVar 27)))) (wRet (wC (.bool false))) wNilS)))
def L21 : WS := (wSet 28 (wTup (wCons (wBin addB (wVar 5) (wC (.int 1))) (wCons (wBin ixB (wVar 3) (wC (.int 1))) wNil))))
def L22 : WS := (wIfS (wOrT (wTest (wBin (bbB fun a b => !decide (a = b)) (wUser sHangs (wcD (wVar 3) wc0)) (wC (.bool true)))) (wOrT (wTest (wBin (bbB fun a b => !decide (a = b)) (wUser sHangs (wcD (wVar 28) wc0)) (wC (.bool false)))) (wTest (wBin neB (wCall (wCons (wVar 3) wNil) reprC) (wVar 7))))) (wRet (wC (.bool false))) wNilS)
def LRet : WS := (wRet (wBin eqB (wUser sBrought (wcD (wTup (wCons (wC (.int 2)) (wCons (wTup (wCons (wTup (wCons (wC (.int 0)) (wCons (wC (.int 1)) wNil))) (wCons (wTup (wCons (wC (.int 0)) (wCons (wC (.int 1)) wNil))) (wCons (wTup (wCons (wC (.int 0)) (wCons (wC (.int 1)) wNil))) wNil)))) wNil))) (wcD (wTup (wCons (wC (.int 1)) (wCons (wC (.int 1)) (wCons (wC (.int 0)) wNil)))) wc0))) (wTup (wCons (wNeg (wC (.int 2))) (wCons (wC (.int 2)) wNil)))))
theorem law_split : w_law sHung sOf sPick sDrawnRing sDrawnCut sHeights sBrought sIsRing sBrought sIsRing sHeights sIsCut sRowSize sRoads sProduct sRoads sProduct sCut sCut sAdded sAdded sDrawnTree sAlong sTold sTold (sWholeRow true) sBent1 (sWholeRow false) sHangs = wSeqS (wFor (wRg1 (wC (.int 4))) (wName 2) (wSeqS L1 (wSeqS L2 (wSeqS L3 (wSeqS L4 (wSeqS L5 (wSeqS L6 (wSeqS L7 (wSeqS L8 (wSeqS L9 (wSeqS L10 (wSeqS L11 (wSeqS L12 (wSeqS L13 (wSeqS L14 (wSeqS L15 (wSeqS L16 (wSeqS L17 (wSeqS L18 (wSeqS L19 (wSeqS L20 (wSeqS L21 L22)))))))))))))))))))))) LRet := rfl
end DL
set_option Elab.async false
set_option linter.all false
set_option maxRecDepth 100000
set_option maxHeartbeats 1000000
set_option autoImplicit false
namespace DL
open PySem PySem.Spec PyProof.Rows L2 DZ
structure LF (n : Nat) (ps : List (Nat × Nat)) (F : Int) (so ring ch late : List Int) : Prop where
  f : FrOk n ps
  c : Conn n ps
  n100 : n ≤ 100
  m300 : ps.length ≤ 300
  F1 : 1 ≤ F
  F2 : F ≤ 10 ^ 9
  sol : so.length = ps.length
  sob : ∀ x ∈ so, x.natAbs ≤ 10 ^ 9
  rl : ring.length = ps.length
  rr : RingRow n ps ring
  rb : ∀ x ∈ ring, x.natAbs ≤ 1000000
  chl : ch.length = n
  chb : ∀ x ∈ ch, x.natAbs ≤ 1000
  ll : late.length = ps.length
  lb : ∀ x ∈ late, x.natAbs ≤ 1000001
theorem cut_bnd {n : Nat} {ps : List (Nat × Nat)} {hs : List Int} {B : Nat} (f : FrOk n ps) (hl : hs.length = n) (hb : ∀ x ∈ hs, x.natAbs ≤ B) : ∀ x ∈ cutL ps hs, x.natAbs ≤ 2 * B := by
  intro x hx
  obtain ⟨p, hp, e⟩ := List.mem_map.mp hx
  obtain ⟨h1, h2⟩ := f.lt p hp
  have k1 := hb _ (List.mem_of_getElem? (ith_get (hs := hs) (x := p.1) (by omega)))
  have k2 := hb _ (List.mem_of_getElem? (ith_get (hs := hs) (x := p.2) (by omega)))
  omega
theorem cut_len' {ps : List (Nat × Nat)} {hs : List Int} : (cutL ps hs).length = ps.length := by simp [cutL]
theorem l_A1 {K : Nv → Prop} {rt : PyData → Prop} {x0 x3 x4 x5 x6 x7 x9 x10 x11 x12 x14 x15 x16 x17 x19 x20 x21 x22 x23 x24 x25 x27 x28 : Option Sl} {lap : Nat} (hlap : lap < 4)
    (h : ∀ n ps F so, FrOk n ps → Conn n ps → n ≤ 100 → ps.length ≤ 300 → 1 ≤ F → F ≤ 10 ^ 9 → so.length = ps.length → (∀ x ∈ so, x.natAbs ≤ 10 ^ 9) →
      K [x0, some .src, some (.sh (natD lap)), some (.sh (frD n ps)), some (.sh (.int F)), some (.sh (natD n)), some (.sh (natD ps.length)), some (.sh (.str (frD n ps).shown)), none, some (.sh (rowD so)), x10, x11, x12, none, x14, x15, x16, x17, none, x19, x20, x21, x22, x23, x24, x25, none, x27, x28]) :
    L1 ⟨fun e => L2 ⟨fun e => L3 ⟨K, rt⟩ e, rt⟩ e, rt⟩ [x0, some .src, some (.sh (natD lap)), x3, x4, x5, x6, x7, none, x9, x10, x11, x12, none, x14, x15, x16, x17, none, x19, x20, x21, x22, x23, x24, x25, none, x27, x28] := by
  have hL := line_ge
  have e1 : ∃ a b : Int, atI [PyData.int 2, .int 4, .int 6, .int 7] (lap : Int) = some (.int a) ∧ atI [PyData.int 3, .int 7, .int 10, .int 12] (lap : Int) = some (.int b) ∧ 1 ≤ a ∧ a ≤ 100 ∧ 0 ≤ b ∧ b ≤ 100 := by
    have : lap = 0 ∨ lap = 1 ∨ lap = 2 ∨ lap = 3 := by omega
    rcases this with e | e | e | e <;> subst e
    · exact ⟨2, 3, rfl, rfl, by omega, by omega, by omega, by omega⟩
    · exact ⟨4, 7, rfl, rfl, by omega, by omega, by omega, by omega⟩
    · exact ⟨6, 10, rfl, rfl, by omega, by omega, by omega, by omega⟩
    · exact ⟨7, 12, rfl, rfl, by omega, by omega, by omega, by omega⟩
  obtain ⟨a, b, ha, hb, a1, a2, b1, b2⟩ := e1
  simp [L1, wVar_sh, ha, hb, -Bool.exists_bool]
  refine ⟨by omega, a, b, rfl, a1, a2, b1, b2, fun n ps f c n1 m1 => ?_⟩
  simp [-Bool.exists_bool]
  refine ⟨by unfold CPow; decide, by omega, _, _, rfl, rfl, by simp, by simp, fun z hz => ?_⟩
  have hz2 : ∃ F : Int, z = .int F ∧ 1 ≤ F ∧ F ≤ 10 ^ 9 := by
    simp only [List.mem_cons, List.not_mem_nil, or_false] at hz
    rcases hz with e | e | e <;> subst e
    · exact ⟨1, rfl, by decide, by decide⟩
    · exact ⟨3, rfl, by decide, by decide⟩
    · exact ⟨_, rfl, by decide, by decide⟩
  obtain ⟨F, rfl, F1, F2⟩ := hz2
  simp [L2, wVar_sh, -Bool.exists_bool]
  refine ⟨(pl_fr f).ok, ?_⟩
  simp [L3, wVar_sh, wipeN, -Bool.exists_bool]
  refine ⟨by omega, ?_⟩
  rw [rgD_nats]
  refine comp_any natD PyData.int (fun x => x.natAbs ≤ 10 ^ 9) (List.range ps.length) [] (by simp; omega) (fun r hr C N hC => ?_) (fun zs hz1 hz2 => ?_)
  · simp [wVar_sh, sPick, wipeN, -Bool.exists_bool]
    refine ⟨by omega, fun i k1 k2 => ?_⟩
    exact hC (i - F) (by omega)
  · have hz1 : zs.length = ps.length := by simpa using hz1
    simp [backN, backAt]
    exact h n ps F zs f c n1 m1 F1 F2 hz1 hz2
theorem l_A2 {K : Nv → Prop} {rt : PyData → Prop} {n : Nat} {ps : List (Nat × Nat)} {F : Int} {so : List Int} {x0 x2 x5 x7 x10 x11 x12 x14 x15 x16 x17 x19 x20 x21 x22 x23 x24 x25 x27 x28 : Option Sl} (f : FrOk n ps) (c : Conn n ps) (n1 : n ≤ 100) (m1 : ps.length ≤ 300) (F1 : 1 ≤ F) (F2 : F ≤ 10 ^ 9) (s1 : so.length = ps.length) (s2 : ∀ x ∈ so, x.natAbs ≤ 10 ^ 9)
    (h : ∀ W ring ch late, LF n ps F so ring ch late →
      K [x0, some .src, x2, some (.sh (frD n ps)), some (.sh (.int F)), x5, some (.sh (natD ps.length)), x7, none, some (.sh (rowD so)), some (.sh (.int W)), some (.sh (rowD ring)), some (.sh (rowD (cutL ps ch))), none, some (.sh (rowD late)), x15, x16, x17, none, x19, x20, x21, x22, x23, x24, x25, none, x27, x28]) :
    L4 ⟨fun e => L5 ⟨fun e => L6 ⟨K, rt⟩ e, rt⟩ e, rt⟩ [x0, some .src, x2, some (.sh (frD n ps)), some (.sh (.int F)), x5, some (.sh (natD ps.length)), x7, none, some (.sh (rowD so)), x10, x11, x12, none, x14, x15, x16, x17, none, x19, x20, x21, x22, x23, x24, x25, none, x27, x28] := by
  have hL := line_ge
  simp [L4, wVar_sh, -Bool.exists_bool]
  obtain ⟨W, hW, W1, W2⟩ : ∃ W : Int, (if 1000 < F then 1000 else F) = W ∧ 0 ≤ W ∧ W ≤ 1000 := ⟨_, rfl, by split <;> omega, by split <;> omega⟩
  rw [hW]
  simp [L5, wVar_sh, -Bool.exists_bool]
  refine ⟨n, ps, W, rfl, f, c, W1, W2, fun ring r1 r2 r3 => ?_⟩
  simp [wVar_sh, -Bool.exists_bool]
  refine ⟨n, ps, W, rfl, f, W1, W2, fun ch c1 c2 => ?_⟩
  simp [L6, wVar_sh, -Bool.exists_bool]
  refine ⟨by omega, _, _, rfl, rfl, by simp, by simp, fun z hz => ?_⟩
  have hz2 : ∃ xs : List Int, z = rowD xs ∧ xs.length = ps.length ∧ ∀ x ∈ xs, x.natAbs ≤ 1000000 := by
    simp only [List.mem_cons, List.not_mem_nil, or_false] at hz
    rcases hz with e | e <;> subst e
    · exact ⟨ring, rfl, r1, r3⟩
    · exact ⟨_, rfl, cut_len', fun x hx => Nat.le_trans (cut_bnd f c1 c2 x hx) (by omega)⟩
  obtain ⟨xs, rfl, x1, x2'⟩ := hz2
  simp [items_row, wipeN, -Bool.exists_bool]
  refine comp_any PyData.int PyData.int (fun x => x.natAbs ≤ 1000001) xs [] (by simp; have := f.m; omega) (fun r hr C N hC => ?_) (fun zs hz1 hz2 => ?_)
  · simp [wVar_sh, sPick, wipeN, -Bool.exists_bool]
    intro i k1 k2
    have := x2' r hr
    refine hC _ ?_
    split <;> omega
  · have hz1 : zs.length = xs.length := hz1
    simp [backN, backAt]
    exact h W ring ch zs ⟨f, c, n1, m1, F1, F2, s1, s2, r1, r2, r3, c1, c2, by omega, hz2⟩
end DL
set_option Elab.async false
set_option linter.all false
set_option maxRecDepth 100000
set_option maxHeartbeats 1000000
set_option autoImplicit false
namespace DL
open PySem PySem.Spec PyProof.Rows L2 DZ
def LB : WS := (wSeqS (wSet 16 (wUser sHeights (wcD (wVar 3) (wcD (wVar 15) wc0))))
    (wSeqS (wSet 17 (wLst (wCons (wUser sBrought (wcD (wVar 3) (wcD (wVar 15) wc0))) (wCons (wUser sIsRing (wcD (wVar 3) (wcD (wVar 15) wc0))) wNil))))
    (wSeqS (wIfS (wTest (wBin neB (wCall (wCons (wLst (wCons (wUser sBrought (wcD (wVar 3) (wcD (wVar 15) wc0))) (wCons (wUser sIsRing (wcD (wVar 3) (wcD (wVar 15) wc0))) wNil))) wNil) reprC) (wCall (wCons (wVar 17) wNil) reprC))) (wRet (wC (.bool false))) wNilS)
    (wSeqS (wIfS (wTest (wBin neB (wCall (wCons (wLst (wCons (wUser sHeights (wcD (wVar 3) (wcD (wVar 15) wc0))) (wCons (wUser sIsCut (wcD (wVar 3) (wcD (wVar 15) wc0))) wNil))) wNil) reprC) (wCall (wCons (wLst (wCons (wVar 16) (wCons (wBin notNB (wVar 16) (wC .none)) wNil))) wNil) reprC))) (wRet (wC (.bool false))) wNilS)
    (wSeqS (wIfS (wTest (wBin neB (wCall (wCons (wLst (wCons (wUser sRowSize (wcD (wVar 15) wc0)) (wCons (wUser sRoads (wcD (wVar 15) wc0)) wNil))) wNil) reprC) (wCall (wCons (wLst (wCons (wUser sProduct (wcD (wVar 15) (wcD (wVar 15) wc0))) (wCons (wUser sRoads (wcD (wVar 15) wc0)) wNil))) wNil) reprC))) (wRet (wC (.bool false))) wNilS)
    (wSeqS (wIfS (wTest (wBin neB (wCall (wCons (wUser sProduct (wcD (wVar 15) (wcD (wVar 12) wc0))) wNil) reprC) (wCall (wCons (wUser sProduct (wcD (wVar 15) (wcD (wVar 12) wc0))) wNil) reprC))) (wRet (wC (.bool false))) wNilS)
    (wIfS (wAndT (wTest (wUser sIsRing (wcD (wVar 3) (wcD (wVar 15) wc0)))) (wAndT (wTest (wUser sIsCut (wcD (wVar 3) (wcD (wVar 15) wc0)))) (wTest (wBin neB (wUser sRoads (wcD (wVar 15) wc0)) (wTup wNil))))) (wRet (wC (.bool false))) wNilS)))))))
theorem L7_split : L7 = wFor (wSeq (wTup (wCons (wVar 9) (wCons (wVar 11) (wCons (wVar 12) (wCons (wVar 14) (wCons (wBin tmulB (wTup (wCons (wC (.int 0)) wNil)) (wVar 6)) wNil))))))) (wName 15) LB := rfl
def LV : WS := (wSeqS (wSet 27 (wCall (wCons (wVar 25) wNil) reprC))
    (wIfS (wOrT (wTest (wBin neB (wCall (wCons (wUser (sWholeRow false) (wcD (wVar 6) (wcD (wVar 25) wc0))) wNil) reprC) (wCall (wCons (wUser (sWholeRow true) (wcD (wVar 25) (wcD (wVar 6) wc0))) wNil) reprC))) (wTest (wBin neB (wCall (wCons (wVar 25) wNil) reprC) (wVar 27)))) (wRet (wC (.bool false))) wNilS))
theorem L20_split : L20 = wFor (wSeq (wBin addB (wVar 24) (wComp (wRg1 (wC (.int 4))) (wName 26) wYes (wUser sBent1 (wcS 1 (wcD (wVar 9) wc0))) [26]))) (wName 25) LV := rfl
/-! ring rows are at right angles to cut rows -/
theorem dot_cons {x y : Int} {xs ys : List Int} : dotL (x :: xs) (y :: ys) = x * y + dotL xs ys := by simp [dotL]
theorem at_one {n v : Nat} {g : Nat → Int} (h : v < n) : ((List.range n).map fun c => g c * (if v = c then 1 else 0)).sum = g v := by
  have e : ∀ c, g c * (if v = c then 1 else 0) = if c = v then g v else 0 := fun c => by
    by_cases h1 : v = c
    · subst h1; simp
    · simp [h1, Ne.symm h1]
  simp only [e, sum_one, if_pos h]
theorem dot_rise {n : Nat} {hs : List Int} : ∀ (ps : List (Nat × Nat)) (w : List Int), (∀ p ∈ ps, p.1 < n ∧ p.2 < n) → w.length = ps.length → dotL w (cutL ps hs) = ((List.range n).map fun c => ith hs c * bring (ps.zip w) c).sum
  | [], [], _, _ => by
    have e : ∀ c, ith hs c * bring (([] : List (Nat × Nat)).zip ([] : List Int)) c = 0 * 0 := fun c => by simp [bring]
    simp only [e, sum_times]
    simp [dotL]
  | p :: ps, x :: w, hp, hl => by
    have ih := dot_rise (hs := hs) ps w (fun q hq => hp q (List.mem_cons_of_mem _ hq)) (by simpa using hl)
    obtain ⟨h1, h2⟩ := hp p List.mem_cons_self
    have e0 : cutL (p :: ps) hs = (ith hs p.2 - ith hs p.1) :: cutL ps hs := rfl
    have e1 : ∀ c, ith hs c * bring ((p :: ps).zip (x :: w)) c = (x * (ith hs c * (if p.2 = c then 1 else 0)) + (-x) * (ith hs c * (if p.1 = c then 1 else 0))) + ith hs c * bring (ps.zip w) c := fun c => by
      rw [List.zip_cons_cons, bring_cons, Int.mul_add]
      unfold brT
      simp only
      by_cases a : p.2 = c <;> by_cases b : p.1 = c <;> simp [a, b, Int.mul_neg, Int.neg_mul, Int.mul_comm x (ith hs c)] <;> omega
    rw [e0, dot_cons, ih]
    simp only [e1, sum_plus, sum_times, at_one h1, at_one h2]
    rw [Int.mul_sub, Int.neg_mul]
    omega
theorem ring_cut {n : Nat} {ps : List (Nat × Nat)} {w hs : List Int} (f : FrOk n ps) (hl : w.length = ps.length) (hr : RingRow n ps w) : dotL w (cutL ps hs) = 0 := by
  rw [dot_rise ps w f.lt hl]
  have : (List.range n).map (fun c => ith hs c * bring (ps.zip w) c) = (List.range n).map fun _ => 0 * 0 := by
    apply List.map_congr_left
    intro c hc
    rw [hr c (List.mem_range.mp hc)]; simp
  rw [this, sum_times]; simp
theorem sq_nonneg (x : Int) : 0 ≤ x * x := by
  rw [← Int.natAbs_mul_self]; exact Int.natCast_nonneg _
theorem dot_self_nonneg : ∀ xs : List Int, 0 ≤ dotL xs xs
  | [] => by simp [dotL]
  | x :: xs => by
    have := dot_self_nonneg xs
    have h2 : 0 ≤ x * x := sq_nonneg x
    rw [dot_cons]; omega
theorem dot_self_zero : ∀ xs : List Int, dotL xs xs = 0 → ∀ x ∈ xs, x = 0
  | [], _, x, hx => nomatch hx
  | y :: ys, h, x, hx => by
    have h1 := dot_self_nonneg ys
    have h2 : 0 ≤ y * y := sq_nonneg y
    rw [dot_cons] at h
    have hy : y * y = 0 := by omega
    rcases List.mem_cons.mp hx with e | e
    · subst e; exact (Int.mul_eq_zero.mp hy).elim id id
    · exact dot_self_zero ys (by omega) x e
theorem no_roads {xs : List Int} (h : ∀ x ∈ xs, x = 0) : roadsL xs = [] := by
  unfold roadsL
  rw [List.map_eq_nil_iff, List.filter_eq_nil_iff]
  intro p hp
  have : p.1 ∈ xs := by
    have := List.mem_map_of_mem (f := (·.1)) hp
    rwa [List.zipIdx_map_fst] at this
  simp [h _ this]
theorem both_none {n : Nat} {ps : List (Nat × Nat)} {w hs : List Int} (f : FrOk n ps) (hl : w.length = ps.length) (hr : RingRow n ps w) (hc : cutL ps hs = w) : roadsL w = [] := by
  have h := ring_cut (hs := hs) f hl hr
  rw [hc] at h
  exact no_roads (dot_self_zero w h)
end DL
set_option Elab.async false
set_option linter.all false
set_option maxRecDepth 100000
set_option maxHeartbeats 1000000
set_option autoImplicit false
namespace DL
open PySem PySem.Spec PyProof.Rows L2 DZ
/-! bounds -/
theorem bring_bnd {B c : Nat} : ∀ qs : List Rd, (∀ q ∈ qs, q.2.natAbs ≤ B) → (bring qs c).natAbs ≤ qs.length * (2 * B)
  | [], _ => by simp [bring]
  | q :: qs, h => by
    have ih := bring_bnd (c := c) qs fun x hx => h x (List.mem_cons_of_mem _ hx)
    have hq := h q List.mem_cons_self
    have : (brT c q).natAbs ≤ 2 * B := by
      unfold brT
      split <;> split <;> omega
    rw [bring_cons, List.length_cons, Nat.add_mul]
    omega
theorem zip_snd {α β : Type} {as : List α} {bs : List β} {q : α × β} (h : q ∈ as.zip bs) : q.2 ∈ bs := (List.of_mem_zip (show (q.1, q.2) ∈ as.zip bs from h)).2
theorem dot_bnd {A B : Nat} : ∀ xs ys : List Int, (∀ x ∈ xs, x.natAbs ≤ A) → (∀ y ∈ ys, y.natAbs ≤ B) → (dotL xs ys).natAbs ≤ xs.length * (A * B)
  | [], ys, _, _ => by simp [dotL]
  | x :: xs, [], _, _ => by simp [dotL]
  | x :: xs, y :: ys, h1, h2 => by
    have ih := dot_bnd xs ys (fun x hx => h1 x (List.mem_cons_of_mem _ hx)) (fun x hx => h2 x (List.mem_cons_of_mem _ hx))
    have : (x * y).natAbs ≤ A * B := by
      rw [Int.natAbs_mul]
      exact Nat.mul_le_mul (h1 x List.mem_cons_self) (h2 y List.mem_cons_self)
    rw [dot_cons, List.length_cons, Nat.add_mul]
    omega
theorem hts_bnd {n B : Nat} {ps : List (Nat × Nat)} {h : Nat → Int} (f : FrOk n ps) (c : Conn n ps) (h0 : h 0 = 0) (hp : ∀ p ∈ ps, (h p.2 - h p.1).natAbs ≤ B) : ∀ v, v < n → (h v).natAbs ≤ n * B := by
  have hn1 := f.n1
  have key : ∀ k : Nat, (∀ v, v < n → (h v).natAbs ≤ k * B) ∨ ∃ ks : List Nat, ks.Nodup ∧ (∀ v ∈ ks, v < n ∧ (h v).natAbs ≤ k * B) ∧ ks.length = k + 1 ∧ 0 ∈ ks := by
    intro k
    induction k with
    | zero => exact .inr ⟨[0], by simp, fun v hv => by
        have : v = 0 := by simpa using hv
        subst this; exact ⟨by omega, by rw [h0]; simp⟩, rfl, by simp⟩
    | succ k ih =>
      have up : k * B ≤ (k + 1) * B := Nat.mul_le_mul_right _ (by omega)
      rcases ih with ih | ⟨ks, k1, k2, k3, k4⟩
      · exact .inl fun v hv => Nat.le_trans (ih v hv) up
      · by_cases hall : ∀ p ∈ ps, (p.1 ∈ ks ↔ p.2 ∈ ks)
        · refine .inl fun v hv => ?_
          have := c (fun v => if v ∈ ks then 1 else 0) (fun p hp => by simp only [hall p hp]) v hv
          simp only [k4, if_true] at this
          by_cases hv2 : v ∈ ks
          · exact Nat.le_trans (k2 v hv2).2 up
          · rw [if_neg hv2] at this; cases this
        · obtain ⟨p, hall⟩ := Classical.not_forall.mp hall
          obtain ⟨hpp, hne⟩ := Classical.not_imp.mp hall
          obtain ⟨q1, q2⟩ := f.lt p hpp
          have hb := hp p hpp
          have e : (k + 1) * B = k * B + B := by rw [Nat.add_mul]; omega
          refine .inr ?_
          by_cases ha : p.1 ∈ ks
          · have hb2 : p.2 ∉ ks := fun z => hne ⟨fun _ => z, fun _ => ha⟩
            have := (k2 _ ha).2
            refine ⟨p.2 :: ks, List.nodup_cons.mpr ⟨hb2, k1⟩, fun v hv => ?_, by simp [k3], List.mem_cons_of_mem _ k4⟩
            rcases List.mem_cons.mp hv with e2 | e2
            · subst e2; exact ⟨q2, by omega⟩
            · exact ⟨(k2 v e2).1, Nat.le_trans (k2 v e2).2 up⟩
          · have hb2 : p.2 ∈ ks := Classical.byContradiction fun z => hne ⟨fun y => absurd y ha, fun y => absurd y z⟩
            have := (k2 _ hb2).2
            refine ⟨p.1 :: ks, List.nodup_cons.mpr ⟨ha, k1⟩, fun v hv => ?_, by simp [k3], List.mem_cons_of_mem _ k4⟩
            rcases List.mem_cons.mp hv with e2 | e2
            · subst e2; exact ⟨q1, by omega⟩
            · exact ⟨(k2 v e2).1, Nat.le_trans (k2 v e2).2 up⟩
  rcases key n with h1 | ⟨ks, k1, k2, k3, _⟩
  · exact h1
  · have := nodup_le n ks k1 fun v hv => (k2 v hv).1
    omega
theorem pl_opt {n : Nat} {ps : List (Nat × Nat)} {row : List Int} {o : Option (List Int)} {B : Nat} (f : FrOk n ps) (c : Conn n ps) (ho : HtsOf n ps row o) (hb : ∀ x ∈ row, x.natAbs ≤ B) (hB : 1000 * B < 10 ^ 40) : Pl 1000 1 (optD o) := by
  cases o with
  | none => exact pl_none.up (by omega) (by omega)
  | some hs =>
    obtain ⟨h1, h2, h3⟩ := ho
    have hn := f.n2
    have := hts_bnd (h := ith hs) (B := B) f c h2 fun p hp => hb _ (by rw [← h3]; exact List.mem_map_of_mem (f := fun p : Nat × Nat => ith hs p.2 - ith hs p.1) hp)
    refine pl_row (fun x hx => ?_) (by omega)
    obtain ⟨v, hv, e⟩ := List.mem_iff_getElem.mp hx
    have h4 := this v (by omega)
    have e2 := ith_get hv
    rw [List.getElem?_eq_getElem hv, e] at e2
    rw [← Option.some.inj e2] at h4
    have : n * B ≤ 1000 * B := Nat.mul_le_mul_right _ hn
    omega
theorem pl_two {k j : Nat} {a b : PyData} (ha : Pl k j a) (hb : Pl k j b) : Pl (2 * (k + 1)) (j + 1) (.list [a, b]) := pl_lst (fun d hd => by
  have : d = a ∨ d = b := by simpa using hd
  rcases this with e | e <;> subst e <;> assumption) (by simp)
theorem Pl.sh {k j : Nat} {d : PyData} (h : Pl k j d) : SeqAt.shaped (.str d.shown) = true := shaped_shown h.tx.lo
end DL
set_option Elab.async false
set_option linter.all false
set_option maxRecDepth 100000
set_option maxHeartbeats 2000000
set_option autoImplicit false
namespace DL
open PySem PySem.Spec PyProof.Rows L2 DZ
theorem same_shown {d : PyData} {P : Bool → Prop} (h : P false) : ∃ k, PyData.eqv (.str d.shown) (.str d.shown) = !k ∧ P k := ⟨false, by rw [eqv_str]; rfl, h⟩
theorem l_B {K : Nv → Prop} {rt : PyData → Prop} {n : Nat} {ps : List (Nat × Nat)} {row ch : List Int} {x0 x2 x4 x5 x6 x7 x9 x10 x11 x14 x16 x17 x19 x20 x21 x22 x23 x24 x25 x27 x28 : Option Sl} (f : FrOk n ps) (c : Conn n ps) (hl : row.length = ps.length) (hb : ∀ x ∈ row, x.natAbs ≤ 10 ^ 10) (chl : ch.length = n) (chb : ∀ x ∈ ch, x.natAbs ≤ 1000)
    (h : ∀ y16 y17, K [x0, some .src, x2, some (.sh (frD n ps)), x4, x5, x6, x7, none, x9, x10, x11, some (.sh (rowD (cutL ps ch))), none, x14, some (.sh (rowD row)), y16, y17, none, x19, x20, x21, x22, x23, x24, x25, none, x27, x28]) :
    LB ⟨K, rt⟩ [x0, some .src, x2, some (.sh (frD n ps)), x4, x5, x6, x7, none, x9, x10, x11, some (.sh (rowD (cutL ps ch))), none, x14, some (.sh (rowD row)), x16, x17, none, x19, x20, x21, x22, x23, x24, x25, none, x27, x28] := by
  have hL := line_ge
  have hm := f.m
  have hn := f.n2
  obtain ⟨o, ho⟩ := htsOf_ex f row
  obtain ⟨rg, hrg⟩ : ∃ rg : Bool, (rg = true ↔ RingRow n ps row) := by
    by_cases hR : RingRow n ps row
    · exact ⟨true, by simp [hR]⟩
    · exact ⟨false, by simp [hR]⟩
  have ring : ∀ P : PyData → Prop, P (.bool rg) → sIsRing [Sl.sh (frD n ps), Sl.sh (rowD row)] P := fun P hP => ⟨n, ps, row, rfl, f, hl, fun hR => by rw [hrg.mpr hR] at hP; exact hP, fun hR => by
    have : rg = false := by cases rg with
      | true => exact absurd (hrg.mp rfl) hR
      | false => rfl
    rw [this] at hP; exact hP⟩
  have hb64 : ∀ x ∈ row, x.natAbs < 2 ^ 64 := fun x hx => Nat.lt_of_le_of_lt (hb x hx) (by decide)
  have p1 : Pl 1000 1 (rowD (bringL n ps row)) := pl_row (fun x hx => by
    obtain ⟨v, _, e⟩ := List.mem_map.mp hx
    subst e
    have := bring_bnd (B := 10 ^ 10) (c := v) (ps.zip row) fun q hq => hb _ (zip_snd hq)
    rw [List.length_zip, hl, Nat.min_self] at this
    have h2 : ps.length * (2 * 10 ^ 10) ≤ 1000 * (2 * 10 ^ 10) := Nat.mul_le_mul_right _ hm
    exact Nat.lt_of_le_of_lt (Nat.le_trans this h2) (by decide)) (by simp [bringL]; omega)
  have p2 : Pl 1000 1 (.bool rg) := pl_bool.up (by omega) (by omega)
  have p3 := pl_opt f c ho hb (by decide)
  have p4 : Pl 1000 1 (.bool o.isSome) := pl_bool.up (by omega) (by omega)
  have pd : ∀ B : Nat, ∀ ys : List Int, (∀ y ∈ ys, y.natAbs ≤ B) → 1000 * (10 ^ 10 * B) < 10 ^ 40 → Pl 1000 1 (.int (dotL row ys)) := fun B ys hy hB => (pl_int (by
    have := dot_bnd (A := 10 ^ 10) (B := B) row ys hb hy
    have h2 : row.length * (10 ^ 10 * B) ≤ 1000 * (10 ^ 10 * B) := Nat.mul_le_mul_right _ (by omega)
    omega)).up (by omega) (by omega)
  have p5 := pd (10 ^ 10) row hb (by decide)
  have p6 : Pl 1000 1 (.tuple (natsD (roadsL row))) := pl_nats (fun x hx => by
    obtain ⟨q, hq, e⟩ := List.mem_map.mp hx
    have h1 : (q.1, q.2) ∈ row.zipIdx := (List.mem_filter.mp hq).1
    rw [List.mem_zipIdx_iff_getElem?] at h1
    have h2 := (List.getElem?_eq_some_iff.mp h1).1
    have h3 : q.2 < 1000 := by omega
    rw [← e]
    exact Nat.lt_trans h3 (by decide)) (by
    have := List.length_filter_le (fun p : Int × Nat => !decide (p.1 = 0)) row.zipIdx
    simp [roadsL]
    simp at this
    omega)
  have p7 := pd 2000 (cutL ps ch) (fun y hy => Nat.le_trans (cut_bnd f chl chb y hy) (by omega)) (by decide)
  have eo : (!isNone (optD o)) = o.isSome := by cases o <;> rfl
  simp [LB, wVar_sh, -Bool.exists_bool]
  refine ⟨n, ps, row, o, rfl, f, c, hl, ho, ?_⟩
  simp [wVar_sh, -Bool.exists_bool]
  refine ⟨n, ps, row, rfl, f, hl, ring _ ⟨by omega, n, ps, row, rfl, f, hl, ring _ ⟨by omega, (pl_two p1 p2).ok, (pl_two p1 p2).ok, (pl_two p1 p2).sh, (pl_two p1 p2).sh, same_shown ?_⟩⟩⟩
  rw [if_neg (by decide)]
  refine ⟨n, ps, row, o, rfl, f, c, hl, ho, n, ps, row, o, rfl, f, c, hl, ho, by omega, ?_⟩
  rw [eo]
  refine ⟨(pl_two p3 p4).ok, by omega, (pl_two p3 p4).ok, (pl_two p3 p4).sh, (pl_two p3 p4).sh, same_shown ?_⟩
  rw [if_neg (by decide)]
  refine ⟨row, rfl, by omega, hb64, row, rfl, by omega, by omega, (pl_two p5 p6).ok, row, row, rfl, rfl, by omega, hb64, row, rfl, by omega, by omega, (pl_two p5 p6).ok, (pl_two p5 p6).sh, (pl_two p5 p6).sh, same_shown ?_⟩
  rw [if_neg (by decide)]
  refine ⟨row, cutL ps ch, rfl, by rw [cut_len']; exact hl, by omega, hb64, p7.ok, row, cutL ps ch, rfl, by rw [cut_len']; exact hl, by omega, hb64, p7.ok, p7.sh, p7.sh, same_shown ?_⟩
  rw [if_neg (by decide)]
  refine ring _ ⟨rg, rfl, ?_⟩
  by_cases hr : rg = true
  · rw [if_pos hr]
    refine ⟨n, ps, row, o, rfl, f, c, hl, ho, o.isSome, rfl, ?_⟩
    cases o with
    | none => rw [if_neg (by decide)]; exact h _ _
    | some hs =>
      rw [if_pos (show (some hs).isSome = true from rfl)]
      have h0 := both_none f hl (hrg.mp hr) ho.2.2
      refine ⟨row, rfl, by omega, shp_tnats, shp_tnats (T := []), false, ?_, ?_⟩
      · rw [h0]; rfl
      · rw [if_neg (by decide)]; exact h _ _
  · rw [if_neg hr]; exact h _ _
end DL
set_option Elab.async false
set_option linter.all false
set_option maxRecDepth 100000
set_option maxHeartbeats 2000000
set_option autoImplicit false
namespace DL
open PySem PySem.Spec PyProof.Rows L2 DZ
theorem zeros_row (m : Nat) : PyData.tuple (List.replicate m (PyData.int 0)) = rowD (List.replicate m (0 : Int)) := by simp [rowD]
theorem hts_cut {n : Nat} {ps : List (Nat × Nat)} {hs : List Int} (f : FrOk n ps) (hl : hs.length = n) : ∃ o, HtsOf n ps (cutL ps hs) o ∧ o.isSome = true := by
  obtain ⟨o, ho⟩ := htsOf_ex f (cutL ps hs)
  cases o with
  | none => exact absurd rfl (ho hs hl)
  | some g => exact ⟨some g, ho, rfl⟩
section
variable {K : Nv → Prop} {rt : PyData → Prop} {n : Nat} {ps : List (Nat × Nat)} {F W : Int} {so ring ch late : List Int} {x0 x2 x4 x5 x7 x10 x15 x16 x17 x19 x20 x21 x22 x23 x24 x25 x27 x28 x20' x22' so2 so3 : Option Sl}
theorem l_C1 (g : LF n ps F so ring ch late)
    (h : ∀ y15 y16 y17, K [x0, some .src, x2, some (.sh (frD n ps)), x4, x5, some (.sh (natD ps.length)), x7, none, some (.sh (rowD so)), x10, some (.sh (rowD ring)), some (.sh (rowD (cutL ps ch))), none, some (.sh (rowD late)), y15, y16, y17, none, x19, x20, x21, x22, x23, x24, x25, none, x27, x28]) :
    L7 ⟨fun e => L8 ⟨K, rt⟩ e, rt⟩ [x0, some .src, x2, some (.sh (frD n ps)), x4, x5, some (.sh (natD ps.length)), x7, none, some (.sh (rowD so)), x10, some (.sh (rowD ring)), some (.sh (rowD (cutL ps ch))), none, some (.sh (rowD late)), x15, x16, x17, none, x19, x20, x21, x22, x23, x24, x25, none, x27, x28] := by
  have hL := line_ge
  have hm := g.f.m
  rw [L7_split]
  simp [wVar_sh, -Bool.exists_bool]
  refine ⟨by omega, by omega, by omega, ?_⟩
  rw [zeros_row]
  refine for_all rowD [so, ring, cutL ps ch, late, List.replicate ps.length 0] (fun pre env => ∃ y15 y16 y17, env = [x0, some .src, x2, some (.sh (frD n ps)), x4, x5, some (.sh (natD ps.length)), x7, none, some (.sh (rowD so)), x10, some (.sh (rowD ring)), some (.sh (rowD (cutL ps ch))), none, some (.sh (rowD late)), y15, y16, y17, none, x19, x20, x21, x22, x23, x24, x25, none, x27, x28]) ⟨_, _, _, rfl⟩ ?_ ?_
  · rintro p row q' e env Kn ⟨y15, y16, y17, rfl⟩ hK
    have hr : row ∈ [so, ring, cutL ps ch, late, List.replicate ps.length 0] := by rw [e]; simp
    have hrow : row.length = ps.length ∧ ∀ x ∈ row, x.natAbs ≤ 10 ^ 10 := by
      simp only [List.mem_cons, List.not_mem_nil, or_false] at hr
      rcases hr with e | e | e | e | e <;> subst e
      · exact ⟨g.sol, fun x hx => Nat.le_trans (g.sob x hx) (by decide)⟩
      · exact ⟨g.rl, fun x hx => Nat.le_trans (g.rb x hx) (by decide)⟩
      · exact ⟨cut_len', fun x hx => Nat.le_trans (cut_bnd g.f g.chl g.chb x hx) (by decide)⟩
      · exact ⟨g.ll, fun x hx => Nat.le_trans (g.lb x hx) (by decide)⟩
      · exact ⟨by simp, fun x hx => by have := List.eq_of_mem_replicate hx; subst this; simp⟩
    simp
    exact l_B g.f g.c hrow.1 hrow.2 g.chl g.chb fun y16 y17 => hK _ ⟨_, _, _, rfl⟩
  · rintro env ⟨y15, y16, y17, rfl⟩
    obtain ⟨o, ho, ho2⟩ := hts_cut g.f g.chl
    simp [L8, wVar_sh, -Bool.exists_bool]
    refine ⟨ring, cutL ps ch, rfl, by rw [cut_len']; exact g.rl, by have := g.rl; omega, fun x hx => Nat.lt_of_le_of_lt (g.rb x hx) (by decide), ?_⟩
    rw [ring_cut g.f g.rl g.rr]
    simp [-Bool.exists_bool]
    refine ⟨n, ps, ring, rfl, g.f, g.rl, fun _ => ⟨true, rfl, ?_⟩, fun hno => absurd g.rr hno⟩
    rw [if_pos rfl]
    refine ⟨n, ps, cutL ps ch, o, rfl, g.f, g.c, cut_len', ho, o.isSome, rfl, ?_⟩
    rw [if_pos ho2]
    exact h _ _ _
theorem pl_trs {k : Nat} {a : PyData} (ha : Pl k 1 a) : Pl (2 * (k + 1)) 2 (.list [a, a]) := pl_two ha ha
theorem l_C2 (f : FrOk n ps) (h : ∀ hs : List Int, K [x0, some .src, x2, some (.sh (frD n ps)), x4, some (.sh (natD n)), x5, x7, none, x10, x15, x16, x17, none, x19, x20, some (.sh (rowD hs)), x21, none, some (.sh (.list [rowD (cutL ps hs), rowD (cutL ps hs)])), x22, x23, x24, x25, x27, x28, none, so2, so3]) :
    L9 ⟨fun e => L10 ⟨fun e => L11 ⟨K, rt⟩ e, rt⟩ e, rt⟩ [x0, some .src, x2, some (.sh (frD n ps)), x4, some (.sh (natD n)), x5, x7, none, x10, x15, x16, x17, none, x19, x20, x20', x21, none, x22', x22, x23, x24, x25, x27, x28, none, so2, so3] := by
  have hL := line_ge
  have hn := f.n2
  have hm := f.m
  simp [L9, wVar_sh, wipeN, -Bool.exists_bool]
  refine ⟨by omega, ?_⟩
  rw [rgD_nats]
  refine comp_any natD PyData.int (fun x => x.natAbs ≤ 10) (List.range n) [] (by simp; omega) (fun r hr C N hC => ?_) (fun hs hz1 hz2 => ?_)
  · simp [wVar_sh, sPick, wipeN, -Bool.exists_bool]
    intro i k1 k2
    exact hC (i - 4) (by omega)
  · have hz1 : hs.length = n := by simpa using hz1
    have pc : Pl 1000 1 (rowD (cutL ps hs)) := pl_row (fun x hx => Nat.lt_of_le_of_lt (cut_bnd f hz1 hz2 x hx) (by decide)) (by rw [cut_len']; exact hm)
    simp [backN, backAt, L10, wVar_sh, -Bool.exists_bool]
    refine ⟨n, ps, hs, _, rfl, f, rfl, hz1, n, ps, hs, _, rfl, f, rfl, hz1, by omega, ?_⟩
    simp [L11, wVar_sh, -Bool.exists_bool]
    have pp := pl_two pc pc
    refine ⟨pp.ok, n, ps, hs, _, rfl, f, rfl, hz1, by omega, by omega, pp.ok, pp.sh, pp.sh, same_shown ?_⟩
    rw [if_neg (by decide)]
    exact h hs
theorem cut_sub {α : Type} {f : α → PyData} {xs : List α} {lo hi : Option Int} : ∃ ys : List α, cutD (xs.map f) lo hi = ys.map f ∧ ys.length ≤ xs.length ∧ ∀ y ∈ ys, y ∈ xs := by
  refine ⟨(xs.drop (HT.sIx xs.length 0 lo)).take (HT.sIx xs.length xs.length hi - HT.sIx xs.length 0 lo), ?_, ?_, fun y hy => List.mem_of_mem_drop (List.mem_of_mem_take hy)⟩
  · unfold cutD
    rw [List.length_map, List.map_take, List.map_drop]
  · rw [List.length_take, List.length_drop]; omega
theorem addRow_bnd2 {t : Int} {B C D : Nat} (ht : t.natAbs ≤ C) : ∀ (acc w : List Int), (∀ x ∈ acc, x.natAbs ≤ B) → (∀ x ∈ w, x.natAbs ≤ D) → ∀ x ∈ addRow t acc w, x.natAbs ≤ B + C * D
  | [], w, _, _, x, hx => by simp [addRow] at hx
  | a :: acc, [], _, _, x, hx => by simp [addRow] at hx
  | a :: acc, b :: w, h1, h2, x, hx => by
    have e : addRow t (a :: acc) (b :: w) = (a + t * b) :: addRow t acc w := rfl
    rw [e] at hx
    rcases List.mem_cons.mp hx with h | h
    · subst h
      have k1 := h1 a List.mem_cons_self
      have k2 := h2 b List.mem_cons_self
      have k3 : (t * b).natAbs ≤ C * D := by
        rw [Int.natAbs_mul]
        exact Nat.mul_le_mul ht k2
      omega
    · exact addRow_bnd2 ht acc w (fun x hx => h1 x (List.mem_cons_of_mem _ hx)) (fun x hx => h2 x (List.mem_cons_of_mem _ hx)) x h
theorem added_bnd {m C D : Nat} (pairs : List (Int × List Int)) (h : ∀ p ∈ pairs, p.1.natAbs ≤ C ∧ ∀ x ∈ p.2, x.natAbs ≤ D) : ∀ x ∈ addedL m pairs, x.natAbs ≤ pairs.length * (C * D) := by
  induction pairs using snoc_ind with
  | h0 =>
    intro x hx
    have := List.eq_of_mem_replicate hx
    subst this; simp
  | h1 pairs p ih =>
    have ih := ih fun q hq => h q (List.mem_append_left _ hq)
    obtain ⟨k1, k2⟩ := h p (by simp)
    rw [addedL_snoc]
    intro x hx
    have := addRow_bnd2 k1 _ _ ih k2 x hx
    rw [List.length_append, List.length_singleton, Nat.add_mul]
    omega
theorem l_C3 (g : LF n ps F so ring ch late)
    (h : ∀ y15 y20, K [x0, some .src, x2, x4, x5, x7, some (.sh (natD ps.length)), x10, none, some (.sh (rowD so)), x15, some (.sh (rowD ring)), some (.sh (rowD (cutL ps ch))), none, x16, y15, x19, x20, none, x21, y20, x22, x23, x24, x25, x27, none, x28, so2]) :
    L12 ⟨fun e => L13 ⟨K, rt⟩ e, rt⟩ [x0, some .src, x2, x4, x5, x7, some (.sh (natD ps.length)), x10, none, some (.sh (rowD so)), x15, some (.sh (rowD ring)), some (.sh (rowD (cutL ps ch))), none, x16, x17, x19, x20, none, x21, x20', x22, x23, x24, x25, x27, none, x28, so2] := by
  have hL := line_ge
  have hm := g.f.m
  simp [L12, wVar_sh, sPick, -Bool.exists_bool]
  refine ⟨by omega, fun i hi1 hi2 => ?_⟩
  obtain ⟨ys, e, hyl, hym⟩ := cut_sub (f := rowD) (xs := [ring, cutL ps ch, so]) (lo := none) (hi := some i)
  simp only [List.map_cons, List.map_nil] at e
  rw [e]
  have hyl : ys.length ≤ 3 := by simpa using hyl
  have hrow : ∀ row ∈ ys, row.length = ps.length ∧ ∀ x ∈ row, x.natAbs ≤ 10 ^ 10 := fun row hr => by
    have hr := hym row hr
    simp only [List.mem_cons, List.not_mem_nil, or_false] at hr
    rcases hr with e | e | e <;> subst e
    · exact ⟨g.rl, fun x hx => Nat.le_trans (g.rb x hx) (by decide)⟩
    · exact ⟨cut_len', fun x hx => Nat.le_trans (cut_bnd g.f g.chl g.chb x hx) (by decide)⟩
    · exact ⟨g.sol, fun x hx => Nat.le_trans (g.sob x hx) (by decide)⟩
  simp only [wipeN]
  refine comp_any rowD trD (fun p => (p.2.length = ps.length ∧ ∀ x ∈ p.2, x.natAbs ≤ 10 ^ 10) ∧ p.1.natAbs ≤ 10) ys [] (by simp; omega) (fun row hr C N hC => ?_) (fun zs hz1 hz2 => ?_)
  · simp [wVar_sh, sPick, wipeN, -Bool.exists_bool]
    intro j k1 k2
    refine ⟨by omega, hC (j - 3, row) ⟨hrow row hr, by simp only; omega⟩⟩
  · have pa : Pl 1000 1 (rowD (addedL ps.length zs)) := pl_row (fun x hx => by
      have := added_bnd (C := 10) (D := 10 ^ 10) zs (fun p hp => ⟨(hz2 p hp).2, (hz2 p hp).1.2⟩) x hx
      have h2 : zs.length * (10 * 10 ^ 10) ≤ 3 * (10 * 10 ^ 10) := Nat.mul_le_mul_right _ (by omega)
      exact Nat.lt_of_le_of_lt (Nat.le_trans this h2) (by decide)) (by rw [addedL_len fun p hp => (hz2 p hp).1.1]; exact hm)
    have pp := pl_two pa pa
    have ok : ∀ p ∈ zs, p.2.length = ps.length ∧ p.1.natAbs < 2 ^ 64 := fun p hp => ⟨(hz2 p hp).1.1, Nat.lt_of_le_of_lt (hz2 p hp).2 (by decide)⟩
    have fin : ∀ y15, L13 ⟨K, rt⟩ [x0, some .src, x2, x4, x5, x7, some (.sh (natD ps.length)), x10, none, some (.sh (rowD so)), x15, some (.sh (rowD ring)), some (.sh (rowD (cutL ps ch))), none, x16, y15, x19, x20, none, x21, some (.sh (.list (zs.map trD))), x22, x23, x24, x25, x27, none, x28, so2] := by
      intro y15
      simp [L13, wVar_sh, -Bool.exists_bool]
      refine ⟨ps.length, _, zs, rfl, rfl, hm, ok, ps.length, _, zs, rfl, rfl, hm, ok, by omega, pp.ok, ps.length, _, zs, rfl, rfl, hm, ok, by omega, by omega, pp.ok, pp.sh, pp.sh, same_shown ?_⟩
      rw [if_neg (by decide)]
      exact h _ _
    rw [List.nil_append]
    cases x17 with
    | none => exact fin none
    | some sl =>
      cases sl with
      | sh d => exact fin _
      | ow d => exact fin none
      | src => exact fin none
      | fn x => exact fin none
end
end DL
set_option Elab.async false
set_option linter.all false
set_option maxRecDepth 100000
set_option maxHeartbeats 2000000
set_option autoImplicit false
namespace DL
open PySem PySem.Spec PyProof.Rows L2 DZ
theorem whole_row {m : Nat} {xs : List Int} (h : xs.length = m) : wholeRow m (rowD xs) = true := by
  simp [wholeRow, rowD, h, isW, isInt, isBool]
theorem fm_none {α β : Type} (xs : List α) : xs.filterMap (fun _ => (none : Option β)) = [] := by
  induction xs with
  | nil => rfl
  | cons x xs ih => rw [List.filterMap_cons]; exact ih
section
variable {K : Nv → Prop} {rt : PyData → Prop} {n : Nat} {ps : List (Nat × Nat)} {F W : Int} {so ring ch late : List Int} {x0 x2 x4 x5 x6 x7 x10 x11 x12 x14 x15 x16 x17 x19 x20 x21 x22 x23 x24 x25 x27 x28 : Option Sl}
theorem l_C4 (g : LF n ps F so ring ch late)
    (h : ∀ y21 y22, K [x0, some .src, x2, some (.sh (frD n ps)), x4, some (.sh (natD n)), x6, x7, none, some (.sh (rowD so)), x10, x11, x12, none, x14, x15, x16, x17, none, x19, x20, y21, y22, x23, x24, x25, none, x27, x28]) :
    L14 ⟨fun e => L15 ⟨fun e => L16 ⟨fun e => L17 ⟨K, rt⟩ e, rt⟩ e, rt⟩ e, rt⟩ [x0, some .src, x2, some (.sh (frD n ps)), x4, some (.sh (natD n)), x6, x7, none, some (.sh (rowD so)), x10, x11, x12, none, x14, x15, x16, x17, none, x19, x20, x21, x22, x23, x24, x25, none, x27, x28] := by
  have hL := line_ge
  have hm := g.f.m
  have hn := g.f.n2
  have hn1 := g.f.n1
  simp [L14, wVar_sh, -Bool.exists_bool]
  refine ⟨n, ps, rfl, g.f, g.c, fun T s => ?_⟩
  simp [L15, wVar_sh, -Bool.exists_bool]
  refine ⟨n, ps, _, T, so, rfl, g.f, rfl, s, g.sol, fun hs h1 h2 h3 => ?_⟩
  have hT := span_greedy g.f g.c (l := List.range ps.length) (fun r hr => List.mem_range.mp hr) fun r hr => List.mem_range.mpr hr
  have pt : Pl 1000 1 (.tuple (natsD (greedyL n ps (List.range ps.length)))) := pl_nats (fun x hx => by
    have := hT.lt x hx
    exact Nat.lt_trans (show x < 1000 by omega) (by decide)) (by have := hT.len; omega)
  simp [L16, wVar_sh, -Bool.exists_bool]
  refine ⟨n, ps, rfl, g.f, pt.ok, n, ps, rfl, g.f, pt.ok, pt.sh, pt.sh, same_shown ?_⟩
  rw [if_neg (by decide)]
  refine ⟨n, rowD hs, rfl, fun ds e => by cases e; simp; omega, true, by rw [whole_row h1], ?_⟩
  rw [if_pos rfl]
  have a0 := ith_at (hs := hs) (x := 0) (by omega)
  rw [h2] at a0
  simp [rowD, -Bool.exists_bool]
  refine ⟨_, a0, ?_⟩
  simp [-Bool.exists_bool]
  have fin : forall e, e = [x0, some .src, x2, some (.sh (frD n ps)), x4, some (.sh (natD n)), x6, x7, none, some (.sh (rowD so)), x10, x11, x12, none, x14, x15, x16, x17, none, x19, x20, some (.sh (.tuple (natsD T))), some (.sh (rowD hs)), x23, x24, x25, none, x27, x28] → L17 ⟨K, rt⟩ e := by
    rintro e rfl
    simp [L17, wVar_sh, wipeN, -Bool.exists_bool]
    refine comp_of natD (fun r => none) T [] (by have := s.len; simp; omega) (fun r hr acc C hacc hC => ?_) ?_
    · have hr2 := s.lt r hr
      obtain ⟨ha, hb⟩ := g.f.pr hr2
      have q := h3 r hr
      simp [wVar_sh, wipeN, -Bool.exists_bool] at hC ⊢
      refine ⟨_, atI_prs (prA_get hr2), ?_⟩
      simp [prD, rowD, -Bool.exists_bool]
      refine ⟨_, ith_at (by omega), _, atI_prs (prA_get hr2), ?_⟩
      simp [prD, rowD, -Bool.exists_bool]
      refine ⟨_, ith_at (by omega), ?_⟩
      simp [rowD, -Bool.exists_bool]
      refine ⟨_, ith_at (by have := g.sol; omega), ?_⟩
      simp [q, -Bool.exists_bool]
      exact hC
    · rw [fm_none]
      simp [backN, backAt, -Bool.exists_bool]
      refine ⟨shaped_of (shp_lst (n := 0) (by simp)), false, by rfl, ?_⟩
      rw [if_neg (by decide)]
      exact h _ _
  exact fin _ rfl
end
end DL
set_option Elab.async false
set_option linter.all false
set_option maxRecDepth 100000
set_option maxHeartbeats 2000000
set_option autoImplicit false
namespace DL
open PySem PySem.Spec PyProof.Rows L2 DZ
section
variable {K : Nv → Prop} {rt : PyData → Prop} {n m : Nat} {ps : List (Nat × Nat)} {F W : Int} {so ring ch late : List Int} {x0 x2 x3 x4 x5 x6 x7 x10 x11 x12 x14 x15 x16 x17 x19 x20 x21 x22 x23 x24 x25 x27 x28 : Option Sl}
theorem l_V {v : PyData} (gv : GoodV v)
    (h : ∀ y27, K [x0, some .src, x2, x3, x4, x5, some (.sh (natD m)), x7, none, x6, x10, x11, x12, none, x14, x15, x16, x17, none, x19, x20, x21, x22, x23, x24, some (.sh v), none, y27, x28]) :
    LV ⟨K, rt⟩ [x0, some .src, x2, x3, x4, x5, some (.sh (natD m)), x7, none, x6, x10, x11, x12, none, x14, x15, x16, x17, none, x19, x20, x21, x22, x23, x24, some (.sh v), none, x27, x28] := by
  obtain ⟨⟨h1, h2⟩, h3⟩ := gv
  have pb : Pl 1000 1 (.bool (wholeRow m v)) := pl_bool.up (by omega) (by omega)
  simp [LV, wVar_sh, -Bool.exists_bool]
  refine ⟨h1, m, v, rfl, h3, pb.ok, m, v, rfl, h3, pb.ok, pb.sh, pb.sh, same_shown ?_⟩
  rw [if_neg (by decide)]
  refine ⟨h1, shaped_shown h2, same_shown ?_⟩
  rw [if_neg (by decide)]
  exact h _
theorem l_C5 (f : FrOk n ps) (hm : ps.length ≤ 300) (sol : so.length = ps.length) (sob : ∀ x ∈ so, x.natAbs ≤ 10 ^ 9)
    (h : ∀ y23 y24 y25 y27, K [x0, some .src, x2, x3, x4, x5, some (.sh (natD ps.length)), x7, none, some (.sh (rowD so)), x10, x11, x12, none, x14, x15, x16, x17, none, x19, x20, x21, x22, y23, y24, y25, none, y27, x28]) :
    L18 ⟨fun e => L19 ⟨fun e => L20 ⟨K, rt⟩ e, rt⟩ e, rt⟩ [x0, some .src, x2, x3, x4, x5, some (.sh (natD ps.length)), x7, none, some (.sh (rowD so)), x10, x11, x12, none, x14, x15, x16, x17, none, x19, x20, x21, x22, x23, x24, x25, none, x27, x28] := by
  have hL := line_ge
  simp [L18, wVar_sh, wDict0, -Bool.exists_bool]
  refine ⟨by omega, by omega, _, _, rfl, rfl, by simp, by simp, fun z hz => ?_⟩
  have hzo : OddOk z := by
    simp only [List.mem_cons, List.not_mem_nil, or_false] at hz
    rcases hz with e | e | e | e | e | e | e <;> subst e
    · exact odd_all _ (by simp [oddL])
    · exact odd_all _ (by simp [oddL])
    · exact odd_str (by decide +kernel) (by decide +kernel) (by decide +kernel)
    · exact odd_all _ (by simp [oddL])
    · exact odd_all _ (by simp [oddL])
    · exact ⟨(pl_lst (k := 0) (j := 0) (K := 10) (fun d hd => by
        have : d = .int 0 := by simpa using hd
        subst this; exact int0E.pl) (by simp)).tx.up (by omega) (by omega), .inl (by simp [PyData.hasDict, PyData.hasDictAll]), fun ds e => by cases e⟩
    · exact odd_all _ (by simp [oddL])
  have hE := int_of_row (row := so) (fun x hx => Nat.lt_of_le_of_lt (sob x hx) (by decide))
  simp [L19, rowD, wVar_sh, -Bool.exists_bool]
  have cl : ∀ (lo hi : Option Int), (cutD (intsD so) lo hi).length ≤ 300 := fun lo hi => by
    have := cut_len (xs := intsD so) (lo := lo) (hi := hi)
    simp at this ⊢
    omega
  have cm : ∀ (lo hi : Option Int), ∀ d ∈ cutD (intsD so) lo hi, IntE d := fun lo hi d hd => hE d (cut_mem d hd)
  have c1 := cl none (some 1)
  have c2 := cl (some 2) none
  have e1 : ∀ d ∈ ([.int 0] : List PyData), IntE d := fun d hd => by
    have : d = .int 0 := by simpa using hd
    subst this; exact int0E
  refine ⟨by omega, by omega, by omega, by omega, by omega, by omega, by omega, by omega, ?_⟩
  generalize hv : [PyData.tuple (intsD so), PyData.list (intsD so), PyData.tuple (cutD (intsD so) (some 1) none), PyData.tuple (intsD so ++ [PyData.int 0]), PyData.tuple (cutD (intsD so) none (some 1) ++ z :: cutD (intsD so) (some 2) none), z, PyData.none, PyData.tuple (List.replicate ps.length (PyData.int 0))] = vals
  have hgood : ∀ v ∈ vals, GoodV v := fun v hvm => by
    rw [← hv] at hvm
    simp only [List.mem_cons, List.not_mem_nil, or_false] at hvm
    rcases hvm with e | e | e | e | e | e | e | e <;> subst e
    · exact good_tup hE (by simp; omega)
    · exact good_lst hE (by simp; omega)
    · exact good_tup (cm _ _) (Nat.le_trans (cl _ _) (by omega))
    · refine good_tup (fun d hd => ?_) (by simp; omega)
      rcases List.mem_append.mp hd with h | h
      · exact hE d h
      · exact e1 d h
    · have := good_mix (cm none (some 1)) (cm (some 2) none) hzo (by omega)
      rw [List.append_assoc] at this
      exact this
    · exact hzo.good
    · exact (odd_all .none (by simp [oddL])).good
    · exact good_tup (fun d hd => by
        have := List.eq_of_mem_replicate hd
        subst this; exact int0E) (by simp; omega)
  have hvl : vals.length = 8 := by rw [← hv]; rfl
  rw [L20_split]
  simp [wVar_sh, wipeN, -Bool.exists_bool]
  rw [rgD_nats]
  refine comp_any natD id GoodV (List.range 4) [] (by simp; omega) (fun r hr C N hC => ?_) (fun zs hz1 hz2 => ?_)
  · simp [wVar_sh, wipeN, -Bool.exists_bool]
    exact ⟨so, rfl, by omega, fun x hx => Nat.lt_of_le_of_lt (sob x hx) (by decide), fun z hz => hC z hz⟩
  · have hz1 : zs.length = 4 := by simpa using hz1
    simp [backN, backAt, wVar_sh, -Bool.exists_bool]
    refine ⟨by omega, ?_⟩
    have := for_all (g := wName 25) (u := LV) (D := ⟨K, rt⟩) (env := [x0, some .src, x2, x3, x4, x5, some (.sh (natD ps.length)), x7, none, some (.sh (rowD so)), x10, x11, x12, none, x14, x15, x16, x17, none, x19, x20, x21, x22, some (.sh z), some (.sh (.list vals)), x25, none, x27, x28]) id (vals ++ zs) (fun pre env => ∃ y25 y27, env = [x0, some .src, x2, x3, x4, x5, some (.sh (natD ps.length)), x7, none, some (.sh (rowD so)), x10, x11, x12, none, x14, x15, x16, x17, none, x19, x20, x21, x22, some (.sh z), some (.sh (.list vals)), y25, none, y27, x28]) ⟨_, _, rfl⟩ (by
        rintro p v q' e env Kn ⟨y25, y27, rfl⟩ hK
        have hvm : v ∈ vals ++ zs := by rw [e]; simp
        have gv : GoodV v := by
          rcases List.mem_append.mp hvm with h | h
          · exact hgood v h
          · exact hz2 v h
        simp
        exact l_V gv fun y27 => hK _ ⟨_, _, rfl⟩) (by
        rintro env ⟨y25, y27, rfl⟩
        exact h _ _ _ _)
    simpa [rowD] using this
end
end DL
set_option Elab.async false
set_option linter.all false
set_option maxRecDepth 100000
set_option maxHeartbeats 2000000
set_option autoImplicit false
namespace DL
open PySem PySem.Spec PyProof.Rows L2 DZ
section
variable {K : Nv → Prop} {rt : PyData → Prop} {n m : Nat} {ps : List (Nat × Nat)} {x0 x2 x4 x6 x9 x10 x11 x12 x14 x15 x16 x17 x19 x20 x21 x22 x23 x24 x25 x27 x28 : Option Sl}
theorem l_C6 (f : FrOk n ps) (c : Conn n ps) (hn : n ≤ 100)
    (h : ∀ y28, K [x0, some .src, x2, some (.sh (frD n ps)), x4, some (.sh (natD n)), x6, some (.sh (.str (frD n ps).shown)), none, x9, x10, x11, x12, none, x14, x15, x16, x17, none, x19, x20, x21, x22, x23, x24, x25, none, x27, y28]) :
    L21 ⟨fun e => L22 ⟨K, rt⟩ e, rt⟩ [x0, some .src, x2, some (.sh (frD n ps)), x4, some (.sh (natD n)), x6, some (.sh (.str (frD n ps).shown)), none, x9, x10, x11, x12, none, x14, x15, x16, x17, none, x19, x20, x21, x22, x23, x24, x25, none, x27, x28] := by
  have hL := line_ge
  have f' : FrOk (n + 1) ps := ⟨by omega, by omega, f.m, fun p hp => ⟨by have := (f.lt p hp).1; omega, by have := (f.lt p hp).2; omega⟩⟩
  have r1 := conn_roots f c (l := List.range ps.length) (fun r hr => List.mem_range.mp hr) fun r hr => List.mem_range.mpr hr
  have r2 := apart_roots f (by omega)
  have ea : PyData.tuple [PyData.int ((n : Int) + 1), PyData.tuple (ps.map prD)] = frD (n + 1) ps := by simp [frD, natD]
  simp [L21, wVar_sh, -Bool.exists_bool]
  refine ⟨by omega, ?_⟩
  rw [ea]
  simp [L22, wVar_sh, -Bool.exists_bool]
  refine ⟨n, ps, rfl, f, ?_⟩
  have e1 : decide ((rootsL n (allHeads n ps)).length = 1) = true := decide_eq_true r1
  have e2 : decide ((rootsL (n + 1) (allHeads (n + 1) ps)).length = 1) = false := decide_eq_false r2
  rw [e1]
  simp [-Bool.exists_bool]
  refine ⟨n + 1, ps, rfl, f', ?_⟩
  rw [e2]
  simp [-Bool.exists_bool]
  refine ⟨(pl_fr f).ok, (pl_fr f).sh, same_shown ?_⟩
  rw [if_neg (by decide)]
  exact h _
theorem l_Ret {e : Nv} (h : rt (.bool true)) : LRet ⟨K, rt⟩ e := by
  have hL := line_ge
  simp [LRet, -Bool.exists_bool]
  refine ⟨by omega, by omega, by omega, by omega, 2, [(0, 1), (0, 1), (0, 1)], [1, 1, 0], rfl, ⟨by omega, by omega, by simp, by simp⟩, rfl, by omega, shaped_row, shaped_row (a := [-2, 2]), ?_⟩
  have e1 : bringL 2 [(0, 1), (0, 1), (0, 1)] [1, 1, 0] = [-2, 2] := by decide
  rw [e1]
  have e2 : PyData.eqv (rowD [-2, 2]) (.tuple [.int (-2), .int 2]) = true := by
    show PyData.eqv (rowD [-2, 2]) (rowD [-2, 2]) = true
    rw [eqv_row]; rfl
  rw [e2]
  exact h
end
end DL
set_option Elab.async false
set_option linter.all false
set_option maxRecDepth 100000
set_option maxHeartbeats 2000000
set_option autoImplicit false
namespace DL
open PySem PySem.Spec PyProof.Rows L2 DZ
theorem h_law {x0 : Option Sl} : ∀ R : PyData → Prop, R (.bool true) → w_law sHung sOf sPick sDrawnRing sDrawnCut sHeights sBrought sIsRing sBrought sIsRing sHeights sIsCut sRowSize sRoads sProduct sRoads sProduct sCut sCut sAdded sAdded sDrawnTree sAlong sTold sTold (sWholeRow true) sBent1 (sWholeRow false) sHangs ⟨fun _ => R .none, R⟩ ([x0, some .src] ++ List.replicate 27 none) := by
  intro R hR
  rw [law_split]
  simp only [wSeqS_eq, wFor_eq, wRg1_eq, wC_eq]
  refine ⟨4, rfl, by omega, by omega, ?_⟩
  rw [rgD_nats]
  show forL _ _ _ (natsD (List.range 4)) _
  refine for_all natD (List.range 4) (fun pre env => ∃ x2 x3 x4 x5 x6 x7 x9 x10 x11 x12 x14 x15 x16 x17 x19 x20 x21 x22 x23 x24 x25 x27 x28, env = [x0, some .src, x2, x3, x4, x5, x6, x7, none, x9, x10, x11, x12, none, x14, x15, x16, x17, none, x19, x20, x21, x22, x23, x24, x25, none, x27, x28]) ⟨none, none, none, none, none, none, none, none, none, none, none, none, none, none, none, none, none, none, none, none, none, none, none, rfl⟩ ?_ ?_
  · rintro p lap q' e env Kn ⟨x2, x3, x4, x5, x6, x7, x9, x10, x11, x12, x14, x15, x16, x17, x19, x20, x21, x22, x23, x24, x25, x27, x28, rfl⟩ hK
    have hlap : lap < 4 := List.mem_range.mp (by rw [e]; simp)
    simp only [wName_eq, wSeqS_eq]
    refine l_A1 hlap fun n ps F so f c n1 m1 F1 F2 s1 s2 => ?_
    refine l_A2 f c n1 m1 F1 F2 s1 s2 fun W ring ch late g => ?_
    refine l_C1 g fun y15 y16 y17 => ?_
    refine l_C2 f fun hs => ?_
    refine l_C3 g fun y15 y20 => ?_
    refine l_C4 g fun y21 y22 => ?_
    refine l_C5 f m1 s1 s2 fun y23 y24 y25 y27 => ?_
    refine l_C6 f c n1 fun y28 => ?_
    exact hK _ ⟨_, _, _, _, _, _, _, _, _, _, _, _, _, _, _, _, _, _, _, _, _, _, _, rfl⟩
  · rintro env _
    exact l_Ret hR
end DL
set_option Elab.async false
set_option linter.all false
set_option maxRecDepth 100000
set_option maxHeartbeats 1000000
set_option autoImplicit false
namespace DL
open PySem PySem.Spec PyProof.Rows L2 DZ
theorem moFalse : MoD sFalse := fun _ _ _ _ h => h
theorem moHeadsBy : MoD sHeadsBy := fun cs P P' k ⟨a, b, c, d, e, f, g, h, q⟩ => ⟨a, b, c, d, e, f, g, h, k _ q⟩
theorem moAllRoads : MoD sAllRoads := fun cs P P' k ⟨a, b, c, d, q⟩ => ⟨a, b, c, d, k _ q⟩
theorem moIsWhole : MoD sIsWhole := fun cs P P' k ⟨a, b, q⟩ => ⟨a, b, k _ q⟩
theorem moWholeRow (sw : Bool) : MoD (sWholeRow sw) := fun cs P P' k ⟨a, b, c, d, q⟩ => ⟨a, b, c, d, k _ q⟩
theorem moPiecesBy : MoD sPiecesBy := fun cs P P' k ⟨a, b, c, d, e, f, g, h, q⟩ => ⟨a, b, c, d, e, f, g, h, k _ q⟩
theorem moPieceCount : MoD sPieceCount := fun cs P P' k ⟨a, b, c, d, e, f, g, h, q⟩ => ⟨a, b, c, d, e, f, g, h, k _ q⟩
theorem moHangs : MoD sHangs := fun cs P P' k ⟨a, b, c, d, q⟩ => ⟨a, b, c, d, k _ q⟩
theorem moProduct : MoD sProduct := fun cs P P' k ⟨a, b, c, d, e, f, q⟩ => ⟨a, b, c, d, e, f, k _ q⟩
theorem moRowSize : MoD sRowSize := fun cs P P' k ⟨a, b, c, d, q⟩ => ⟨a, b, c, d, k _ q⟩
theorem moRoads : MoD sRoads := fun cs P P' k ⟨a, b, c, q⟩ => ⟨a, b, c, k _ q⟩
theorem moOf : MoD sOf := fun cs P P' k ⟨a, b, c, d, e, f, q⟩ => ⟨a, b, c, d, e, f, fun z hz => k _ (q z hz)⟩
theorem moMixed : MoD sMixed := fun cs P P' k ⟨a, b, c, d, e, q⟩ => ⟨a, b, c, d, e, fun es h => k _ (q es h)⟩
theorem moOutside : MoD sOutside := fun cs P P' k ⟨a, b, c, d, e, f, q⟩ => ⟨a, b, c, d, e, f, k _ q⟩
theorem moAdded : MoD sAdded := fun cs P P' k ⟨a, b, c, d, e, f, g, q⟩ => ⟨a, b, c, d, e, f, g, k _ q⟩
theorem moBrought : MoD sBrought := fun cs P P' k ⟨a, b, c, d, e, f, q⟩ => ⟨a, b, c, d, e, f, k _ q⟩
theorem moIsRing : MoD sIsRing := fun cs P P' k ⟨a, b, c, d, e, f, q1, q2⟩ => ⟨a, b, c, d, e, f, fun h => k _ (q1 h), fun h => k _ (q2 h)⟩
theorem moCut : MoD sCut := fun cs P P' k ⟨a, b, c, d, e, f, g, h, q⟩ => ⟨a, b, c, d, e, f, g, h, k _ q⟩
theorem moTold : MoD sTold := fun cs P P' k ⟨a, b, c, d, q⟩ => ⟨a, b, c, d, k _ q⟩
theorem moDrawnTree : MoD sDrawnTree := fun cs P P' k ⟨a, b, c, d, e, q⟩ => ⟨a, b, c, d, e, fun T h => k _ (q T h)⟩
theorem moAlong : MoD sAlong := fun cs P P' k ⟨a, b, c, d, e, f, g, h, i, j, q⟩ => ⟨a, b, c, d, e, f, g, h, i, j, fun hs h1 h2 h3 => k _ (q hs h1 h2 h3)⟩
theorem moHeights : MoD sHeights := fun cs P P' k ⟨a, b, c, d, e, f, g, h, i, q⟩ => ⟨a, b, c, d, e, f, g, h, i, k _ q⟩
theorem moIsCut : MoD sIsCut := fun cs P P' k ⟨a, b, c, d, e, f, g, h, i, q⟩ => ⟨a, b, c, d, e, f, g, h, i, k _ q⟩
theorem moOwnRing : MoD sOwnRing := fun cs P P' k ⟨a, b, c, d, e, f, g, h, i, q⟩ => ⟨a, b, c, d, e, f, g, h, i, fun w h1 h2 h3 => k _ (q w h1 h2 h3)⟩
theorem moDrawnRing : MoD sDrawnRing := fun cs P P' k ⟨a, b, c, d, e, f, g, h, q⟩ => ⟨a, b, c, d, e, f, g, h, fun w h1 h2 h3 => k _ (q w h1 h2 h3)⟩
theorem moDrawnCut : MoD sDrawnCut := fun cs P P' k ⟨a, b, c, d, e, f, g, q⟩ => ⟨a, b, c, d, e, f, g, fun w h1 h2 => k _ (q w h1 h2)⟩
theorem moHung : MoD sHung := fun cs P P' k ⟨a, b, c, d, e, f, g, q⟩ => ⟨a, b, c, d, e, f, g, fun n ps h1 h2 h3 h4 => k _ (q n ps h1 h2 h3 h4)⟩
theorem moBent0 : MoD sBent0 := fun cs P P' k ⟨a, b, q⟩ => ⟨a, b, fun z h => k _ (q z h)⟩
theorem moBent1 : MoD sBent1 := fun cs P P' k ⟨a, b, c, d, q⟩ => ⟨a, b, c, d, fun z h => k _ (q z h)⟩
end DL
set_option Elab.async false
set_option linter.all false
set_option maxRecDepth 100000
set_option maxHeartbeats 4000000
set_option autoImplicit false
namespace DL
open PySem PySem.Spec PyProof.Rows L2 DZ
def topS (i : Nat) : Stmt := PySem.Challenge.pw_shelledlots_k90_whole_rows_and_right_ang.main.body.getD i (.Pass ⟨0, 0, 0, 0⟩)

theorem hu1 {A : Around} {k : Nat} (hr : Room k A) : A.units + 1 < cLine := by have := hr.un; omega
theorem hu64 {A : Around} {k : Nat} (hr : Room k A) : A.units + 64 < cLine := by have := hr.un; omega
theorem hu65 {A : Around} {k : Nat} (hr : Room k A) : A.units + 65 < cLine := by have := hr.un; omega
theorem hu110 {A : Around} {k : Nat} (hr : Room k A) : A.units + 110 < cLine := by have := hr.un; omega

structure Bl (mg : Str → Option Value) : Prop where
  range_ : mg "range" = none
  len_ : mg "len" = none
  tuple_ : mg "tuple" = none
  list_ : mg "list" = none
  int_ : mg "int" = none
  abs_ : mg "abs" = none
  max_ : mg "max" = none
  min_ : mg "min" = none
  sum_ : mg "sum" = none
  all_ : mg "all" = none
  sorted_ : mg "sorted" = none
  isinstance_ : mg "isinstance" = none
  zip_ : mg "zip" = none
  enumerate_ : mg "enumerate" = none
  repr_ : mg "repr" = none
  dict_ : mg "dict" = none
  bool_ : mg "bool" = none
  str_ : mg "str" = none
section
variable {P : Program} {w : World} {K : PySem.W.Frag} {mg : Str → Option Value} {base : Heap}

theorem S_all_roads : FnScope ["frame"] ["frame"] (defScope (topS 1)) := ⟨rfl, rfl, rfl, by decide +kernel, rfl, by decide +kernel, by decide +kernel⟩
theorem b_all_roads {k : Nat} (B : Bl mg) : ∀ X : Cx, (∃ (f : Addr) (cdv : Value) (A : Around) (around : List Env) (sh : Shared) (H : Hp) (E : XK), X = (cxOf CX0 P w K mg base ["frame"] "all_roads" (defScope (topS 1)) f cdv A around sh H E).nox) → X.A.guards = some [] → Room k X.A → BD X (defBody (topS 1)) (w_all_roads) := by
  rintro X ⟨f, cdv, A, around, sh, H, E, rfl⟩ hg hr
  have S := S_all_roads
  exact (bd_one (sd_ret (ed_trg1 rfl (by rfl) B.tuple_ (by rfl) B.range_ (ed_len (by rfl) B.len_ (ed_ix (ed_var 0 (pv 0)) ed_int)))))
theorem S_heads_by : FnScope ["frame", "lot", "heads", "road", "crossing", "low", "high", "head"] ["frame", "lot"] (defScope (topS 2)) := ⟨rfl, rfl, rfl, by decide +kernel, rfl, by decide +kernel, by decide +kernel⟩
theorem b_heads_by {k : Nat} (B : Bl mg) : ∀ X : Cx, (∃ (f : Addr) (cdv : Value) (A : Around) (around : List Env) (sh : Shared) (H : Hp) (E : XK), X = (cxOf CX0 P w K mg base ["frame", "lot", "heads", "road", "crossing", "low", "high", "head"] "heads_by" (defScope (topS 2)) f cdv A around sh H E).nox) → X.A.guards = some [] → Room k X.A → BD X (defBody (topS 2)) (w_heads_by) := by
  rintro X ⟨f, cdv, A, around, sh, H, E, rfl⟩ hg hr
  have S := S_heads_by
  exact (bd_cons (sd_set 2 S.nd rfl (by first | exact .inl rfl | exact .inr rfl) (od_lrg1 rfl (by rfl) B.list_ (by rfl) B.range_ (ed_ix (ed_var 0 (pv 0)) ed_int)).ed)
    (bd_cons (sd_for PassesOwn.never rfl (id_seq (ed_var 1 (pv 1))) (gd_name (pg_name (i := 3) S.nd rfl (by first | exact .inl rfl | exact .inr rfl))) (bd_cons (sd_asg (od_sorted (by rfl) B.sorted_ (ed_comp rfl S.nd (id_seq (ed_ix (ed_ix (ed_var 0 (pv 0)) ed_int) (ed_var 3 (pv 3)))) (own := [("crossing", 4)]) (blk_ok (by rfl)) (fun _ _ _ _ _ => (gd_name (pg_name (i := 4) S.nd rfl (by first | exact .inl rfl | exact .inr rfl)))) (fun _ _ _ _ _ => tsd_nil) (fun _ _ _ _ _ => (ed_ix (ed_var 2 (pv 2)) (ed_var 4 (pv 4)))))).ed (gd_unlK (K := K) rfl rfl (gsd_cons (gd_name (pg_name (i := 5) S.nd rfl (by first | exact .inl rfl | exact .inr rfl))) (gsd_cons (gd_name (pg_name (i := 6) S.nd rfl (by first | exact .inl rfl | exact .inr rfl))) gsd_nil))))
    (bd_one (sd_set 2 S.nd rfl (by first | exact .inl rfl | exact .inr rfl) (ed_comp rfl S.nd (id_seq (ed_var 2 (pv 2))) (own := [("head", 7)]) (blk_ok (by rfl)) (fun _ _ _ _ _ => (gd_name (pg_name (i := 7) S.nd rfl (by first | exact .inl rfl | exact .inr rfl)))) (fun _ _ _ _ _ => tsd_nil) (fun _ _ _ _ _ => (ed_if (td_eq (hu64 hr) (ed_var 7 (pv 7)) (ed_var 6 (pv 6))) (ed_var 5 (pv 5)) (ed_var 7 (pv 7)))))))))
    (bd_one (sd_ret (ed_var 2 (pv 2))))))
theorem S_pieces_by : FnScope ["frame", "lot", "heads", "found", "first", "crossing"] ["frame", "lot"] (defScope (topS 3)) := ⟨rfl, rfl, rfl, by decide +kernel, rfl, by decide +kernel, by decide +kernel⟩
theorem b_pieces_by {k : Nat} (B : Bl mg) {s_heads_by : DSp} (C_heads_by : Cal P w K mg base "heads_by" ["frame", "lot"] k s_heads_by) : ∀ X : Cx, (∃ (f : Addr) (cdv : Value) (A : Around) (around : List Env) (sh : Shared) (H : Hp) (E : XK), X = (cxOf CX0 P w K mg base ["frame", "lot", "heads", "found", "first", "crossing"] "pieces_by" (defScope (topS 3)) f cdv A around sh H E).nox) → X.A.guards = some [] → Room k X.A → BD X (defBody (topS 3)) (w_pieces_by s_heads_by) := by
  rintro X ⟨f, cdv, A, around, sh, H, E, rfl⟩ hg hr
  have S := S_pieces_by
  exact (bd_cons (sd_parC 2 3 rfl (ed_callN C_heads_by hg hr (cn_cons (ed_var 0 (pv 0)) (cn_cons (ed_var 1 (pv 1)) cn_nil))).x (od_lst ad_nil).x (pg_name (i := 2) S.nd rfl (by first | exact .inl rfl | exact .inr rfl)) (pg_name (i := 3) S.nd rfl (by first | exact .inl rfl | exact .inr rfl)))
    (bd_cons (sd_for PassesOwn.never rfl (id_rg1 (by rfl) B.range_ (ed_ix (ed_var 0 (pv 0)) ed_int)) (gd_name (pg_name (i := 4) S.nd rfl (by first | exact .inl rfl | exact .inr rfl))) (bd_one (sd_if (td_eq (hu64 hr) (ed_ix (ed_var 2 (pv 2)) (ed_var 4 (pv 4))) (ed_var 4 (pv 4))) (bd_one (sd_expr (ed_append 3 (pv 3) (ed_tuple (by rfl) B.tuple_ (ed_comp rfl S.nd (id_rg1 (by rfl) B.range_ (ed_ix (ed_var 0 (pv 0)) ed_int)) (own := [("crossing", 5)]) (blk_ok (by rfl)) (fun _ _ _ _ _ => (gd_name (pg_name (i := 5) S.nd rfl (by first | exact .inl rfl | exact .inr rfl)))) (fun _ _ _ _ _ => (tsd_one (td_eq (hu64 hr) (ed_ix (ed_var 2 (pv 2)) (ed_var 5 (pv 5))) (ed_var 4 (pv 4))))) (fun _ _ _ _ _ => (ed_var 5 (pv 5)))))))) bd_nil)))
    (bd_one (sd_ret (ed_tuple (by rfl) B.tuple_ (ed_var 3 (pv 3)))))))
theorem S_piece_count : FnScope ["frame", "lot"] ["frame", "lot"] (defScope (topS 4)) := ⟨rfl, rfl, rfl, by decide +kernel, rfl, by decide +kernel, by decide +kernel⟩
theorem b_piece_count {k : Nat} (B : Bl mg) {s_pieces_by : DSp} (C_pieces_by : Cal P w K mg base "pieces_by" ["frame", "lot"] k s_pieces_by) : ∀ X : Cx, (∃ (f : Addr) (cdv : Value) (A : Around) (around : List Env) (sh : Shared) (H : Hp) (E : XK), X = (cxOf CX0 P w K mg base ["frame", "lot"] "piece_count" (defScope (topS 4)) f cdv A around sh H E).nox) → X.A.guards = some [] → Room k X.A → BD X (defBody (topS 4)) (w_piece_count s_pieces_by) := by
  rintro X ⟨f, cdv, A, around, sh, H, E, rfl⟩ hg hr
  have S := S_piece_count
  exact (bd_one (sd_ret (ed_len (by rfl) B.len_ (ed_callN C_pieces_by hg hr (cn_cons (ed_var 0 (pv 0)) (cn_cons (ed_var 1 (pv 1)) cn_nil))))))
theorem S_is_whole : FnScope ["value"] ["value"] (defScope (topS 6)) := ⟨rfl, rfl, rfl, by decide +kernel, rfl, by decide +kernel, by decide +kernel⟩
theorem b_is_whole {k : Nat} (B : Bl mg) : ∀ X : Cx, (∃ (f : Addr) (cdv : Value) (A : Around) (around : List Env) (sh : Shared) (H : Hp) (E : XK), X = (cxOf CX0 P w K mg base ["value"] "is_whole" (defScope (topS 6)) f cdv A around sh H E).nox) → X.A.guards = some [] → Room k X.A → BD X (defBody (topS 6)) (w_is_whole) := by
  rintro X ⟨f, cdv, A, around, sh, H, E, rfl⟩ hg hr
  have S := S_is_whole
  exact (bd_one (sd_ret (ed_and (ed_isi kit_int (by rfl) B.isinstance_ (by rfl) B.int_ (by decide +kernel) (ed_var 0 (pv 0))) (ed_one (ed_not (ed_isi kit_bool (by rfl) B.isinstance_ (by rfl) B.bool_ (by decide +kernel) (ed_var 0 (pv 0))))))))
theorem S_is_whole_row : FnScope ["many", "value", "one"] ["many", "value"] (defScope (topS 7)) := ⟨rfl, rfl, rfl, by decide +kernel, rfl, by decide +kernel, by decide +kernel⟩
theorem b_is_whole_row {k : Nat} (B : Bl mg) {s_is_whole : DSp} (C_is_whole : Cal P w K mg base "is_whole" ["value"] k s_is_whole) : ∀ X : Cx, (∃ (f : Addr) (cdv : Value) (A : Around) (around : List Env) (sh : Shared) (H : Hp) (E : XK), X = (cxOf CX0 P w K mg base ["many", "value", "one"] "is_whole_row" (defScope (topS 7)) f cdv A around sh H E).nox) → X.A.guards = some [] → Room k X.A → BD X (defBody (topS 7)) (w_is_whole_row s_is_whole) := by
  rintro X ⟨f, cdv, A, around, sh, H, E, rfl⟩ hg hr
  have S := S_is_whole_row
  exact (bd_one (sd_ret (ed_and (ed_isi kit_tuple (by rfl) B.isinstance_ (by rfl) B.tuple_ (by decide +kernel) (ed_var 1 (pv 1))) (ed_and (ed_eq (hu64 hr) (ed_len (by rfl) B.len_ (ed_var 1 (pv 1))) (ed_var 0 (pv 0))) (ed_one (ed_all rfl (by rfl) B.all_ (ed_comp rfl S.nd (id_seq (ed_var 1 (pv 1))) (own := [("one", 2)]) (blk_ok (by rfl)) (fun _ _ _ _ _ => (gd_name (pg_name (i := 2) S.nd rfl (by first | exact .inl rfl | exact .inr rfl)))) (fun _ _ _ _ _ => tsd_nil) (fun _ _ _ _ _ => (ed_callN C_is_whole hg hr (cn_cons (ed_var 2 (pv 2)) cn_nil))))))))))
theorem S_hangs_together : FnScope ["frame"] ["frame"] (defScope (topS 8)) := ⟨rfl, rfl, rfl, by decide +kernel, rfl, by decide +kernel, by decide +kernel⟩
theorem b_hangs_together {k : Nat} (B : Bl mg) {s_piece_count : DSp} (C_piece_count : Cal P w K mg base "piece_count" ["frame", "lot"] k s_piece_count) {s_all_roads : DSp} (C_all_roads : Cal P w K mg base "all_roads" ["frame"] k s_all_roads) : ∀ X : Cx, (∃ (f : Addr) (cdv : Value) (A : Around) (around : List Env) (sh : Shared) (H : Hp) (E : XK), X = (cxOf CX0 P w K mg base ["frame"] "hangs_together" (defScope (topS 8)) f cdv A around sh H E).nox) → X.A.guards = some [] → Room k X.A → BD X (defBody (topS 8)) (w_hangs_together s_piece_count s_all_roads) := by
  rintro X ⟨f, cdv, A, around, sh, H, E, rfl⟩ hg hr
  have S := S_hangs_together
  exact (bd_one (sd_ret (ed_eq (hu64 hr) (ed_callN C_piece_count hg hr (cn_cons (ed_var 0 (pv 0)) (cn_cons (ed_callN C_all_roads hg hr (cn_cons (ed_var 0 (pv 0)) cn_nil)) cn_nil))) ed_int)))
theorem S_row_product : FnScope ["one", "other", "a", "b"] ["one", "other"] (defScope (topS 9)) := ⟨rfl, rfl, rfl, by decide +kernel, rfl, by decide +kernel, by decide +kernel⟩
theorem b_row_product {k : Nat} (B : Bl mg) : ∀ X : Cx, (∃ (f : Addr) (cdv : Value) (A : Around) (around : List Env) (sh : Shared) (H : Hp) (E : XK), X = (cxOf CX0 P w K mg base ["one", "other", "a", "b"] "row_product" (defScope (topS 9)) f cdv A around sh H E).nox) → X.A.guards = some [] → Room k X.A → BD X (defBody (topS 9)) (w_row_product) := by
  rintro X ⟨f, cdv, A, around, sh, H, E, rfl⟩ hg hr
  have S := S_row_product
  exact (bd_one (sd_ret (ed_sum rfl (by rfl) B.sum_ (ed_comp rfl S.nd (id_zipS (by rfl) B.zip_ (ed_var 0 (pv 0)) (ed_var 1 (pv 1))) (own := [("a", 2), ("b", 3)]) (blk_ok (by rfl)) (fun _ _ _ _ _ => (gd_tupK (K := K) rfl rfl (gsd_cons (gd_name (pg_name (i := 2) S.nd rfl (by first | exact .inl rfl | exact .inr rfl))) (gsd_cons (gd_name (pg_name (i := 3) S.nd rfl (by first | exact .inl rfl | exact .inr rfl))) gsd_nil)))) (fun _ _ _ _ _ => tsd_nil) (fun _ _ _ _ _ => (ed_mul (ed_var 2 (pv 2)) (ed_var 3 (pv 3))))))))
theorem S_row_size : FnScope ["row", "number"] ["row"] (defScope (topS 10)) := ⟨rfl, rfl, rfl, by decide +kernel, rfl, by decide +kernel, by decide +kernel⟩
theorem b_row_size {k : Nat} (B : Bl mg) : ∀ X : Cx, (∃ (f : Addr) (cdv : Value) (A : Around) (around : List Env) (sh : Shared) (H : Hp) (E : XK), X = (cxOf CX0 P w K mg base ["row", "number"] "row_size" (defScope (topS 10)) f cdv A around sh H E).nox) → X.A.guards = some [] → Room k X.A → BD X (defBody (topS 10)) (w_row_size) := by
  rintro X ⟨f, cdv, A, around, sh, H, E, rfl⟩ hg hr
  have S := S_row_size
  exact (bd_one (sd_ret (ed_sum rfl (by rfl) B.sum_ (ed_comp rfl S.nd (id_seq (ed_var 0 (pv 0))) (own := [("number", 1)]) (blk_ok (by rfl)) (fun _ _ _ _ _ => (gd_name (pg_name (i := 1) S.nd rfl (by first | exact .inl rfl | exact .inr rfl)))) (fun _ _ _ _ _ => tsd_nil) (fun _ _ _ _ _ => (ed_mul (ed_var 1 (pv 1)) (ed_var 1 (pv 1))))))))
theorem S_roads_of_row : FnScope ["row", "road", "number"] ["row"] (defScope (topS 11)) := ⟨rfl, rfl, rfl, by decide +kernel, rfl, by decide +kernel, by decide +kernel⟩
theorem b_roads_of_row {k : Nat} (B : Bl mg) : ∀ X : Cx, (∃ (f : Addr) (cdv : Value) (A : Around) (around : List Env) (sh : Shared) (H : Hp) (E : XK), X = (cxOf CX0 P w K mg base ["row", "road", "number"] "roads_of_row" (defScope (topS 11)) f cdv A around sh H E).nox) → X.A.guards = some [] → Room k X.A → BD X (defBody (topS 11)) (w_roads_of_row) := by
  rintro X ⟨f, cdv, A, around, sh, H, E, rfl⟩ hg hr
  have S := S_roads_of_row
  exact (bd_one (sd_ret (ed_tuple (by rfl) B.tuple_ (ed_comp rfl S.nd (id_enum (by rfl) B.enumerate_ (ed_var 0 (pv 0))) (own := [("road", 1), ("number", 2)]) (blk_ok (by rfl)) (fun _ _ _ _ _ => (gd_tupK (K := K) rfl rfl (gsd_cons (gd_name (pg_name (i := 1) S.nd rfl (by first | exact .inl rfl | exact .inr rfl))) (gsd_cons (gd_name (pg_name (i := 2) S.nd rfl (by first | exact .inl rfl | exact .inr rfl))) gsd_nil)))) (fun _ _ _ _ _ => (tsd_one (td_ne (hu64 hr) (ed_var 2 (pv 2)) ed_int))) (fun _ _ _ _ _ => (ed_var 1 (pv 1)))))))
theorem S_added_rows : FnScope ["many", "pairs", "found", "times", "row", "a", "b"] ["many", "pairs"] (defScope (topS 12)) := ⟨rfl, rfl, rfl, by decide +kernel, rfl, by decide +kernel, by decide +kernel⟩
theorem b_added_rows {k : Nat} (B : Bl mg) : ∀ X : Cx, (∃ (f : Addr) (cdv : Value) (A : Around) (around : List Env) (sh : Shared) (H : Hp) (E : XK), X = (cxOf CX0 P w K mg base ["many", "pairs", "found", "times", "row", "a", "b"] "added_rows" (defScope (topS 12)) f cdv A around sh H E).nox) → X.A.guards = some [] → Room k X.A → BD X (defBody (topS 12)) (w_added_rows) := by
  rintro X ⟨f, cdv, A, around, sh, H, E, rfl⟩ hg hr
  have S := S_added_rows
  exact (bd_cons (sd_set 2 S.nd rfl (by first | exact .inl rfl | exact .inr rfl) (ed_mul (ed_lst (ad_cons ed_int ad_nil)) (ed_var 0 (pv 0))))
    (bd_cons (sd_for PassesOwn.never rfl (id_seq (ed_var 1 (pv 1))) (gd_tupK (K := K) rfl rfl (gsd_cons (gd_name (pg_name (i := 3) S.nd rfl (by first | exact .inl rfl | exact .inr rfl))) (gsd_cons (gd_name (pg_name (i := 4) S.nd rfl (by first | exact .inl rfl | exact .inr rfl))) gsd_nil))) (bd_one (sd_setLc 2 rfl S.nd rfl rfl (sw_true rfl rfl rfl rfl) (id_zipS (by rfl) B.zip_ (ed_var 2 (pv 2)) (ed_var 4 (pv 4))) (own := [("a", 5), ("b", 6)]) (blk_ok (by rfl)) (fun _ _ _ _ _ => (gd_tupK (K := K) rfl rfl (gsd_cons (gd_name (pg_name (i := 5) S.nd rfl (by first | exact .inl rfl | exact .inr rfl))) (gsd_cons (gd_name (pg_name (i := 6) S.nd rfl (by first | exact .inl rfl | exact .inr rfl))) gsd_nil)))) (fun _ _ _ _ _ => tsd_nil) (fun _ _ _ _ _ => (ed_add (ed_var 5 (pv 5)) (ed_mul (ed_var 3 (pv 3)) (ed_var 6 (pv 6))))))))
    (bd_one (sd_ret (ed_tuple (by rfl) B.tuple_ (ed_var 2 (pv 2)))))))
theorem S_brought_by : FnScope ["frame", "row", "found", "a", "b", "number"] ["frame", "row"] (defScope (topS 13)) := ⟨rfl, rfl, rfl, by decide +kernel, rfl, by decide +kernel, by decide +kernel⟩
theorem b_brought_by {k : Nat} (B : Bl mg) : ∀ X : Cx, (∃ (f : Addr) (cdv : Value) (A : Around) (around : List Env) (sh : Shared) (H : Hp) (E : XK), X = (cxOf CX0 P w K mg base ["frame", "row", "found", "a", "b", "number"] "brought_by" (defScope (topS 13)) f cdv A around sh H E).nox) → X.A.guards = some [] → Room k X.A → BD X (defBody (topS 13)) (w_brought_by) := by
  rintro X ⟨f, cdv, A, around, sh, H, E, rfl⟩ hg hr
  have S := S_brought_by
  exact (bd_cons (sd_setO 2 S.nd rfl (by first | exact .inl rfl | exact .inr rfl) (od_mul (ed_lst (ad_cons ed_int ad_nil)) (ed_ix (ed_var 0 (pv 0)) ed_int)))
    (bd_cons (sd_for PassesOwn.never rfl (id_zipS (by rfl) B.zip_ (ed_ix (ed_var 0 (pv 0)) ed_int) (ed_var 1 (pv 1))) (gd_tupK (K := K) rfl rfl (gsd_cons (gd_tupK (K := K) rfl rfl (gsd_cons (gd_name (pg_name (i := 3) S.nd rfl (by first | exact .inl rfl | exact .inr rfl))) (gsd_cons (gd_name (pg_name (i := 4) S.nd rfl (by first | exact .inl rfl | exact .inr rfl))) gsd_nil))) (gsd_cons (gd_name (pg_name (i := 5) S.nd rfl (by first | exact .inl rfl | exact .inr rfl))) gsd_nil))) (bd_cons (sd_augIx 2 (f := fun a b => a - b) ip_sub (pv 2) (ed_var 3 (pv 3)) (ed_var 5 (pv 5)))
    (bd_one (sd_augIx 2 (f := fun a b => a + b) ip_add (pv 2) (ed_var 4 (pv 4)) (ed_var 5 (pv 5))))))
    (bd_one (sd_ret (ed_tuple (by rfl) B.tuple_ (ed_var 2 (pv 2)))))))
theorem S_is_ring_row : FnScope ["frame", "row", "one"] ["frame", "row"] (defScope (topS 14)) := ⟨rfl, rfl, rfl, by decide +kernel, rfl, by decide +kernel, by decide +kernel⟩
theorem b_is_ring_row {k : Nat} (B : Bl mg) {s_brought_by : DSp} (C_brought_by : Cal P w K mg base "brought_by" ["frame", "row"] k s_brought_by) : ∀ X : Cx, (∃ (f : Addr) (cdv : Value) (A : Around) (around : List Env) (sh : Shared) (H : Hp) (E : XK), X = (cxOf CX0 P w K mg base ["frame", "row", "one"] "is_ring_row" (defScope (topS 14)) f cdv A around sh H E).nox) → X.A.guards = some [] → Room k X.A → BD X (defBody (topS 14)) (w_is_ring_row s_brought_by) := by
  rintro X ⟨f, cdv, A, around, sh, H, E, rfl⟩ hg hr
  have S := S_is_ring_row
  exact (bd_one (sd_ret (ed_eq (hu64 hr) (ed_comp rfl S.nd (id_seq (ed_callN C_brought_by hg hr (cn_cons (ed_var 0 (pv 0)) (cn_cons (ed_var 1 (pv 1)) cn_nil)))) (own := [("one", 2)]) (blk_ok (by rfl)) (fun _ _ _ _ _ => (gd_name (pg_name (i := 2) S.nd rfl (by first | exact .inl rfl | exact .inr rfl)))) (fun _ _ _ _ _ => (tsd_one (td_ne (hu64 hr) (ed_var 2 (pv 2)) ed_int))) (fun _ _ _ _ _ => (ed_var 2 (pv 2)))) (ed_lst ad_nil))))
theorem S_cut_row : FnScope ["frame", "heights", "a", "b"] ["frame", "heights"] (defScope (topS 15)) := ⟨rfl, rfl, rfl, by decide +kernel, rfl, by decide +kernel, by decide +kernel⟩
theorem b_cut_row {k : Nat} (B : Bl mg) : ∀ X : Cx, (∃ (f : Addr) (cdv : Value) (A : Around) (around : List Env) (sh : Shared) (H : Hp) (E : XK), X = (cxOf CX0 P w K mg base ["frame", "heights", "a", "b"] "cut_row" (defScope (topS 15)) f cdv A around sh H E).nox) → X.A.guards = some [] → Room k X.A → BD X (defBody (topS 15)) (w_cut_row) := by
  rintro X ⟨f, cdv, A, around, sh, H, E, rfl⟩ hg hr
  have S := S_cut_row
  exact (bd_one (sd_ret (ed_tuple (by rfl) B.tuple_ (ed_comp rfl S.nd (id_seq (ed_ix (ed_var 0 (pv 0)) ed_int)) (own := [("a", 2), ("b", 3)]) (blk_ok (by rfl)) (fun _ _ _ _ _ => (gd_tupK (K := K) rfl rfl (gsd_cons (gd_name (pg_name (i := 2) S.nd rfl (by first | exact .inl rfl | exact .inr rfl))) (gsd_cons (gd_name (pg_name (i := 3) S.nd rfl (by first | exact .inl rfl | exact .inr rfl))) gsd_nil)))) (fun _ _ _ _ _ => tsd_nil) (fun _ _ _ _ _ => (ed_sub (ed_ix (ed_var 1 (pv 1)) (ed_var 3 (pv 3))) (ed_ix (ed_var 1 (pv 1)) (ed_var 2 (pv 2)))))))))
theorem S_told_tree : FnScope ["frame", "heads", "found", "road", "a", "b", "low", "high", "head"] ["frame"] (defScope (topS 16)) := ⟨rfl, rfl, rfl, by decide +kernel, rfl, by decide +kernel, by decide +kernel⟩
theorem b_told_tree {k : Nat} (B : Bl mg) : ∀ X : Cx, (∃ (f : Addr) (cdv : Value) (A : Around) (around : List Env) (sh : Shared) (H : Hp) (E : XK), X = (cxOf CX0 P w K mg base ["frame", "heads", "found", "road", "a", "b", "low", "high", "head"] "told_tree" (defScope (topS 16)) f cdv A around sh H E).nox) → X.A.guards = some [] → Room k X.A → BD X (defBody (topS 16)) (w_told_tree) := by
  rintro X ⟨f, cdv, A, around, sh, H, E, rfl⟩ hg hr
  have S := S_told_tree
  exact (bd_cons (sd_par 1 2 rfl S.nd rfl rfl (by decide) rfl rfl (od_lrg1 rfl (by rfl) B.list_ (by rfl) B.range_ (ed_ix (ed_var 0 (pv 0)) ed_int)).ed.x (od_lst ad_nil).x (by rfl))
    (bd_cons (sd_for PassesOwn.never rfl (id_enum (by rfl) B.enumerate_ (ed_ix (ed_var 0 (pv 0)) ed_int)) (gd_tupK (K := K) rfl rfl (gsd_cons (gd_name (pg_name (i := 3) S.nd rfl (by first | exact .inl rfl | exact .inr rfl))) (gsd_cons (gd_tupK (K := K) rfl rfl (gsd_cons (gd_name (pg_name (i := 4) S.nd rfl (by first | exact .inl rfl | exact .inr rfl))) (gsd_cons (gd_name (pg_name (i := 5) S.nd rfl (by first | exact .inl rfl | exact .inr rfl))) gsd_nil))) gsd_nil))) (bd_cons (sd_parC 6 7 rfl (ed_min2 rfl (by rfl) B.min_ (ed_ix (ed_var 1 (pv 1)) (ed_var 4 (pv 4))) (ed_ix (ed_var 1 (pv 1)) (ed_var 5 (pv 5)))).x (ed_max2 rfl (by rfl) B.max_ (ed_ix (ed_var 1 (pv 1)) (ed_var 4 (pv 4))) (ed_ix (ed_var 1 (pv 1)) (ed_var 5 (pv 5)))).x (pg_name (i := 6) S.nd rfl (by first | exact .inl rfl | exact .inr rfl)) (pg_name (i := 7) S.nd rfl (by first | exact .inl rfl | exact .inr rfl)))
    (bd_one (sd_if (td_ne (hu64 hr) (ed_var 6 (pv 6)) (ed_var 7 (pv 7))) (bd_cons (sd_expr (ed_append 2 (pv 2) (ed_var 3 (pv 3))))
    (bd_one (sd_setLc 1 rfl S.nd rfl rfl (sw_true rfl rfl rfl rfl) (id_seq (ed_var 1 (pv 1))) (own := [("head", 8)]) (blk_ok (by rfl)) (fun _ _ _ _ _ => (gd_name (pg_name (i := 8) S.nd rfl (by first | exact .inl rfl | exact .inr rfl)))) (fun _ _ _ _ _ => tsd_nil) (fun _ _ _ _ _ => (ed_if (td_eq (hu64 hr) (ed_var 8 (pv 8)) (ed_var 7 (pv 7))) (ed_var 6 (pv 6)) (ed_var 8 (pv 8))))))) bd_nil))))
    (bd_one (sd_ret (ed_tuple (by rfl) B.tuple_ (ed_var 2 (pv 2)))))))
theorem S_heights_along : FnScope ["frame", "tree", "row", "found", "left", "one", "road", "a", "b", "crossing"] ["frame", "tree", "row"] (defScope (topS 17)) := ⟨rfl, rfl, rfl, by decide +kernel, rfl, by decide +kernel, by decide +kernel⟩
theorem b_heights_along {k : Nat} (B : Bl mg) : ∀ X : Cx, (∃ (f : Addr) (cdv : Value) (A : Around) (around : List Env) (sh : Shared) (H : Hp) (E : XK), X = (cxOf CX0 P w K mg base ["frame", "tree", "row", "found", "left", "one", "road", "a", "b", "crossing"] "heights_along" (defScope (topS 17)) f cdv A around sh H E).nox) → X.A.guards = some [] → Room k X.A → BD X (defBody (topS 17)) (w_heights_along) := by
  rintro X ⟨f, cdv, A, around, sh, H, E, rfl⟩ hg hr
  have S := S_heights_along
  exact (bd_cons (sd_parC 3 4 rfl (od_dict1 ed_int ed_int).x (od_list (by rfl) B.list_ (ed_var 1 (pv 1))).x (pg_name (i := 3) S.nd rfl (by first | exact .inl rfl | exact .inr rfl)) (pg_name (i := 4) S.nd rfl (by first | exact .inl rfl | exact .inr rfl)))
    (bd_cons (sd_while PassesOwn.never (td_neN 4 (hu64 hr) (pv 4)) (bd_cons (sd_set 6 S.nd rfl (by first | exact .inl rfl | exact .inr rfl) (ed_ix (ed_compN 4 rfl S.nd (pv 4) (own := [("one", 5)]) (blk_ok (by rfl)) (fun _ _ _ _ _ => (gd_name (pg_name (i := 5) S.nd rfl (by first | exact .inl rfl | exact .inr rfl)))) (fun _ _ _ _ _ => (tsd_one (td_ne (hu64 hr) (ed_dinN 3 (hu1 hr) (pv 3) (ed_ix (ed_ix (ed_ix (ed_var 0 (pv 0)) ed_int) (ed_var 5 (pv 5))) ed_int)) (ed_dinN 3 (hu1 hr) (pv 3) (ed_ix (ed_ix (ed_ix (ed_var 0 (pv 0)) ed_int) (ed_var 5 (pv 5))) ed_int))))) (fun _ _ _ _ _ => (ed_var 5 (pv 5)))) ed_int))
    (bd_cons (sd_asg (ed_ix (ed_ix (ed_var 0 (pv 0)) ed_int) (ed_var 6 (pv 6))) (gd_tupK (K := K) rfl rfl (gsd_cons (gd_name (pg_name (i := 7) S.nd rfl (by first | exact .inl rfl | exact .inr rfl))) (gsd_cons (gd_name (pg_name (i := 8) S.nd rfl (by first | exact .inl rfl | exact .inr rfl))) gsd_nil))))
    (bd_cons (sd_if (td_dinN 3 (hu1 hr) (pv 3) (ed_var 7 (pv 7))) (bd_one (sd_setDk 3 (hu1 hr) (pv 3) (ed_add (ed_dgN 3 (hu1 hr) (pv 3) (ed_var 7 (pv 7))) (ed_ix (ed_var 2 (pv 2)) (ed_var 6 (pv 6)))) (ed_var 8 (pv 8)))) (bd_one (sd_setDk 3 (hu1 hr) (pv 3) (ed_sub (ed_dgN 3 (hu1 hr) (pv 3) (ed_var 8 (pv 8))) (ed_ix (ed_var 2 (pv 2)) (ed_var 6 (pv 6)))) (ed_var 7 (pv 7)))))
    (bd_one (sd_expr (ed_remove 4 (pv 4) (ed_var 6 (pv 6)))))))))
    (bd_one (sd_ret (ed_tuple (by rfl) B.tuple_ (ed_comp rfl S.nd (id_rg1 (by rfl) B.range_ (ed_ix (ed_var 0 (pv 0)) ed_int)) (own := [("crossing", 9)]) (blk_ok (by rfl)) (fun _ _ _ _ _ => (gd_name (pg_name (i := 9) S.nd rfl (by first | exact .inl rfl | exact .inr rfl)))) (fun _ _ _ _ _ => tsd_nil) (fun _ _ _ _ _ => (ed_dgN 3 (hu1 hr) (pv 3) (ed_var 9 (pv 9))))))))))
theorem S_heights_of_cut : FnScope ["frame", "row", "heights"] ["frame", "row"] (defScope (topS 18)) := ⟨rfl, rfl, rfl, by decide +kernel, rfl, by decide +kernel, by decide +kernel⟩
theorem b_heights_of_cut {k : Nat} (B : Bl mg) {s_heights_along : DSp} (C_heights_along : Cal P w K mg base "heights_along" ["frame", "tree", "row"] k s_heights_along) {s_told_tree : DSp} (C_told_tree : Cal P w K mg base "told_tree" ["frame"] k s_told_tree) {s_cut_row : DSp} (C_cut_row : Cal P w K mg base "cut_row" ["frame", "heights"] k s_cut_row) : ∀ X : Cx, (∃ (f : Addr) (cdv : Value) (A : Around) (around : List Env) (sh : Shared) (H : Hp) (E : XK), X = (cxOf CX0 P w K mg base ["frame", "row", "heights"] "heights_of_cut" (defScope (topS 18)) f cdv A around sh H E).nox) → X.A.guards = some [] → Room k X.A → BD X (defBody (topS 18)) (w_heights_of_cut s_heights_along s_told_tree s_cut_row) := by
  rintro X ⟨f, cdv, A, around, sh, H, E, rfl⟩ hg hr
  have S := S_heights_of_cut
  exact (bd_cons (sd_set 2 S.nd rfl (by first | exact .inl rfl | exact .inr rfl) (ed_callN C_heights_along hg hr (cn_cons (ed_var 0 (pv 0)) (cn_cons (ed_callN C_told_tree hg hr (cn_cons (ed_var 0 (pv 0)) cn_nil)) (cn_cons (ed_var 1 (pv 1)) cn_nil)))))
    (bd_one (sd_ret (ed_if (td_eq (hu64 hr) (ed_callN C_cut_row hg hr (cn_cons (ed_var 0 (pv 0)) (cn_cons (ed_var 2 (pv 2)) cn_nil))) (ed_tuple (by rfl) B.tuple_ (ed_var 1 (pv 1)))) (ed_var 2 (pv 2)) ed_non))))
theorem S_is_cut_row : FnScope ["frame", "row"] ["frame", "row"] (defScope (topS 19)) := ⟨rfl, rfl, rfl, by decide +kernel, rfl, by decide +kernel, by decide +kernel⟩
theorem b_is_cut_row {k : Nat} (B : Bl mg) {s_heights_of_cut : DSp} (C_heights_of_cut : Cal P w K mg base "heights_of_cut" ["frame", "row"] k s_heights_of_cut) : ∀ X : Cx, (∃ (f : Addr) (cdv : Value) (A : Around) (around : List Env) (sh : Shared) (H : Hp) (E : XK), X = (cxOf CX0 P w K mg base ["frame", "row"] "is_cut_row" (defScope (topS 19)) f cdv A around sh H E).nox) → X.A.guards = some [] → Room k X.A → BD X (defBody (topS 19)) (w_is_cut_row s_heights_of_cut) := by
  rintro X ⟨f, cdv, A, around, sh, H, E, rfl⟩ hg hr
  have S := S_is_cut_row
  exact (bd_one (sd_ret (ed_notN (ed_callN C_heights_of_cut hg hr (cn_cons (ed_var 0 (pv 0)) (cn_cons (ed_var 1 (pv 1)) cn_nil))) ed_non)))
theorem S__law_of : FnScope ["source", "some"] ["source", "some"] (defScope (topS 23)) := ⟨rfl, rfl, rfl, by decide +kernel, rfl, by decide +kernel, by decide +kernel⟩
theorem b__law_of {k : Nat} (B : Bl mg) {s__law_pick : DSp} (C__law_pick : Cal P w K mg base "_law_pick" ["source", "many"] k s__law_pick) : ∀ X : Cx, (∃ (f : Addr) (cdv : Value) (A : Around) (around : List Env) (sh : Shared) (H : Hp) (E : XK), X = (cxOf CX0 P w K mg base ["source", "some"] "_law_of" (defScope (topS 23)) f cdv A around sh H E).nox) → X.A.guards = some [] → Room k X.A → BD X (defBody (topS 23)) (w__law_of s__law_pick) := by
  rintro X ⟨f, cdv, A, around, sh, H, E, rfl⟩ hg hr
  have S := S__law_of
  exact (bd_one (sd_ret (ed_ix (ed_var 1 (pv 1)) (ed_callN C__law_pick hg hr (cn_src 0 (pv 0) (cn_cons (ed_len (by rfl) B.len_ (ed_var 1 (pv 1))) cn_nil))))))
theorem S__law_mixed : FnScope ["source", "things", "rest", "lap"] ["source", "things"] (defScope (topS 24)) := ⟨rfl, rfl, rfl, by decide +kernel, rfl, by decide +kernel, by decide +kernel⟩
theorem b__law_mixed {k : Nat} (B : Bl mg) {s__law_pick : DSp} (C__law_pick : Cal P w K mg base "_law_pick" ["source", "many"] k s__law_pick) : ∀ X : Cx, (∃ (f : Addr) (cdv : Value) (A : Around) (around : List Env) (sh : Shared) (H : Hp) (E : XK), X = (cxOf CX0 P w K mg base ["source", "things", "rest", "lap"] "_law_mixed" (defScope (topS 24)) f cdv A around sh H E).nox) → X.A.guards = some [] → Room k X.A → BD X (defBody (topS 24)) (w__law_mixed s__law_pick) := by
  rintro X ⟨f, cdv, A, around, sh, H, E, rfl⟩ hg hr
  have S := S__law_mixed
  exact (bd_cons (sd_setO 2 S.nd rfl (by first | exact .inl rfl | exact .inr rfl) (od_list (by rfl) B.list_ (ed_var 1 (pv 1))))
    (bd_one (sd_ret (ed_comp rfl S.nd (id_rg1 (by rfl) B.range_ (ed_lenN 2 (by rfl) B.len_ (pv 2))) (own := [("lap", 3)]) (blk_ok (by rfl)) (fun _ _ _ _ _ => (gd_name (pg_name (i := 3) S.nd rfl (by first | exact .inl rfl | exact .inr rfl)))) (fun _ _ _ _ _ => tsd_nil) (fun _ _ _ _ _ => (ed_popAt 2 (pv 2) (ed_callN C__law_pick hg hr (cn_src 0 (pv 0) (cn_cons (ed_lenN 2 (by rfl) B.len_ (pv 2)) cn_nil)))))))))
theorem S__law_number : FnScope ["value"] ["value"] (defScope (topS 25)) := ⟨rfl, rfl, rfl, by decide +kernel, rfl, by decide +kernel, by decide +kernel⟩
theorem b__law_number {k : Nat} (B : Bl mg) : ∀ X : Cx, (∃ (f : Addr) (cdv : Value) (A : Around) (around : List Env) (sh : Shared) (H : Hp) (E : XK), X = (cxOf CX0 P w K mg base ["value"] "_law_number" (defScope (topS 25)) f cdv A around sh H E).nox) → X.A.guards = some [] → Room k X.A → BD X (defBody (topS 25)) (w__law_number) := by
  rintro X ⟨f, cdv, A, around, sh, H, E, rfl⟩ hg hr
  have S := S__law_number
  exact (bd_one (sd_ret (ed_and (ed_isi kit_int (by rfl) B.isinstance_ (by rfl) B.int_ (by decide +kernel) (ed_var 0 (pv 0))) (ed_one (ed_not (ed_isi kit_bool (by rfl) B.isinstance_ (by rfl) B.bool_ (by decide +kernel) (ed_var 0 (pv 0))))))))
theorem S__law_bent : FnScope ["source", "value", "odd", "some", "k", "way"] ["source", "value"] (defScope (topS 26)) := ⟨rfl, rfl, rfl, by decide +kernel, rfl, by decide +kernel, by decide +kernel⟩
theorem b__law_bent {k : Nat} (B : Bl mg) {s__law_pick : DSp} (C__law_pick : Cal P w K mg base "_law_pick" ["source", "many"] k s__law_pick) {s__law_of : DSp} (C__law_of : Cal P w K mg base "_law_of" ["source", "some"] k s__law_of) {s__law_number : DSp} (C__law_number : Cal P w K mg base "_law_number" ["value"] k s__law_number) {s__law_bent : DSp} (C__law_bent : Cal P w K mg base "_law_bent" ["source", "value"] k s__law_bent) : ∀ X : Cx, (∃ (f : Addr) (cdv : Value) (A : Around) (around : List Env) (sh : Shared) (H : Hp) (E : XK), X = (cxOf CX0 P w K mg base ["source", "value", "odd", "some", "k", "way"] "_law_bent" (defScope (topS 26)) f cdv A around sh H E).nox) → X.A.guards = some [] → Room k X.A → BD X (defBody (topS 26)) (w__law_bent s__law_pick s__law_of s__law_number s__law_bent) := by
  rintro X ⟨f, cdv, A, around, sh, H, E, rfl⟩ hg hr
  have S := S__law_bent
  exact (bd_cons (sd_set 2 S.nd rfl (by first | exact .inl rfl | exact .inr rfl) (ed_lst (ad_cons ed_non (ad_cons ed_int (ad_cons ed_int (ad_cons ed_int (ad_cons ed_bl (ad_cons (ed_neg ed_int) (ad_cons ed_str (ad_cons ed_str (ad_cons ed_str (ad_cons ed_str (ad_cons ed_str (ad_cons (ed_tup ad_nil) (ad_cons (ed_tup (ad_cons ed_int ad_nil)) (ad_cons (ed_tup (ad_cons ed_int (ad_cons ed_int ad_nil))) (ad_cons (ed_lst ad_nil) (ad_cons od_dict0.ed (ad_cons (ed_pow ed_int ed_int) ad_nil)))))))))))))))))))
    (bd_cons (sd_if (wd_or (td_not (td_val (ed_isi kit_tuple (by rfl) B.isinstance_ (by rfl) B.tuple_ (by decide +kernel) (ed_var 1 (pv 1))))) (wd_or (td_eq (hu64 hr) (ed_var 1 (pv 1)) (ed_tup ad_nil)) (wd_or1 (td_eq (hu64 hr) (ed_callN C__law_pick hg hr (cn_src 0 (pv 0) (cn_cons ed_int cn_nil))) ed_int)))).td (bd_cons (sd_set 3 S.nd rfl (by first | exact .inl rfl | exact .inr rfl) (ed_lst (ad_cons (ed_callN C__law_of hg hr (cn_src 0 (pv 0) (cn_cons (ed_var 2 (pv 2)) cn_nil))) ad_nil)))
    (bd_cons (sd_if (td_val (ed_isi kit_tuple (by rfl) B.isinstance_ (by rfl) B.tuple_ (by decide +kernel) (ed_var 1 (pv 1)))) (bd_one (sd_set 3 S.nd rfl (by first | exact .inl rfl | exact .inr rfl) (ed_add (ed_var 3 (pv 3)) (ed_lst (ad_cons (ed_sl (ed_var 1 (pv 1)) (sd_some ed_int) sd_none) (ad_cons (ed_sl (ed_var 1 (pv 1)) sd_none (sd_some (ed_neg ed_int))) (ad_cons (ed_add (ed_var 1 (pv 1)) (ed_sl (ed_var 1 (pv 1)) sd_none (sd_some ed_int))) (ad_cons (od_list (by rfl) B.list_ (ed_var 1 (pv 1))).ed (ad_cons (ed_rev (ed_var 1 (pv 1))) (ad_cons (ed_add (ed_var 1 (pv 1)) (ed_tup (ad_cons ed_int ad_nil))) ad_nil)))))))))) bd_nil)
    (bd_one (sd_ret (ed_callN C__law_of hg hr (cn_src 0 (pv 0) (cn_cons (ed_var 3 (pv 3)) cn_nil))))))) bd_nil)
    (bd_cons (sd_par 4 5 rfl S.nd rfl rfl (by decide) rfl rfl (ed_callN C__law_pick hg hr (cn_src 0 (pv 0) (cn_cons (ed_len (by rfl) B.len_ (ed_var 1 (pv 1))) cn_nil))).x (ed_callN C__law_pick hg hr (cn_src 0 (pv 0) (cn_cons ed_int cn_nil))).x (by rfl))
    (bd_cons (sd_if (wd_and (td_lt (ed_var 5 (pv 5)) ed_int) (wd_and1 (td_val (ed_callN C__law_number hg hr (cn_cons (ed_ix (ed_var 1 (pv 1)) (ed_var 4 (pv 4))) cn_nil))))).td (bd_one (sd_ret (ed_add (ed_add (ed_sl (ed_var 1 (pv 1)) sd_none (sd_some (ed_var 4 (pv 4)))) (ed_tup (ad_cons (ed_callN C__law_of hg hr (cn_src 0 (pv 0) (cn_cons (ed_lst (ad_cons (ed_sub ed_int (ed_ix (ed_var 1 (pv 1)) (ed_var 4 (pv 4)))) (ad_cons (ed_add (ed_ix (ed_var 1 (pv 1)) (ed_var 4 (pv 4))) ed_int) (ad_cons (ed_sub (ed_ix (ed_var 1 (pv 1)) (ed_var 4 (pv 4))) ed_int) (ad_cons (ed_add (ed_ix (ed_var 1 (pv 1)) (ed_var 4 (pv 4))) ed_int) ad_nil))))) cn_nil))) ad_nil))) (ed_sl (ed_var 1 (pv 1)) (sd_some (ed_add (ed_var 4 (pv 4)) ed_int)) sd_none)))) bd_nil)
    (bd_cons (sd_if (td_eq (hu64 hr) (ed_var 5 (pv 5)) ed_int) (bd_one (sd_ret (ed_add (ed_sl (ed_var 1 (pv 1)) sd_none (sd_some (ed_var 4 (pv 4)))) (ed_sl (ed_var 1 (pv 1)) (sd_some (ed_add (ed_var 4 (pv 4)) ed_int)) sd_none)))) bd_nil)
    (bd_one (sd_ret (ed_add (ed_add (ed_sl (ed_var 1 (pv 1)) sd_none (sd_some (ed_var 4 (pv 4)))) (ed_tup (ad_cons (ed_callN C__law_bent hg hr (cn_src 0 (pv 0) (cn_cons (ed_ix (ed_var 1 (pv 1)) (ed_var 4 (pv 4))) cn_nil))) ad_nil))) (ed_sl (ed_var 1 (pv 1)) (sd_some (ed_add (ed_var 4 (pv 4)) ed_int)) sd_none)))))))))
theorem S__law_are_wholes : FnScope ["value", "many", "one"] ["value", "many"] (defScope (topS 27)) := ⟨rfl, rfl, rfl, by decide +kernel, rfl, by decide +kernel, by decide +kernel⟩
theorem b__law_are_wholes {k : Nat} (B : Bl mg) {s__law_number : DSp} (C__law_number : Cal P w K mg base "_law_number" ["value"] k s__law_number) : ∀ X : Cx, (∃ (f : Addr) (cdv : Value) (A : Around) (around : List Env) (sh : Shared) (H : Hp) (E : XK), X = (cxOf CX0 P w K mg base ["value", "many", "one"] "_law_are_wholes" (defScope (topS 27)) f cdv A around sh H E).nox) → X.A.guards = some [] → Room k X.A → BD X (defBody (topS 27)) (w__law_are_wholes s__law_number) := by
  rintro X ⟨f, cdv, A, around, sh, H, E, rfl⟩ hg hr
  have S := S__law_are_wholes
  exact (bd_one (sd_ret (ed_and (ed_isi kit_tuple (by rfl) B.isinstance_ (by rfl) B.tuple_ (by decide +kernel) (ed_var 0 (pv 0))) (ed_and (ed_eq (hu64 hr) (ed_len (by rfl) B.len_ (ed_var 0 (pv 0))) (ed_var 1 (pv 1))) (ed_one (ed_eq (hu64 hr) (ed_comp rfl S.nd (id_seq (ed_var 0 (pv 0))) (own := [("one", 2)]) (blk_ok (by rfl)) (fun _ _ _ _ _ => (gd_name (pg_name (i := 2) S.nd rfl (by first | exact .inl rfl | exact .inr rfl)))) (fun _ _ _ _ _ => (tsd_one (td_not (td_val (ed_callN C__law_number hg hr (cn_cons (ed_var 2 (pv 2)) cn_nil)))))) (fun _ _ _ _ _ => ed_int)) (ed_lst ad_nil)))))))
theorem S__law_hung : FnScope ["source", "crossings", "roads", "n", "pairs", "names", "k", "lap", "pair"] ["source", "crossings", "roads"] (defScope (topS 28)) := ⟨rfl, rfl, rfl, by decide +kernel, rfl, by decide +kernel, by decide +kernel⟩
theorem b__law_hung {k : Nat} (B : Bl mg) {s__law_pick : DSp} (C__law_pick : Cal P w K mg base "_law_pick" ["source", "many"] k s__law_pick) {s__law_mixed : DSp} (C__law_mixed : Cal P w K mg base "_law_mixed" ["source", "things"] k s__law_mixed) : ∀ X : Cx, (∃ (f : Addr) (cdv : Value) (A : Around) (around : List Env) (sh : Shared) (H : Hp) (E : XK), X = (cxOf CX0 P w K mg base ["source", "crossings", "roads", "n", "pairs", "names", "k", "lap", "pair"] "_law_hung" (defScope (topS 28)) f cdv A around sh H E).nox) → X.A.guards = some [] → Room k X.A → BD X (defBody (topS 28)) (w__law_hung s__law_pick s__law_mixed) := by
  rintro X ⟨f, cdv, A, around, sh, H, E, rfl⟩ hg hr
  have S := S__law_hung
  exact (bd_cons (sd_par 3 4 rfl S.nd rfl rfl (by decide) rfl rfl (ed_add ed_int (ed_callN C__law_pick hg hr (cn_src 0 (pv 0) (cn_cons (ed_var 1 (pv 1)) cn_nil)))).x (od_lst ad_nil).x (by rfl))
    (bd_cons (sd_set 5 S.nd rfl (by first | exact .inl rfl | exact .inr rfl) (ed_callN C__law_mixed hg hr (cn_src 0 (pv 0) (cn_cons (od_lrg1 rfl (by rfl) B.list_ (by rfl) B.range_ (ed_var 3 (pv 3))).ed cn_nil))))
    (bd_cons (sd_for PassesOwn.never rfl (id_rg2 (by rfl) B.range_ ed_int (ed_var 3 (pv 3))) (gd_name (pg_name (i := 6) S.nd rfl (by first | exact .inl rfl | exact .inr rfl))) (bd_one (sd_expr (ed_append 4 (pv 4) (ed_tup (ad_cons (ed_ix (ed_var 5 (pv 5)) (ed_callN C__law_pick hg hr (cn_src 0 (pv 0) (cn_cons (ed_var 6 (pv 6)) cn_nil)))) (ad_cons (ed_ix (ed_var 5 (pv 5)) (ed_var 6 (pv 6))) ad_nil)))))))
    (bd_cons (sd_for PassesOwn.never rfl (id_rg1 (by rfl) B.range_ (ed_callN C__law_pick hg hr (cn_src 0 (pv 0) (cn_cons (ed_max2 rfl (by rfl) B.max_ ed_int (ed_add (ed_sub (ed_var 2 (pv 2)) (ed_var 3 (pv 3))) ed_int)) cn_nil)))) (gd_name (pg_name (i := 7) S.nd rfl (by first | exact .inl rfl | exact .inr rfl))) (bd_one (sd_expr (ed_append 4 (pv 4) (ed_tup (ad_cons (ed_callN C__law_pick hg hr (cn_src 0 (pv 0) (cn_cons (ed_var 3 (pv 3)) cn_nil))) (ad_cons (ed_callN C__law_pick hg hr (cn_src 0 (pv 0) (cn_cons (ed_var 3 (pv 3)) cn_nil))) ad_nil)))))))
    (bd_cons (sd_setLcO 4 rfl S.nd rfl rfl (sw_true rfl rfl rfl rfl) (id_seq (ed_callN C__law_mixed hg hr (cn_src 0 (pv 0) (cn_cons (ed_var 4 (pv 4)) cn_nil)))) (own := [("pair", 8)]) (blk_ok (by rfl)) (fun _ _ _ _ _ => (gd_name (pg_name (i := 8) S.nd rfl (by first | exact .inl rfl | exact .inr rfl)))) (fun _ _ _ _ _ => tsd_nil) (fun _ _ _ _ _ => (ed_if (td_eq (hu64 hr) (ed_callN C__law_pick hg hr (cn_src 0 (pv 0) (cn_cons ed_int cn_nil))) ed_int) (ed_rev (ed_var 8 (pv 8))) (ed_var 8 (pv 8)))))
    (bd_one (sd_ret (ed_tup (ad_cons (ed_var 3 (pv 3)) (ad_cons (ed_tuple (by rfl) B.tuple_ (ed_var 4 (pv 4))) ad_nil))))))))))
theorem S__law_pieces : FnScope ["frame", "roads", "heads", "r", "c", "one", "other", "head"] ["frame", "roads"] (defScope (topS 29)) := ⟨rfl, rfl, rfl, by decide +kernel, rfl, by decide +kernel, by decide +kernel⟩
theorem b__law_pieces {k : Nat} (B : Bl mg) : ∀ X : Cx, (∃ (f : Addr) (cdv : Value) (A : Around) (around : List Env) (sh : Shared) (H : Hp) (E : XK), X = (cxOf CX0 P w K mg base ["frame", "roads", "heads", "r", "c", "one", "other", "head"] "_law_pieces" (defScope (topS 29)) f cdv A around sh H E).nox) → X.A.guards = some [] → Room k X.A → BD X (defBody (topS 29)) (w__law_pieces) := by
  rintro X ⟨f, cdv, A, around, sh, H, E, rfl⟩ hg hr
  have S := S__law_pieces
  exact (bd_cons (sd_set 2 S.nd rfl (by first | exact .inl rfl | exact .inr rfl) (od_lrg1 rfl (by rfl) B.list_ (by rfl) B.range_ (ed_ix (ed_var 0 (pv 0)) ed_int)).ed)
    (bd_cons (sd_for PassesOwn.never rfl (id_seq (ed_var 1 (pv 1))) (gd_name (pg_name (i := 3) S.nd rfl (by first | exact .inl rfl | exact .inr rfl))) (bd_cons (sd_asg (ed_comp rfl S.nd (id_seq (ed_ix (ed_ix (ed_var 0 (pv 0)) ed_int) (ed_var 3 (pv 3)))) (own := [("c", 4)]) (blk_ok (by rfl)) (fun _ _ _ _ _ => (gd_name (pg_name (i := 4) S.nd rfl (by first | exact .inl rfl | exact .inr rfl)))) (fun _ _ _ _ _ => tsd_nil) (fun _ _ _ _ _ => (ed_ix (ed_var 2 (pv 2)) (ed_var 4 (pv 4))))) (gd_unlK (K := K) rfl rfl (gsd_cons (gd_name (pg_name (i := 5) S.nd rfl (by first | exact .inl rfl | exact .inr rfl))) (gsd_cons (gd_name (pg_name (i := 6) S.nd rfl (by first | exact .inl rfl | exact .inr rfl))) gsd_nil))))
    (bd_one (sd_set 2 S.nd rfl (by first | exact .inl rfl | exact .inr rfl) (ed_comp rfl S.nd (id_seq (ed_var 2 (pv 2))) (own := [("head", 7)]) (blk_ok (by rfl)) (fun _ _ _ _ _ => (gd_name (pg_name (i := 7) S.nd rfl (by first | exact .inl rfl | exact .inr rfl)))) (fun _ _ _ _ _ => tsd_nil) (fun _ _ _ _ _ => (ed_if (td_in (hu65 hr) (ed_var 7 (pv 7)) (ed_tup (ad_cons (ed_var 5 (pv 5)) (ad_cons (ed_var 6 (pv 6)) ad_nil)))) (ed_min2 rfl (by rfl) B.min_ (ed_var 5 (pv 5)) (ed_var 6 (pv 6))) (ed_var 7 (pv 7)))))))))
    (bd_one (sd_ret (ed_var 2 (pv 2))))))
theorem S__law_drawn_tree : FnScope ["source", "frame", "found", "r", "a", "b", "heads"] ["source", "frame"] (defScope (topS 30)) := ⟨rfl, rfl, rfl, by decide +kernel, rfl, by decide +kernel, by decide +kernel⟩
theorem b__law_drawn_tree {k : Nat} (B : Bl mg) {s__law_mixed : DSp} (C__law_mixed : Cal P w K mg base "_law_mixed" ["source", "things"] k s__law_mixed) {s__law_pieces : DSp} (C__law_pieces : Cal P w K mg base "_law_pieces" ["frame", "roads"] k s__law_pieces) : ∀ X : Cx, (∃ (f : Addr) (cdv : Value) (A : Around) (around : List Env) (sh : Shared) (H : Hp) (E : XK), X = (cxOf CX0 P w K mg base ["source", "frame", "found", "r", "a", "b", "heads"] "_law_drawn_tree" (defScope (topS 30)) f cdv A around sh H E).nox) → X.A.guards = some [] → Room k X.A → BD X (defBody (topS 30)) (w__law_drawn_tree s__law_mixed s__law_pieces) := by
  rintro X ⟨f, cdv, A, around, sh, H, E, rfl⟩ hg hr
  have S := S__law_drawn_tree
  exact (bd_cons (sd_set 2 S.nd rfl (by first | exact .inl rfl | exact .inr rfl) (ed_lst ad_nil))
    (bd_cons (sd_for PassesOwn.never rfl (id_seq (ed_callN C__law_mixed hg hr (cn_src 0 (pv 0) (cn_cons (od_lrg1 rfl (by rfl) B.list_ (by rfl) B.range_ (ed_len (by rfl) B.len_ (ed_ix (ed_var 1 (pv 1)) ed_int))).ed cn_nil)))) (gd_name (pg_name (i := 3) S.nd rfl (by first | exact .inl rfl | exact .inr rfl))) (bd_cons (sd_asg (ed_ix (ed_ix (ed_var 1 (pv 1)) ed_int) (ed_var 3 (pv 3))) (gd_tupK (K := K) rfl rfl (gsd_cons (gd_name (pg_name (i := 4) S.nd rfl (by first | exact .inl rfl | exact .inr rfl))) (gsd_cons (gd_name (pg_name (i := 5) S.nd rfl (by first | exact .inl rfl | exact .inr rfl))) gsd_nil))))
    (bd_cons (sd_set 6 S.nd rfl (by first | exact .inl rfl | exact .inr rfl) (ed_callN C__law_pieces hg hr (cn_cons (ed_var 1 (pv 1)) (cn_cons (ed_var 2 (pv 2)) cn_nil))))
    (bd_one (sd_set 2 S.nd rfl (by first | exact .inl rfl | exact .inr rfl) (ed_add (ed_var 2 (pv 2)) (ed_mul (ed_lst (ad_cons (ed_var 3 (pv 3)) ad_nil)) (ed_int' (by rfl) B.int_ (ed_ne (hu64 hr) (ed_ix (ed_var 6 (pv 6)) (ed_var 4 (pv 4))) (ed_ix (ed_var 6 (pv 6)) (ed_var 5 (pv 5))))))))))))
    (bd_one (sd_ret (ed_tuple (by rfl) B.tuple_ (od_sorted (by rfl) B.sorted_ (ed_var 2 (pv 2))).ed)))))
theorem S__law_product : FnScope ["one", "other", "a", "b"] ["one", "other"] (defScope (topS 31)) := ⟨rfl, rfl, rfl, by decide +kernel, rfl, by decide +kernel, by decide +kernel⟩
theorem b__law_product {k : Nat} (B : Bl mg) : ∀ X : Cx, (∃ (f : Addr) (cdv : Value) (A : Around) (around : List Env) (sh : Shared) (H : Hp) (E : XK), X = (cxOf CX0 P w K mg base ["one", "other", "a", "b"] "_law_product" (defScope (topS 31)) f cdv A around sh H E).nox) → X.A.guards = some [] → Room k X.A → BD X (defBody (topS 31)) (w__law_product) := by
  rintro X ⟨f, cdv, A, around, sh, H, E, rfl⟩ hg hr
  have S := S__law_product
  exact (bd_one (sd_ret (ed_sum rfl (by rfl) B.sum_ (ed_comp rfl S.nd (id_zip (by rfl) B.zip_ (ed_var 0 (pv 0)) (ed_var 1 (pv 1))) (own := [("a", 2), ("b", 3)]) (blk_ok (by rfl)) (fun _ _ _ _ _ => (gd_tupK (K := K) rfl rfl (gsd_cons (gd_name (pg_name (i := 2) S.nd rfl (by first | exact .inl rfl | exact .inr rfl))) (gsd_cons (gd_name (pg_name (i := 3) S.nd rfl (by first | exact .inl rfl | exact .inr rfl))) gsd_nil)))) (fun _ _ _ _ _ => tsd_nil) (fun _ _ _ _ _ => (ed_mul (ed_var 2 (pv 2)) (ed_var 3 (pv 3))))))))
theorem S__law_rising : FnScope ["frame", "heights", "a", "b"] ["frame", "heights"] (defScope (topS 32)) := ⟨rfl, rfl, rfl, by decide +kernel, rfl, by decide +kernel, by decide +kernel⟩
theorem b__law_rising {k : Nat} (B : Bl mg) : ∀ X : Cx, (∃ (f : Addr) (cdv : Value) (A : Around) (around : List Env) (sh : Shared) (H : Hp) (E : XK), X = (cxOf CX0 P w K mg base ["frame", "heights", "a", "b"] "_law_rising" (defScope (topS 32)) f cdv A around sh H E).nox) → X.A.guards = some [] → Room k X.A → BD X (defBody (topS 32)) (w__law_rising) := by
  rintro X ⟨f, cdv, A, around, sh, H, E, rfl⟩ hg hr
  have S := S__law_rising
  exact (bd_one (sd_ret (ed_tuple (by rfl) B.tuple_ (ed_comp rfl S.nd (id_seq (ed_ix (ed_var 0 (pv 0)) ed_int)) (own := [("a", 2), ("b", 3)]) (blk_ok (by rfl)) (fun _ _ _ _ _ => (gd_tupK (K := K) rfl rfl (gsd_cons (gd_name (pg_name (i := 2) S.nd rfl (by first | exact .inl rfl | exact .inr rfl))) (gsd_cons (gd_name (pg_name (i := 3) S.nd rfl (by first | exact .inl rfl | exact .inr rfl))) gsd_nil)))) (fun _ _ _ _ _ => tsd_nil) (fun _ _ _ _ _ => (ed_sub (ed_ix (ed_var 1 (pv 1)) (ed_var 3 (pv 3))) (ed_ix (ed_var 1 (pv 1)) (ed_var 2 (pv 2)))))))))
theorem S__law_brings : FnScope ["frame", "row", "found", "c", "a", "b", "number", "comes"] ["frame", "row"] (defScope (topS 33)) := ⟨rfl, rfl, rfl, by decide +kernel, rfl, by decide +kernel, by decide +kernel⟩
theorem b__law_brings {k : Nat} (B : Bl mg) : ∀ X : Cx, (∃ (f : Addr) (cdv : Value) (A : Around) (around : List Env) (sh : Shared) (H : Hp) (E : XK), X = (cxOf CX0 P w K mg base ["frame", "row", "found", "c", "a", "b", "number", "comes"] "_law_brings" (defScope (topS 33)) f cdv A around sh H E).nox) → X.A.guards = some [] → Room k X.A → BD X (defBody (topS 33)) (w__law_brings) := by
  rintro X ⟨f, cdv, A, around, sh, H, E, rfl⟩ hg hr
  have S := S__law_brings
  exact (bd_cons (sd_setO 2 S.nd rfl (by first | exact .inl rfl | exact .inr rfl) (od_lst ad_nil))
    (bd_cons (sd_for PassesOwn.never rfl (id_rg1 (by rfl) B.range_ (ed_ix (ed_var 0 (pv 0)) ed_int)) (gd_name (pg_name (i := 3) S.nd rfl (by first | exact .inl rfl | exact .inr rfl))) (bd_cons (sd_set 7 S.nd rfl (by first | exact .inl rfl | exact .inr rfl) (ed_sum rfl (by rfl) B.sum_ (ed_comp rfl S.nd (id_zip (by rfl) B.zip_ (ed_ix (ed_var 0 (pv 0)) ed_int) (ed_var 1 (pv 1))) (own := [("a", 4), ("b", 5), ("number", 6)]) (blk_ok (by rfl)) (fun _ _ _ _ _ => (gd_tupK (K := K) rfl rfl (gsd_cons (gd_tupK (K := K) rfl rfl (gsd_cons (gd_name (pg_name (i := 4) S.nd rfl (by first | exact .inl rfl | exact .inr rfl))) (gsd_cons (gd_name (pg_name (i := 5) S.nd rfl (by first | exact .inl rfl | exact .inr rfl))) gsd_nil))) (gsd_cons (gd_name (pg_name (i := 6) S.nd rfl (by first | exact .inl rfl | exact .inr rfl))) gsd_nil)))) (fun _ _ _ _ _ => (tsd_one (td_eq (hu64 hr) (ed_var 5 (pv 5)) (ed_var 3 (pv 3))))) (fun _ _ _ _ _ => (ed_var 6 (pv 6))))))
    (bd_one (sd_expr (ed_append 2 (pv 2) (ed_sub (ed_var 7 (pv 7)) (ed_sum rfl (by rfl) B.sum_ (ed_comp rfl S.nd (id_zip (by rfl) B.zip_ (ed_ix (ed_var 0 (pv 0)) ed_int) (ed_var 1 (pv 1))) (own := [("a", 4), ("b", 5), ("number", 6)]) (blk_ok (by rfl)) (fun _ _ _ _ _ => (gd_tupK (K := K) rfl rfl (gsd_cons (gd_tupK (K := K) rfl rfl (gsd_cons (gd_name (pg_name (i := 4) S.nd rfl (by first | exact .inl rfl | exact .inr rfl))) (gsd_cons (gd_name (pg_name (i := 5) S.nd rfl (by first | exact .inl rfl | exact .inr rfl))) gsd_nil))) (gsd_cons (gd_name (pg_name (i := 6) S.nd rfl (by first | exact .inl rfl | exact .inr rfl))) gsd_nil)))) (fun _ _ _ _ _ => (tsd_one (td_eq (hu64 hr) (ed_var 4 (pv 4)) (ed_var 3 (pv 3))))) (fun _ _ _ _ _ => (ed_var 6 (pv 6)))))))))))
    (bd_one (sd_ret (ed_tuple (by rfl) B.tuple_ (ed_var 2 (pv 2)))))))
theorem S__law_own_ring : FnScope ["frame", "tree", "road", "a", "b", "ways", "line", "here", "r", "sign", "one", "other", "steps"] ["frame", "tree", "road"] (defScope (topS 34)) := ⟨rfl, rfl, rfl, by decide +kernel, rfl, by decide +kernel, by decide +kernel⟩
theorem b__law_own_ring {k : Nat} (B : Bl mg) : ∀ X : Cx, (∃ (f : Addr) (cdv : Value) (A : Around) (around : List Env) (sh : Shared) (H : Hp) (E : XK), X = (cxOf CX0 P w K mg base ["frame", "tree", "road", "a", "b", "ways", "line", "here", "r", "sign", "one", "other", "steps"] "_law_own_ring" (defScope (topS 34)) f cdv A around sh H E).nox) → X.A.guards = some [] → Room k X.A → BD X (defBody (topS 34)) (w__law_own_ring) := by
  rintro X ⟨f, cdv, A, around, sh, H, E, rfl⟩ hg hr
  have S := S__law_own_ring
  exact (bd_cons (sd_asg (ed_ix (ed_ix (ed_var 0 (pv 0)) ed_int) (ed_var 2 (pv 2))) (gd_tupK (K := K) rfl rfl (gsd_cons (gd_name (pg_name (i := 3) S.nd rfl (by first | exact .inl rfl | exact .inr rfl))) (gsd_cons (gd_name (pg_name (i := 4) S.nd rfl (by first | exact .inl rfl | exact .inr rfl))) gsd_nil))))
    (bd_cons (sd_par 5 6 rfl S.nd rfl rfl (by decide) rfl rfl (od_dict1 (ed_var 4 (pv 4)) (ed_tup ad_nil)).x (od_lst (ad_cons (ed_var 4 (pv 4)) ad_nil)).x (by rfl))
    (bd_cons (sd_while PassesOwn.never (td_neN 6 (hu64 hr) (pv 6)) (bd_cons (sd_set 7 S.nd rfl (by first | exact .inl rfl | exact .inr rfl) (ed_pop 6 (pv 6)))
    (bd_one (sd_for PassesOwn.never rfl (id_seq (ed_var 1 (pv 1))) (gd_name (pg_name (i := 8) S.nd rfl (by first | exact .inl rfl | exact .inr rfl))) (bd_one (sd_for PassesOwn.never rfl (id_seq (ed_tup (ad_cons (ed_tup (ad_cons ed_int (ad_cons (ed_ix (ed_ix (ed_var 0 (pv 0)) ed_int) (ed_var 8 (pv 8))) ad_nil))) (ad_cons (ed_tup (ad_cons (ed_neg ed_int) (ad_cons (ed_rev (ed_ix (ed_ix (ed_var 0 (pv 0)) ed_int) (ed_var 8 (pv 8)))) ad_nil))) ad_nil)))) (gd_tupK (K := K) rfl rfl (gsd_cons (gd_name (pg_name (i := 9) S.nd rfl (by first | exact .inl rfl | exact .inr rfl))) (gsd_cons (gd_tupK (K := K) rfl rfl (gsd_cons (gd_name (pg_name (i := 10) S.nd rfl (by first | exact .inl rfl | exact .inr rfl))) (gsd_cons (gd_name (pg_name (i := 11) S.nd rfl (by first | exact .inl rfl | exact .inr rfl))) gsd_nil))) gsd_nil))) (bd_one (sd_if (wd_and (td_eq (hu64 hr) (ed_var 10 (pv 10)) (ed_var 7 (pv 7))) (wd_and1 (td_dnotinN 5 (hu1 hr) (pv 5) (ed_var 11 (pv 11))))).td (bd_cons (sd_setDk 5 (hu1 hr) (pv 5) (ed_add (ed_dgN 5 (hu1 hr) (pv 5) (ed_var 7 (pv 7))) (ed_tup (ad_cons (ed_tup (ad_cons (ed_var 8 (pv 8)) (ad_cons (ed_var 9 (pv 9)) ad_nil))) ad_nil))) (ed_var 11 (pv 11)))
    (bd_one (sd_expr (ed_append 6 (pv 6) (ed_var 11 (pv 11)))))) bd_nil))))))))
    (bd_cons (sd_set 12 S.nd rfl (by first | exact .inl rfl | exact .inr rfl) (od_dict rfl (by rfl) B.dict_ (ed_add (od_list (by rfl) B.list_ (ed_dgN 5 (hu1 hr) (pv 5) (ed_var 3 (pv 3)))).ed (ed_lst (ad_cons (ed_tup (ad_cons (ed_var 2 (pv 2)) (ad_cons ed_int ad_nil))) ad_nil)))).ed)
    (bd_one (sd_ret (ed_tuple (by rfl) B.tuple_ (ed_comp rfl S.nd (id_rg1 (by rfl) B.range_ (ed_len (by rfl) B.len_ (ed_ix (ed_var 0 (pv 0)) ed_int))) (own := [("r", 8)]) (blk_ok (by rfl)) (fun _ _ _ _ _ => (gd_name (pg_name (i := 8) S.nd rfl (by first | exact .inl rfl | exact .inr rfl)))) (fun _ _ _ _ _ => tsd_nil) (fun _ _ _ _ _ => (ed_getN 12 (hu1 hr) (pv 12) (ed_var 8 (pv 8)) ed_int))))))))))
theorem S__law_outside : FnScope ["frame", "tree", "r"] ["frame", "tree"] (defScope (topS 35)) := ⟨rfl, rfl, rfl, by decide +kernel, rfl, by decide +kernel, by decide +kernel⟩
theorem b__law_outside {k : Nat} (B : Bl mg) : ∀ X : Cx, (∃ (f : Addr) (cdv : Value) (A : Around) (around : List Env) (sh : Shared) (H : Hp) (E : XK), X = (cxOf CX0 P w K mg base ["frame", "tree", "r"] "_law_outside" (defScope (topS 35)) f cdv A around sh H E).nox) → X.A.guards = some [] → Room k X.A → BD X (defBody (topS 35)) (w__law_outside) := by
  rintro X ⟨f, cdv, A, around, sh, H, E, rfl⟩ hg hr
  have S := S__law_outside
  exact (bd_one (sd_ret (ed_tuple (by rfl) B.tuple_ (ed_comp rfl S.nd (id_rg1 (by rfl) B.range_ (ed_len (by rfl) B.len_ (ed_ix (ed_var 0 (pv 0)) ed_int))) (own := [("r", 2)]) (blk_ok (by rfl)) (fun _ _ _ _ _ => (gd_name (pg_name (i := 2) S.nd rfl (by first | exact .inl rfl | exact .inr rfl)))) (fun _ _ _ _ _ => (tsd_one (td_notIn (hu65 hr) (ed_var 2 (pv 2)) (ed_var 1 (pv 1))))) (fun _ _ _ _ _ => (ed_var 2 (pv 2)))))))
theorem S__law_added : FnScope ["many", "pairs", "found", "times", "row", "a", "b"] ["many", "pairs"] (defScope (topS 36)) := ⟨rfl, rfl, rfl, by decide +kernel, rfl, by decide +kernel, by decide +kernel⟩
theorem b__law_added {k : Nat} (B : Bl mg) : ∀ X : Cx, (∃ (f : Addr) (cdv : Value) (A : Around) (around : List Env) (sh : Shared) (H : Hp) (E : XK), X = (cxOf CX0 P w K mg base ["many", "pairs", "found", "times", "row", "a", "b"] "_law_added" (defScope (topS 36)) f cdv A around sh H E).nox) → X.A.guards = some [] → Room k X.A → BD X (defBody (topS 36)) (w__law_added) := by
  rintro X ⟨f, cdv, A, around, sh, H, E, rfl⟩ hg hr
  have S := S__law_added
  exact (bd_cons (sd_set 2 S.nd rfl (by first | exact .inl rfl | exact .inr rfl) (ed_mul (ed_lst (ad_cons ed_int ad_nil)) (ed_var 0 (pv 0))))
    (bd_cons (sd_for PassesOwn.never rfl (id_seq (ed_var 1 (pv 1))) (gd_tupK (K := K) rfl rfl (gsd_cons (gd_name (pg_name (i := 3) S.nd rfl (by first | exact .inl rfl | exact .inr rfl))) (gsd_cons (gd_name (pg_name (i := 4) S.nd rfl (by first | exact .inl rfl | exact .inr rfl))) gsd_nil))) (bd_one (sd_setLc 2 rfl S.nd rfl rfl (sw_true rfl rfl rfl rfl) (id_zip (by rfl) B.zip_ (ed_var 2 (pv 2)) (ed_var 4 (pv 4))) (own := [("a", 5), ("b", 6)]) (blk_ok (by rfl)) (fun _ _ _ _ _ => (gd_tupK (K := K) rfl rfl (gsd_cons (gd_name (pg_name (i := 5) S.nd rfl (by first | exact .inl rfl | exact .inr rfl))) (gsd_cons (gd_name (pg_name (i := 6) S.nd rfl (by first | exact .inl rfl | exact .inr rfl))) gsd_nil)))) (fun _ _ _ _ _ => tsd_nil) (fun _ _ _ _ _ => (ed_add (ed_var 5 (pv 5)) (ed_mul (ed_var 3 (pv 3)) (ed_var 6 (pv 6))))))))
    (bd_one (sd_ret (ed_tuple (by rfl) B.tuple_ (ed_var 2 (pv 2)))))))
theorem S__law_drawn_ring_row : FnScope ["source", "frame", "far", "tree", "r", "pairs"] ["source", "frame", "far"] (defScope (topS 37)) := ⟨rfl, rfl, rfl, by decide +kernel, rfl, by decide +kernel, by decide +kernel⟩
theorem b__law_drawn_ring_row {k : Nat} (B : Bl mg) {s__law_drawn_tree : DSp} (C__law_drawn_tree : Cal P w K mg base "_law_drawn_tree" ["source", "frame"] k s__law_drawn_tree) {s__law_outside : DSp} (C__law_outside : Cal P w K mg base "_law_outside" ["frame", "tree"] k s__law_outside) {s__law_pick : DSp} (C__law_pick : Cal P w K mg base "_law_pick" ["source", "many"] k s__law_pick) {s__law_own_ring : DSp} (C__law_own_ring : Cal P w K mg base "_law_own_ring" ["frame", "tree", "road"] k s__law_own_ring) {s__law_added : DSp} (C__law_added : Cal P w K mg base "_law_added" ["many", "pairs"] k s__law_added) : ∀ X : Cx, (∃ (f : Addr) (cdv : Value) (A : Around) (around : List Env) (sh : Shared) (H : Hp) (E : XK), X = (cxOf CX0 P w K mg base ["source", "frame", "far", "tree", "r", "pairs"] "_law_drawn_ring_row" (defScope (topS 37)) f cdv A around sh H E).nox) → X.A.guards = some [] → Room k X.A → BD X (defBody (topS 37)) (w__law_drawn_ring_row s__law_drawn_tree s__law_outside s__law_pick s__law_own_ring s__law_added) := by
  rintro X ⟨f, cdv, A, around, sh, H, E, rfl⟩ hg hr
  have S := S__law_drawn_ring_row
  exact (bd_cons (sd_set 3 S.nd rfl (by first | exact .inl rfl | exact .inr rfl) (ed_callN C__law_drawn_tree hg hr (cn_src 0 (pv 0) (cn_cons (ed_var 1 (pv 1)) cn_nil))))
    (bd_cons (sd_setLc 5 rfl S.nd rfl rfl (sw_true rfl rfl rfl rfl) (id_seq (ed_callN C__law_outside hg hr (cn_cons (ed_var 1 (pv 1)) (cn_cons (ed_var 3 (pv 3)) cn_nil)))) (own := [("r", 4)]) (blk_ok (by rfl)) (fun _ _ _ _ _ => (gd_name (pg_name (i := 4) S.nd rfl (by first | exact .inl rfl | exact .inr rfl)))) (fun _ _ _ _ _ => tsd_nil) (fun _ _ _ _ _ => (ed_tup (ad_cons (ed_sub (ed_callN C__law_pick hg hr (cn_src 0 (pv 0) (cn_cons (ed_add (ed_mul ed_int (ed_var 2 (pv 2))) ed_int) cn_nil))) (ed_var 2 (pv 2))) (ad_cons (ed_callN C__law_own_ring hg hr (cn_cons (ed_var 1 (pv 1)) (cn_cons (ed_var 3 (pv 3)) (cn_cons (ed_var 4 (pv 4)) cn_nil)))) ad_nil)))))
    (bd_one (sd_ret (ed_callN C__law_added hg hr (cn_cons (ed_len (by rfl) B.len_ (ed_ix (ed_var 1 (pv 1)) ed_int)) (cn_cons (ed_var 5 (pv 5)) cn_nil)))))))
theorem S__law_drawn_cut_row : FnScope ["source", "frame", "far", "c"] ["source", "frame", "far"] (defScope (topS 38)) := ⟨rfl, rfl, rfl, by decide +kernel, rfl, by decide +kernel, by decide +kernel⟩
theorem b__law_drawn_cut_row {k : Nat} (B : Bl mg) {s__law_rising : DSp} (C__law_rising : Cal P w K mg base "_law_rising" ["frame", "heights"] k s__law_rising) {s__law_pick : DSp} (C__law_pick : Cal P w K mg base "_law_pick" ["source", "many"] k s__law_pick) : ∀ X : Cx, (∃ (f : Addr) (cdv : Value) (A : Around) (around : List Env) (sh : Shared) (H : Hp) (E : XK), X = (cxOf CX0 P w K mg base ["source", "frame", "far", "c"] "_law_drawn_cut_row" (defScope (topS 38)) f cdv A around sh H E).nox) → X.A.guards = some [] → Room k X.A → BD X (defBody (topS 38)) (w__law_drawn_cut_row s__law_rising s__law_pick) := by
  rintro X ⟨f, cdv, A, around, sh, H, E, rfl⟩ hg hr
  have S := S__law_drawn_cut_row
  exact (bd_one (sd_ret (ed_callN C__law_rising hg hr (cn_cons (ed_var 1 (pv 1)) (cn_cons (ed_comp rfl S.nd (id_rg1 (by rfl) B.range_ (ed_ix (ed_var 1 (pv 1)) ed_int)) (own := [("c", 3)]) (blk_ok (by rfl)) (fun _ _ _ _ _ => (gd_name (pg_name (i := 3) S.nd rfl (by first | exact .inl rfl | exact .inr rfl)))) (fun _ _ _ _ _ => tsd_nil) (fun _ _ _ _ _ => (ed_sub (ed_callN C__law_pick hg hr (cn_src 0 (pv 0) (cn_cons (ed_add (ed_mul ed_int (ed_var 2 (pv 2))) ed_int) cn_nil))) (ed_var 2 (pv 2))))) cn_nil)))))
theorem S__law_roads : FnScope ["row", "r", "number"] ["row"] (defScope (topS 39)) := ⟨rfl, rfl, rfl, by decide +kernel, rfl, by decide +kernel, by decide +kernel⟩
theorem b__law_roads {k : Nat} (B : Bl mg) : ∀ X : Cx, (∃ (f : Addr) (cdv : Value) (A : Around) (around : List Env) (sh : Shared) (H : Hp) (E : XK), X = (cxOf CX0 P w K mg base ["row", "r", "number"] "_law_roads" (defScope (topS 39)) f cdv A around sh H E).nox) → X.A.guards = some [] → Room k X.A → BD X (defBody (topS 39)) (w__law_roads) := by
  rintro X ⟨f, cdv, A, around, sh, H, E, rfl⟩ hg hr
  have S := S__law_roads
  exact (bd_one (sd_ret (ed_tuple (by rfl) B.tuple_ (ed_comp rfl S.nd (id_enum (by rfl) B.enumerate_ (ed_var 0 (pv 0))) (own := [("r", 1), ("number", 2)]) (blk_ok (by rfl)) (fun _ _ _ _ _ => (gd_tupK (K := K) rfl rfl (gsd_cons (gd_name (pg_name (i := 1) S.nd rfl (by first | exact .inl rfl | exact .inr rfl))) (gsd_cons (gd_name (pg_name (i := 2) S.nd rfl (by first | exact .inl rfl | exact .inr rfl))) gsd_nil)))) (fun _ _ _ _ _ => (tsd_one (td_ne (hu64 hr) (ed_var 2 (pv 2)) ed_int))) (fun _ _ _ _ _ => (ed_var 1 (pv 1)))))))
theorem S__law_is_ring : FnScope ["frame", "row", "one"] ["frame", "row"] (defScope (topS 40)) := ⟨rfl, rfl, rfl, by decide +kernel, rfl, by decide +kernel, by decide +kernel⟩
theorem b__law_is_ring {k : Nat} (B : Bl mg) {s__law_brings : DSp} (C__law_brings : Cal P w K mg base "_law_brings" ["frame", "row"] k s__law_brings) : ∀ X : Cx, (∃ (f : Addr) (cdv : Value) (A : Around) (around : List Env) (sh : Shared) (H : Hp) (E : XK), X = (cxOf CX0 P w K mg base ["frame", "row", "one"] "_law_is_ring" (defScope (topS 40)) f cdv A around sh H E).nox) → X.A.guards = some [] → Room k X.A → BD X (defBody (topS 40)) (w__law_is_ring s__law_brings) := by
  rintro X ⟨f, cdv, A, around, sh, H, E, rfl⟩ hg hr
  have S := S__law_is_ring
  exact (bd_one (sd_ret (ed_eq (hu64 hr) (ed_comp rfl S.nd (id_seq (ed_callN C__law_brings hg hr (cn_cons (ed_var 0 (pv 0)) (cn_cons (ed_var 1 (pv 1)) cn_nil)))) (own := [("one", 2)]) (blk_ok (by rfl)) (fun _ _ _ _ _ => (gd_name (pg_name (i := 2) S.nd rfl (by first | exact .inl rfl | exact .inr rfl)))) (fun _ _ _ _ _ => (tsd_one (td_ne (hu64 hr) (ed_var 2 (pv 2)) ed_int))) (fun _ _ _ _ _ => (ed_var 2 (pv 2)))) (ed_lst ad_nil))))
theorem S__law_heights : FnScope ["frame", "row", "known", "lap", "a", "b", "number", "c", "heights"] ["frame", "row"] (defScope (topS 41)) := ⟨rfl, rfl, rfl, by decide +kernel, rfl, by decide +kernel, by decide +kernel⟩
theorem b__law_heights {k : Nat} (B : Bl mg) {s__law_rising : DSp} (C__law_rising : Cal P w K mg base "_law_rising" ["frame", "heights"] k s__law_rising) : ∀ X : Cx, (∃ (f : Addr) (cdv : Value) (A : Around) (around : List Env) (sh : Shared) (H : Hp) (E : XK), X = (cxOf CX0 P w K mg base ["frame", "row", "known", "lap", "a", "b", "number", "c", "heights"] "_law_heights" (defScope (topS 41)) f cdv A around sh H E).nox) → X.A.guards = some [] → Room k X.A → BD X (defBody (topS 41)) (w__law_heights s__law_rising) := by
  rintro X ⟨f, cdv, A, around, sh, H, E, rfl⟩ hg hr
  have S := S__law_heights
  exact (bd_cons (sd_setO 2 S.nd rfl (by first | exact .inl rfl | exact .inr rfl) (od_dict1 ed_int ed_int))
    (bd_cons (sd_for PassesOwn.never rfl (id_rg1 (by rfl) B.range_ (ed_ix (ed_var 0 (pv 0)) ed_int)) (gd_name (pg_name (i := 3) S.nd rfl (by first | exact .inl rfl | exact .inr rfl))) (bd_one (sd_for PassesOwn.never rfl (id_zip (by rfl) B.zip_ (ed_ix (ed_var 0 (pv 0)) ed_int) (ed_var 1 (pv 1))) (gd_tupK (K := K) rfl rfl (gsd_cons (gd_tupK (K := K) rfl rfl (gsd_cons (gd_name (pg_name (i := 4) S.nd rfl (by first | exact .inl rfl | exact .inr rfl))) (gsd_cons (gd_name (pg_name (i := 5) S.nd rfl (by first | exact .inl rfl | exact .inr rfl))) gsd_nil))) (gsd_cons (gd_name (pg_name (i := 6) S.nd rfl (by first | exact .inl rfl | exact .inr rfl))) gsd_nil))) (bd_cons (sd_if (wd_and (td_dinN 2 (hu1 hr) (pv 2) (ed_var 4 (pv 4))) (wd_and1 (td_dnotinN 2 (hu1 hr) (pv 2) (ed_var 5 (pv 5))))).td (bd_one (sd_setDk 2 (hu1 hr) (pv 2) (ed_add (ed_dgN 2 (hu1 hr) (pv 2) (ed_var 4 (pv 4))) (ed_var 6 (pv 6))) (ed_var 5 (pv 5)))) bd_nil)
    (bd_one (sd_if (wd_and (td_dinN 2 (hu1 hr) (pv 2) (ed_var 5 (pv 5))) (wd_and1 (td_dnotinN 2 (hu1 hr) (pv 2) (ed_var 4 (pv 4))))).td (bd_one (sd_setDk 2 (hu1 hr) (pv 2) (ed_sub (ed_dgN 2 (hu1 hr) (pv 2) (ed_var 5 (pv 5))) (ed_var 6 (pv 6))) (ed_var 4 (pv 4)))) bd_nil))))))
    (bd_cons (sd_set 8 S.nd rfl (by first | exact .inl rfl | exact .inr rfl) (ed_tuple (by rfl) B.tuple_ (ed_comp rfl S.nd (id_rg1 (by rfl) B.range_ (ed_ix (ed_var 0 (pv 0)) ed_int)) (own := [("c", 7)]) (blk_ok (by rfl)) (fun _ _ _ _ _ => (gd_name (pg_name (i := 7) S.nd rfl (by first | exact .inl rfl | exact .inr rfl)))) (fun _ _ _ _ _ => tsd_nil) (fun _ _ _ _ _ => (ed_dgN 2 (hu1 hr) (pv 2) (ed_var 7 (pv 7)))))))
    (bd_one (sd_ret (ed_if (td_eq (hu64 hr) (ed_callN C__law_rising hg hr (cn_cons (ed_var 0 (pv 0)) (cn_cons (ed_var 8 (pv 8)) cn_nil))) (ed_tuple (by rfl) B.tuple_ (ed_var 1 (pv 1)))) (ed_var 8 (pv 8)) ed_non))))))
theorem S__law_told_tree : FnScope ["frame", "found", "r", "a", "b", "heads"] ["frame"] (defScope (topS 42)) := ⟨rfl, rfl, rfl, by decide +kernel, rfl, by decide +kernel, by decide +kernel⟩
theorem b__law_told_tree {k : Nat} (B : Bl mg) {s__law_pieces : DSp} (C__law_pieces : Cal P w K mg base "_law_pieces" ["frame", "roads"] k s__law_pieces) : ∀ X : Cx, (∃ (f : Addr) (cdv : Value) (A : Around) (around : List Env) (sh : Shared) (H : Hp) (E : XK), X = (cxOf CX0 P w K mg base ["frame", "found", "r", "a", "b", "heads"] "_law_told_tree" (defScope (topS 42)) f cdv A around sh H E).nox) → X.A.guards = some [] → Room k X.A → BD X (defBody (topS 42)) (w__law_told_tree s__law_pieces) := by
  rintro X ⟨f, cdv, A, around, sh, H, E, rfl⟩ hg hr
  have S := S__law_told_tree
  exact (bd_cons (sd_set 1 S.nd rfl (by first | exact .inl rfl | exact .inr rfl) (ed_lst ad_nil))
    (bd_cons (sd_for PassesOwn.never rfl (id_enum (by rfl) B.enumerate_ (ed_ix (ed_var 0 (pv 0)) ed_int)) (gd_tupK (K := K) rfl rfl (gsd_cons (gd_name (pg_name (i := 2) S.nd rfl (by first | exact .inl rfl | exact .inr rfl))) (gsd_cons (gd_tupK (K := K) rfl rfl (gsd_cons (gd_name (pg_name (i := 3) S.nd rfl (by first | exact .inl rfl | exact .inr rfl))) (gsd_cons (gd_name (pg_name (i := 4) S.nd rfl (by first | exact .inl rfl | exact .inr rfl))) gsd_nil))) gsd_nil))) (bd_cons (sd_set 5 S.nd rfl (by first | exact .inl rfl | exact .inr rfl) (ed_callN C__law_pieces hg hr (cn_cons (ed_var 0 (pv 0)) (cn_cons (od_lrg1 rfl (by rfl) B.list_ (by rfl) B.range_ (ed_var 2 (pv 2))).ed cn_nil))))
    (bd_one (sd_set 1 S.nd rfl (by first | exact .inl rfl | exact .inr rfl) (ed_add (ed_var 1 (pv 1)) (ed_mul (ed_lst (ad_cons (ed_var 2 (pv 2)) ad_nil)) (ed_int' (by rfl) B.int_ (ed_ne (hu64 hr) (ed_ix (ed_var 5 (pv 5)) (ed_var 3 (pv 3))) (ed_ix (ed_var 5 (pv 5)) (ed_var 4 (pv 4)))))))))))
    (bd_one (sd_ret (ed_tuple (by rfl) B.tuple_ (ed_var 1 (pv 1)))))))
theorem S_law : FnScope ["script", "source", "lap", "frame", "far", "n", "m", "kept", "r", "some", "wide", "ring", "cut", "a", "late", "row", "heights", "due", "c", "told", "pairs", "tree", "along", "odd", "values", "value", "turn", "shown", "apart"] ["script"] (defScope (topS 43)) := ⟨rfl, rfl, rfl, by decide +kernel, rfl, by decide +kernel, by decide +kernel⟩
theorem b_law {k : Nat} (B : Bl mg) {s__law_hung : DSp} (C__law_hung : Cal P w K mg base "_law_hung" ["source", "crossings", "roads"] k s__law_hung) {s__law_of : DSp} (C__law_of : Cal P w K mg base "_law_of" ["source", "some"] k s__law_of) {s__law_pick : DSp} (C__law_pick : Cal P w K mg base "_law_pick" ["source", "many"] k s__law_pick) {s__law_drawn_ring_row : DSp} (C__law_drawn_ring_row : Cal P w K mg base "_law_drawn_ring_row" ["source", "frame", "far"] k s__law_drawn_ring_row) {s__law_drawn_cut_row : DSp} (C__law_drawn_cut_row : Cal P w K mg base "_law_drawn_cut_row" ["source", "frame", "far"] k s__law_drawn_cut_row) {s__law_heights : DSp} (C__law_heights : Cal P w K mg base "_law_heights" ["frame", "row"] k s__law_heights) {s__law_brings : DSp} (C__law_brings : Cal P w K mg base "_law_brings" ["frame", "row"] k s__law_brings) {s__law_is_ring : DSp} (C__law_is_ring : Cal P w K mg base "_law_is_ring" ["frame", "row"] k s__law_is_ring) {s_brought_by : DSp} (C_brought_by : Cal P w K mg base "brought_by" ["frame", "row"] k s_brought_by) {s_is_ring_row : DSp} (C_is_ring_row : Cal P w K mg base "is_ring_row" ["frame", "row"] k s_is_ring_row) {s_heights_of_cut : DSp} (C_heights_of_cut : Cal P w K mg base "heights_of_cut" ["frame", "row"] k s_heights_of_cut) {s_is_cut_row : DSp} (C_is_cut_row : Cal P w K mg base "is_cut_row" ["frame", "row"] k s_is_cut_row) {s_row_size : DSp} (C_row_size : Cal P w K mg base "row_size" ["row"] k s_row_size) {s_roads_of_row : DSp} (C_roads_of_row : Cal P w K mg base "roads_of_row" ["row"] k s_roads_of_row) {s__law_product : DSp} (C__law_product : Cal P w K mg base "_law_product" ["one", "other"] k s__law_product) {s__law_roads : DSp} (C__law_roads : Cal P w K mg base "_law_roads" ["row"] k s__law_roads) {s_row_product : DSp} (C_row_product : Cal P w K mg base "row_product" ["one", "other"] k s_row_product) {s_cut_row : DSp} (C_cut_row : Cal P w K mg base "cut_row" ["frame", "heights"] k s_cut_row) {s__law_rising : DSp} (C__law_rising : Cal P w K mg base "_law_rising" ["frame", "heights"] k s__law_rising) {s_added_rows : DSp} (C_added_rows : Cal P w K mg base "added_rows" ["many", "pairs"] k s_added_rows) {s__law_added : DSp} (C__law_added : Cal P w K mg base "_law_added" ["many", "pairs"] k s__law_added) {s__law_drawn_tree : DSp} (C__law_drawn_tree : Cal P w K mg base "_law_drawn_tree" ["source", "frame"] k s__law_drawn_tree) {s_heights_along : DSp} (C_heights_along : Cal P w K mg base "heights_along" ["frame", "tree", "row"] k s_heights_along) {s_told_tree : DSp} (C_told_tree : Cal P w K mg base "told_tree" ["frame"] k s_told_tree) {s__law_told_tree : DSp} (C__law_told_tree : Cal P w K mg base "_law_told_tree" ["frame"] k s__law_told_tree) {s__law_are_wholes : DSp} (C__law_are_wholes : Cal P w K mg base "_law_are_wholes" ["value", "many"] k s__law_are_wholes) {s__law_bent : DSp} (C__law_bent : Cal P w K mg base "_law_bent" ["source", "value"] k s__law_bent) {s_is_whole_row : DSp} (C_is_whole_row : Cal P w K mg base "is_whole_row" ["many", "value"] k s_is_whole_row) {s_hangs_together : DSp} (C_hangs_together : Cal P w K mg base "hangs_together" ["frame"] k s_hangs_together) : ∀ X : Cx, (∃ (f : Addr) (cdv : Value) (A : Around) (around : List Env) (sh : Shared) (H : Hp) (E : XK), X = (cxOf CX0 P w K mg base ["script", "source", "lap", "frame", "far", "n", "m", "kept", "r", "some", "wide", "ring", "cut", "a", "late", "row", "heights", "due", "c", "told", "pairs", "tree", "along", "odd", "values", "value", "turn", "shown", "apart"] "law" (defScope (topS 43)) f cdv A around sh H E).nox) → X.A.guards = some [] → Room k X.A → BD X (defBody (topS 43)).tail (w_law s__law_hung s__law_of s__law_pick s__law_drawn_ring_row s__law_drawn_cut_row s__law_heights s__law_brings s__law_is_ring s_brought_by s_is_ring_row s_heights_of_cut s_is_cut_row s_row_size s_roads_of_row s__law_product s__law_roads s_row_product s_cut_row s__law_rising s_added_rows s__law_added s__law_drawn_tree s_heights_along s_told_tree s__law_told_tree s__law_are_wholes s__law_bent s_is_whole_row s_hangs_together) := by
  rintro X ⟨f, cdv, A, around, sh, H, E, rfl⟩ hg hr
  have S := S_law
  exact (bd_cons (sd_for PassesOwn.never rfl (id_rg1 (by rfl) B.range_ ed_int) (gd_name (pg_name (i := 2) S.nd rfl (by first | exact .inl rfl | exact .inr rfl))) (bd_cons (sd_parC 3 4 rfl (ed_callN C__law_hung hg hr (cn_src 1 (pv 1) (cn_cons (ed_ix (ed_lst (ad_cons ed_int (ad_cons ed_int (ad_cons ed_int (ad_cons ed_int ad_nil))))) (ed_var 2 (pv 2))) (cn_cons (ed_ix (ed_lst (ad_cons ed_int (ad_cons ed_int (ad_cons ed_int (ad_cons ed_int ad_nil))))) (ed_var 2 (pv 2))) cn_nil)))).x (ed_callN C__law_of hg hr (cn_src 1 (pv 1) (cn_cons (ed_lst (ad_cons ed_int (ad_cons ed_int (ad_cons (ed_pow ed_int ed_int) ad_nil)))) cn_nil))).x (pg_name (i := 3) S.nd rfl (by first | exact .inl rfl | exact .inr rfl)) (pg_name (i := 4) S.nd rfl (by first | exact .inl rfl | exact .inr rfl)))
    (bd_cons (sd_par3 5 6 7 rfl S.nd rfl rfl rfl (by decide) (by decide) (by decide) rfl rfl rfl (ed_ix (ed_var 3 (pv 3)) ed_int) (ed_len (by rfl) B.len_ (ed_ix (ed_var 3 (pv 3)) ed_int)) (ed_repr hg (hu110 hr) (by rfl) B.repr_ (ed_var 3 (pv 3))) (by rfl))
    (bd_cons (sd_set 9 S.nd rfl (by first | exact .inl rfl | exact .inr rfl) (ed_tuple (by rfl) B.tuple_ (ed_comp rfl S.nd (id_rg1 (by rfl) B.range_ (ed_var 6 (pv 6))) (own := [("r", 8)]) (blk_ok (by rfl)) (fun _ _ _ _ _ => (gd_name (pg_name (i := 8) S.nd rfl (by first | exact .inl rfl | exact .inr rfl)))) (fun _ _ _ _ _ => tsd_nil) (fun _ _ _ _ _ => (ed_sub (ed_callN C__law_pick hg hr (cn_src 1 (pv 1) (cn_cons (ed_add (ed_mul ed_int (ed_var 4 (pv 4))) ed_int) cn_nil))) (ed_var 4 (pv 4)))))))
    (bd_cons (sd_set 10 S.nd rfl (by first | exact .inl rfl | exact .inr rfl) (ed_min2 rfl (by rfl) B.min_ (ed_var 4 (pv 4)) ed_int))
    (bd_cons (sd_par 11 12 rfl S.nd rfl rfl (by decide) rfl rfl (ed_callN C__law_drawn_ring_row hg hr (cn_src 1 (pv 1) (cn_cons (ed_var 3 (pv 3)) (cn_cons (ed_var 10 (pv 10)) cn_nil)))).x (ed_callN C__law_drawn_cut_row hg hr (cn_src 1 (pv 1) (cn_cons (ed_var 3 (pv 3)) (cn_cons (ed_var 10 (pv 10)) cn_nil)))).x (by rfl))
    (bd_cons (sd_set 14 S.nd rfl (by first | exact .inl rfl | exact .inr rfl) (ed_tuple (by rfl) B.tuple_ (ed_comp rfl S.nd (id_seq (ed_callN C__law_of hg hr (cn_src 1 (pv 1) (cn_cons (ed_lst (ad_cons (ed_var 11 (pv 11)) (ad_cons (ed_var 12 (pv 12)) ad_nil))) cn_nil)))) (own := [("a", 13)]) (blk_ok (by rfl)) (fun _ _ _ _ _ => (gd_name (pg_name (i := 13) S.nd rfl (by first | exact .inl rfl | exact .inr rfl)))) (fun _ _ _ _ _ => tsd_nil) (fun _ _ _ _ _ => (ed_add (ed_var 13 (pv 13)) (ed_int' (by rfl) B.int_ (ed_eq (hu64 hr) (ed_callN C__law_pick hg hr (cn_src 1 (pv 1) (cn_cons ed_int cn_nil))) ed_int)))))))
    (bd_cons (sd_for PassesOwn.never rfl (id_seq (ed_tup (ad_cons (ed_var 9 (pv 9)) (ad_cons (ed_var 11 (pv 11)) (ad_cons (ed_var 12 (pv 12)) (ad_cons (ed_var 14 (pv 14)) (ad_cons (ed_tmul (ed_tup (ad_cons ed_int ad_nil)) (ed_var 6 (pv 6))) ad_nil))))))) (gd_name (pg_name (i := 15) S.nd rfl (by first | exact .inl rfl | exact .inr rfl))) (bd_cons (sd_set 16 S.nd rfl (by first | exact .inl rfl | exact .inr rfl) (ed_callN C__law_heights hg hr (cn_cons (ed_var 3 (pv 3)) (cn_cons (ed_var 15 (pv 15)) cn_nil))))
    (bd_cons (sd_set 17 S.nd rfl (by first | exact .inl rfl | exact .inr rfl) (ed_lst (ad_cons (ed_callN C__law_brings hg hr (cn_cons (ed_var 3 (pv 3)) (cn_cons (ed_var 15 (pv 15)) cn_nil))) (ad_cons (ed_callN C__law_is_ring hg hr (cn_cons (ed_var 3 (pv 3)) (cn_cons (ed_var 15 (pv 15)) cn_nil))) ad_nil))))
    (bd_cons (sd_if (td_ne (hu64 hr) (ed_repr hg (hu110 hr) (by rfl) B.repr_ (ed_lst (ad_cons (ed_callN C_brought_by hg hr (cn_cons (ed_var 3 (pv 3)) (cn_cons (ed_var 15 (pv 15)) cn_nil))) (ad_cons (ed_callN C_is_ring_row hg hr (cn_cons (ed_var 3 (pv 3)) (cn_cons (ed_var 15 (pv 15)) cn_nil))) ad_nil)))) (ed_repr hg (hu110 hr) (by rfl) B.repr_ (ed_var 17 (pv 17)))) (bd_one (sd_ret ed_bl)) bd_nil)
    (bd_cons (sd_if (td_ne (hu64 hr) (ed_repr hg (hu110 hr) (by rfl) B.repr_ (ed_lst (ad_cons (ed_callN C_heights_of_cut hg hr (cn_cons (ed_var 3 (pv 3)) (cn_cons (ed_var 15 (pv 15)) cn_nil))) (ad_cons (ed_callN C_is_cut_row hg hr (cn_cons (ed_var 3 (pv 3)) (cn_cons (ed_var 15 (pv 15)) cn_nil))) ad_nil)))) (ed_repr hg (hu110 hr) (by rfl) B.repr_ (ed_lst (ad_cons (ed_var 16 (pv 16)) (ad_cons (ed_notN (ed_var 16 (pv 16)) ed_non) ad_nil))))) (bd_one (sd_ret ed_bl)) bd_nil)
    (bd_cons (sd_if (td_ne (hu64 hr) (ed_repr hg (hu110 hr) (by rfl) B.repr_ (ed_lst (ad_cons (ed_callN C_row_size hg hr (cn_cons (ed_var 15 (pv 15)) cn_nil)) (ad_cons (ed_callN C_roads_of_row hg hr (cn_cons (ed_var 15 (pv 15)) cn_nil)) ad_nil)))) (ed_repr hg (hu110 hr) (by rfl) B.repr_ (ed_lst (ad_cons (ed_callN C__law_product hg hr (cn_cons (ed_var 15 (pv 15)) (cn_cons (ed_var 15 (pv 15)) cn_nil))) (ad_cons (ed_callN C__law_roads hg hr (cn_cons (ed_var 15 (pv 15)) cn_nil)) ad_nil))))) (bd_one (sd_ret ed_bl)) bd_nil)
    (bd_cons (sd_if (td_ne (hu64 hr) (ed_repr hg (hu110 hr) (by rfl) B.repr_ (ed_callN C_row_product hg hr (cn_cons (ed_var 15 (pv 15)) (cn_cons (ed_var 12 (pv 12)) cn_nil)))) (ed_repr hg (hu110 hr) (by rfl) B.repr_ (ed_callN C__law_product hg hr (cn_cons (ed_var 15 (pv 15)) (cn_cons (ed_var 12 (pv 12)) cn_nil))))) (bd_one (sd_ret ed_bl)) bd_nil)
    (bd_one (sd_if (wd_and (td_val (ed_callN C_is_ring_row hg hr (cn_cons (ed_var 3 (pv 3)) (cn_cons (ed_var 15 (pv 15)) cn_nil)))) (wd_and (td_val (ed_callN C_is_cut_row hg hr (cn_cons (ed_var 3 (pv 3)) (cn_cons (ed_var 15 (pv 15)) cn_nil)))) (wd_and1 (td_ne (hu64 hr) (ed_callN C__law_roads hg hr (cn_cons (ed_var 15 (pv 15)) cn_nil)) (ed_tup ad_nil))))).td (bd_one (sd_ret ed_bl)) bd_nil)))))))))
    (bd_cons (sd_if (wd_or (td_ne (hu64 hr) (ed_callN C_row_product hg hr (cn_cons (ed_var 11 (pv 11)) (cn_cons (ed_var 12 (pv 12)) cn_nil))) ed_int) (wd_or (td_not (td_val (ed_callN C_is_ring_row hg hr (cn_cons (ed_var 3 (pv 3)) (cn_cons (ed_var 11 (pv 11)) cn_nil))))) (wd_or1 (td_not (td_val (ed_callN C_is_cut_row hg hr (cn_cons (ed_var 3 (pv 3)) (cn_cons (ed_var 12 (pv 12)) cn_nil)))))))).td (bd_one (sd_ret ed_bl)) bd_nil)
    (bd_cons (sd_set 16 S.nd rfl (by first | exact .inl rfl | exact .inr rfl) (ed_tuple (by rfl) B.tuple_ (ed_comp rfl S.nd (id_rg1 (by rfl) B.range_ (ed_var 5 (pv 5))) (own := [("c", 18)]) (blk_ok (by rfl)) (fun _ _ _ _ _ => (gd_name (pg_name (i := 18) S.nd rfl (by first | exact .inl rfl | exact .inr rfl)))) (fun _ _ _ _ _ => tsd_nil) (fun _ _ _ _ _ => (ed_sub (ed_callN C__law_pick hg hr (cn_src 1 (pv 1) (cn_cons ed_int cn_nil))) ed_int)))))
    (bd_cons (sd_set 19 S.nd rfl (by first | exact .inl rfl | exact .inr rfl) (ed_lst (ad_cons (ed_callN C_cut_row hg hr (cn_cons (ed_var 3 (pv 3)) (cn_cons (ed_var 16 (pv 16)) cn_nil))) (ad_cons (ed_callN C_cut_row hg hr (cn_cons (ed_var 3 (pv 3)) (cn_cons (od_list (by rfl) B.list_ (ed_var 16 (pv 16))).ed cn_nil))) ad_nil))))
    (bd_cons (sd_if (td_ne (hu64 hr) (ed_repr hg (hu110 hr) (by rfl) B.repr_ (ed_var 19 (pv 19))) (ed_repr hg (hu110 hr) (by rfl) B.repr_ (ed_mul (ed_lst (ad_cons (ed_callN C__law_rising hg hr (cn_cons (ed_var 3 (pv 3)) (cn_cons (ed_var 16 (pv 16)) cn_nil))) ad_nil)) ed_int))) (bd_one (sd_ret ed_bl)) bd_nil)
    (bd_cons (sd_setLc 20 rfl S.nd rfl rfl (sw_true rfl rfl rfl rfl) (id_seq (ed_sl (ed_tup (ad_cons (ed_var 11 (pv 11)) (ad_cons (ed_var 12 (pv 12)) (ad_cons (ed_var 9 (pv 9)) ad_nil)))) sd_none (sd_some (ed_callN C__law_pick hg hr (cn_src 1 (pv 1) (cn_cons ed_int cn_nil)))))) (own := [("row", 15)]) (blk_ok (by rfl)) (fun _ _ _ _ _ => (gd_name (pg_name (i := 15) S.nd rfl (by first | exact .inl rfl | exact .inr rfl)))) (fun _ _ _ _ _ => tsd_nil) (fun _ _ _ _ _ => (ed_tup (ad_cons (ed_sub (ed_callN C__law_pick hg hr (cn_src 1 (pv 1) (cn_cons ed_int cn_nil))) ed_int) (ad_cons (ed_var 15 (pv 15)) ad_nil)))))
    (bd_cons (sd_if (td_ne (hu64 hr) (ed_repr hg (hu110 hr) (by rfl) B.repr_ (ed_lst (ad_cons (ed_callN C_added_rows hg hr (cn_cons (ed_var 6 (pv 6)) (cn_cons (ed_var 20 (pv 20)) cn_nil))) (ad_cons (ed_callN C_added_rows hg hr (cn_cons (ed_var 6 (pv 6)) (cn_cons (ed_tuple (by rfl) B.tuple_ (ed_var 20 (pv 20))) cn_nil))) ad_nil)))) (ed_repr hg (hu110 hr) (by rfl) B.repr_ (ed_mul (ed_lst (ad_cons (ed_callN C__law_added hg hr (cn_cons (ed_var 6 (pv 6)) (cn_cons (ed_var 20 (pv 20)) cn_nil))) ad_nil)) ed_int))) (bd_one (sd_ret ed_bl)) bd_nil)
    (bd_cons (sd_set 21 S.nd rfl (by first | exact .inl rfl | exact .inr rfl) (ed_callN C__law_drawn_tree hg hr (cn_src 1 (pv 1) (cn_cons (ed_var 3 (pv 3)) cn_nil))))
    (bd_cons (sd_set 22 S.nd rfl (by first | exact .inl rfl | exact .inr rfl) (ed_callN C_heights_along hg hr (cn_cons (ed_var 3 (pv 3)) (cn_cons (ed_var 21 (pv 21)) (cn_cons (ed_var 9 (pv 9)) cn_nil)))))
    (bd_cons (sd_if (wd_or (td_ne (hu64 hr) (ed_repr hg (hu110 hr) (by rfl) B.repr_ (ed_callN C_told_tree hg hr (cn_cons (ed_var 3 (pv 3)) cn_nil))) (ed_repr hg (hu110 hr) (by rfl) B.repr_ (ed_callN C__law_told_tree hg hr (cn_cons (ed_var 3 (pv 3)) cn_nil)))) (wd_or (td_not (td_val (ed_callN C__law_are_wholes hg hr (cn_cons (ed_var 22 (pv 22)) (cn_cons (ed_var 5 (pv 5)) cn_nil))))) (wd_or1 (td_ne (hu64 hr) (ed_ix (ed_var 22 (pv 22)) ed_int) ed_int)))).td (bd_one (sd_ret ed_bl)) bd_nil)
    (bd_cons (sd_if (td_ne (hu64 hr) (ed_comp rfl S.nd (id_seq (ed_var 21 (pv 21))) (own := [("r", 8)]) (blk_ok (by rfl)) (fun _ _ _ _ _ => (gd_name (pg_name (i := 8) S.nd rfl (by first | exact .inl rfl | exact .inr rfl)))) (fun _ _ _ _ _ => (tsd_one (td_ne (hu64 hr) (ed_sub (ed_ix (ed_var 22 (pv 22)) (ed_ix (ed_ix (ed_ix (ed_var 3 (pv 3)) ed_int) (ed_var 8 (pv 8))) ed_int)) (ed_ix (ed_var 22 (pv 22)) (ed_ix (ed_ix (ed_ix (ed_var 3 (pv 3)) ed_int) (ed_var 8 (pv 8))) ed_int))) (ed_ix (ed_var 9 (pv 9)) (ed_var 8 (pv 8)))))) (fun _ _ _ _ _ => (ed_var 8 (pv 8)))) (ed_lst ad_nil)) (bd_one (sd_ret ed_bl)) bd_nil)
    (bd_cons (sd_set 23 S.nd rfl (by first | exact .inl rfl | exact .inr rfl) (ed_callN C__law_of hg hr (cn_src 1 (pv 1) (cn_cons (ed_lst (ad_cons ed_non (ad_cons ed_bl (ad_cons ed_str (ad_cons (ed_tup ad_nil) (ad_cons (ed_tup (ad_cons ed_int ad_nil)) (ad_cons (ed_lst (ad_cons ed_int ad_nil)) (ad_cons od_dict0.ed ad_nil)))))))) cn_nil))))
    (bd_cons (sd_set 24 S.nd rfl (by first | exact .inl rfl | exact .inr rfl) (ed_lst (ad_cons (ed_var 9 (pv 9)) (ad_cons (od_list (by rfl) B.list_ (ed_var 9 (pv 9))).ed (ad_cons (ed_sl (ed_var 9 (pv 9)) (sd_some ed_int) sd_none) (ad_cons (ed_add (ed_var 9 (pv 9)) (ed_tup (ad_cons ed_int ad_nil))) (ad_cons (ed_add (ed_add (ed_sl (ed_var 9 (pv 9)) sd_none (sd_some ed_int)) (ed_tup (ad_cons (ed_var 23 (pv 23)) ad_nil))) (ed_sl (ed_var 9 (pv 9)) (sd_some ed_int) sd_none)) (ad_cons (ed_var 23 (pv 23)) (ad_cons ed_non (ad_cons (ed_tmul (ed_tup (ad_cons ed_int ad_nil)) (ed_var 6 (pv 6))) ad_nil))))))))))
    (bd_cons (sd_for PassesOwn.never rfl (id_seq (ed_add (ed_var 24 (pv 24)) (ed_comp rfl S.nd (id_rg1 (by rfl) B.range_ ed_int) (own := [("turn", 26)]) (blk_ok (by rfl)) (fun _ _ _ _ _ => (gd_name (pg_name (i := 26) S.nd rfl (by first | exact .inl rfl | exact .inr rfl)))) (fun _ _ _ _ _ => tsd_nil) (fun _ _ _ _ _ => (ed_callN C__law_bent hg hr (cn_src 1 (pv 1) (cn_cons (ed_var 9 (pv 9)) cn_nil))))))) (gd_name (pg_name (i := 25) S.nd rfl (by first | exact .inl rfl | exact .inr rfl))) (bd_cons (sd_set 27 S.nd rfl (by first | exact .inl rfl | exact .inr rfl) (ed_repr hg (hu110 hr) (by rfl) B.repr_ (ed_var 25 (pv 25))))
    (bd_one (sd_if (wd_or (td_ne (hu64 hr) (ed_repr hg (hu110 hr) (by rfl) B.repr_ (ed_callN C_is_whole_row hg hr (cn_cons (ed_var 6 (pv 6)) (cn_cons (ed_var 25 (pv 25)) cn_nil)))) (ed_repr hg (hu110 hr) (by rfl) B.repr_ (ed_callN C__law_are_wholes hg hr (cn_cons (ed_var 25 (pv 25)) (cn_cons (ed_var 6 (pv 6)) cn_nil))))) (wd_or1 (td_ne (hu64 hr) (ed_repr hg (hu110 hr) (by rfl) B.repr_ (ed_var 25 (pv 25))) (ed_var 27 (pv 27))))).td (bd_one (sd_ret ed_bl)) bd_nil))))
    (bd_cons (sd_set 28 S.nd rfl (by first | exact .inl rfl | exact .inr rfl) (ed_tup (ad_cons (ed_add (ed_var 5 (pv 5)) ed_int) (ad_cons (ed_ix (ed_var 3 (pv 3)) ed_int) ad_nil))))
    (bd_one (sd_if (wd_or (td_notB (ed_callN C_hangs_together hg hr (cn_cons (ed_var 3 (pv 3)) cn_nil)) ed_bl) (wd_or (td_notB (ed_callN C_hangs_together hg hr (cn_cons (ed_var 28 (pv 28)) cn_nil)) ed_bl) (wd_or1 (td_ne (hu64 hr) (ed_repr hg (hu110 hr) (by rfl) B.repr_ (ed_var 3 (pv 3))) (ed_var 7 (pv 7)))))).td (bd_one (sd_ret ed_bl)) bd_nil))))))))))))))))))))))))
    (bd_one (sd_ret (ed_eq (hu64 hr) (ed_callN C_brought_by hg hr (cn_cons (ed_tup (ad_cons ed_int (ad_cons (ed_tup (ad_cons (ed_tup (ad_cons ed_int (ad_cons ed_int ad_nil))) (ad_cons (ed_tup (ad_cons ed_int (ad_cons ed_int ad_nil))) (ad_cons (ed_tup (ad_cons ed_int (ad_cons ed_int ad_nil))) ad_nil)))) ad_nil))) (cn_cons (ed_tup (ad_cons ed_int (ad_cons ed_int (ad_cons ed_int ad_nil)))) cn_nil))) (ed_tup (ad_cons (ed_neg ed_int) (ad_cons ed_int ad_nil)))))))
end
end DL
set_option Elab.async false
set_option linter.all false
set_option maxRecDepth 100000
set_option maxHeartbeats 1000000
set_option autoImplicit false
namespace DL
open PySem PySem.Spec PyProof.Rows L2
theorem scPick : FnScope ["source", "many", "left", "mixed"] ["source", "many"] (defScope (topS 22)) := ⟨rfl, rfl, rfl, by decide +kernel, rfl, by decide +kernel, by decide +kernel⟩
section
variable {P : Program} {w : World} {K : PySem.W.Frag} {mg : Str → Option Value} {base : Heap}
theorem pick_tail {X : Cx} {k : Nat} (hX : ∃ (f : Addr) (cdv : Value) (A : Around) (outer : List Env) (sh : Shared) (H : Hp) (E : XK), X = (cxOf CX0 P w K mg base ["source", "many", "left", "mixed"] "_law_pick" (defScope (topS 22)) f cdv A outer sh H E).nox) (hr : Room k X.A)
    (mi : mg "int" = none) (mm : mg "max" = none) : ∃ t : TS, PSs X (defBody (topS 22)).tail t ∧ ∀ (D : Ends) (H : Hp) (p c : Addr) (n : Int) (cs : List Int) (l m u : Int), SrcV H p c cs l m u → 0 ≤ l → m.natAbs < 2 ^ 100 → 0 ≤ u → n < 2 ^ 62 →
      (∀ (H' : Hp) (l' m' u' i : Int), SrcV H' p c cs l' m' u' → 0 ≤ l' → m'.natAbs < 2 ^ 100 → 0 ≤ u' → (∀ b, b ≠ p → b ≠ c → H' b = H b) → 0 ≤ i → i < max 1 n → D.rt (.int i) H') →
      t D (L2.start ["source", "many", "left", "mixed"] [.ref p, .int n]) H := by
  obtain ⟨f, cdv, A, outer, sh, H, E, rfl⟩ := hX
  have hu := hu_of hr
  refine ⟨_, pss_cons (ps_set (i := 2) scPick.nd rfl (.inl rfl) (pe_dget hu (pv 0) pe_str (by intro _ _; rfl)) (by rfl))
      (pss_cons (ps_if (pw_or (pt_cmpR op_lt (pv 1) pe_int (nomark _)) (pw_or1 (pt_cmpR op_gt (pv 2) pe_int (nomark _)))).pt
        (pss_cons (ps_dput hu (pv 0) pe_str (pe_op op_fdivW (pv 2) (pe_callB (call_max2 rfl) (by rfl) mm (by decide +kernel) (pa_cons pe_int (pa_cons (pv 1) pa_nil)))) (by rfl))
          (pss_one (ps_ret (pe_op op_mod (pe_callTy call_int1 (by rfl) mi (by decide +kernel) (pa_cons (pv 2) pa_nil)) (pe_callB (call_max2 rfl) (by rfl) mm (by decide +kernel) (pa_cons pe_int (pa_cons (pv 1) pa_nil)))))))
        pss_nil)
      (pss_cons (ps_dput hu (pv 0) pe_str (pe_op op_add (pe_dget hu (pv 0) pe_str (by intro _ _; rfl)) pe_int) (by rfl))
      (pss_cons (ps_set (i := 3) scPick.nd rfl (.inl rfl) (pe_op op_mod (pe_callTy call_int1 (by rfl) mi (by decide +kernel) (pa_cons (pe_op op_add (pe_dget hu (pv 0) pe_str (by intro _ _; rfl)) (pe_op op_mul (pe_dget hu (pv 0) pe_str (by intro _ _; rfl)) pe_int)) pa_nil)) pe_int) (by rfl))
      (pss_cons (ps_set (i := 3) scPick.nd rfl (.inl rfl) (pe_op op_mod (pe_callTy call_int1 (by rfl) mi (by decide +kernel) (pa_cons (pe_op op_add (pe_op op_mul (pv 3) (pv 3)) (pe_op op_mul (pe_dget hu (pv 0) pe_str (by intro _ _; rfl)) pe_int)) pa_nil)) pe_int) (by rfl))
      (pss_cons (ps_dput hu (pv 0) pe_str (pv 3) (by rfl))
      (pss_one (ps_ret (pe_op op_mod (pe_callTy call_int1 (by rfl) mi (by decide +kernel) (pa_cons (pe_op op_fdiv (pv 3) pe_int) pa_nil)) (pv 1)))))))))
    , ?_⟩
  intro D H p c n cs l m u S hl hm hu0 hn q
  -- left = source['left']
  refine ⟨_, rfl, p, .int l, rfl, S.left, ?_⟩
  have mx := max_one n
  have h3 : (0 : Int) < max 1 n := by omega
  have hd : n < 2 ∨ (¬ n < 2 ∧ 1 < l) ∨ (¬ n < 2 ∧ ¬ 1 < l) := by omega
  -- if many < 2 or left > 1
  rcases hd with h | ⟨h, h2⟩ | ⟨h, h2⟩
  case' inl => refine ⟨_, rfl, n, 2, rfl, rfl, _, rfl, ifT (ifT ?_ rfl) (decide_eq_true h)⟩
  case' inr.inl => refine ⟨_, rfl, n, 2, rfl, rfl, _, rfl, ifF (⟨_, rfl, l, 1, rfl, rfl, _, rfl, ifT ?_ (decide_eq_true h2)⟩) (decide_eq_false h)⟩
  case inr.inr =>
    refine ⟨_, rfl, n, 2, rfl, rfl, _, rfl, ifF (⟨_, rfl, l, 1, rfl, rfl, _, rfl, ifF ?_ (decide_eq_false h2)⟩) (decide_eq_false h)⟩
    -- source['turn'] = source['turn'] + 1
    obtain ⟨H1, p1, S1, k1⟩ := S.setTurn (u + 1)
    refine ⟨_, rfl, p, _, rfl, S.turn, u, 1, rfl, rfl, _, rfl, p, H1, rfl, p1, ?_⟩
    -- mixed = int(source['mixed'] + source['turn'] * 104729) % 998244353
    refine ⟨_, rfl, p, _, rfl, S1.mixed, _, rfl, p, _, rfl, S1.turn, u + 1, 104729, rfl, rfl, .inr ⟨by omega, by omega⟩, m, (u + 1) * 104729, rfl, rfl, .inl ⟨_, rfl, _, 998244353, rfl, rfl, by omega, ?_⟩⟩
    -- mixed = int(mixed * mixed + source['turn'] * 17) % 2147483647
    have b1 : 0 ≤ (m + (u + 1) * 104729) % 998244353 := Int.emod_nonneg _ (by omega)
    have b2 : (m + (u + 1) * 104729) % 998244353 < 998244353 := Int.emod_lt_of_pos _ (by omega)
    obtain ⟨y, hy⟩ : ∃ y, y = (m + (u + 1) * 104729) % 998244353 := ⟨_, rfl⟩
    rw [← hy] at b1 b2
    have ey : (fun i j => V.int (i % j)) (m + (u + 1) * 104729) 998244353 = V.int y := by rw [hy]
    rw [ey]
    refine ⟨_, rfl, _, rfl, y, y, rfl, rfl, .inl ⟨by omega, by omega⟩, _, rfl, p, _, rfl, S1.turn, u + 1, 17, rfl, rfl, .inr ⟨by omega, by omega⟩, y * y, (u + 1) * 17, rfl, rfl, .inl ⟨_, rfl, _, 2147483647, rfl, rfl, by omega, ?_⟩⟩
    have b3 : 0 ≤ (y * y + (u + 1) * 17) % 2147483647 := Int.emod_nonneg _ (by omega)
    have b4 : (y * y + (u + 1) * 17) % 2147483647 < 2147483647 := Int.emod_lt_of_pos _ (by omega)
    obtain ⟨z, hz⟩ : ∃ z, z = (y * y + (u + 1) * 17) % 2147483647 := ⟨_, rfl⟩
    rw [← hz] at b3 b4
    have ez : (fun i j => V.int (i % j)) (y * y + (u + 1) * 17) 2147483647 = V.int z := by rw [hz]
    rw [ez]
    -- source['mixed'] = mixed
    obtain ⟨H2, p2, S2, k2⟩ := S1.setMixed z
    refine ⟨_, rfl, _, rfl, p, H2, rfl, p2, ?_⟩
    -- return int(mixed // 16) % many
    refine ⟨_, rfl, z, 16, rfl, rfl, ⟨by omega, by omega⟩, .inl ⟨_, rfl, _, rfl, _, n, rfl, rfl, by omega, ?_⟩⟩
    exact q H2 _ _ _ _ S2 hl (by omega) (by omega) (fun b x y => by rw [k2 b x y, k1 b x y]) (Int.emod_nonneg _ (by omega)) (by have := Int.emod_lt_of_pos (z / 16) (show 0 < n by omega); omega)
  all_goals
    -- source['left'] = left // max(1, many)
    obtain ⟨H1, p1, S1, k1⟩ := S.setLeft (l / max 1 n)
    refine ⟨_, rfl, _, rfl, 1, n, rfl, ?_⟩
    rw [mx]
    refine ⟨l, max 1 n, rfl, rfl, ⟨h3, log62 h3 (by omega)⟩, _, rfl, p, H1, rfl, p1, ?_⟩
    -- return int(left) % max(1, many)
    refine ⟨_, rfl, .inl ⟨l, rfl, _, rfl, 1, n, rfl, ?_⟩⟩
    rw [mx]
    exact ⟨l, max 1 n, rfl, rfl, h3, q H1 _ _ _ _ S1 (Int.ediv_nonneg hl (by omega)) hm hu0 k1 (Int.emod_nonneg _ (by omega)) (Int.emod_lt_of_pos _ h3)⟩
theorem ok_pick {f : Addr} {fd : FuncData} {k : Nat} (F : Fun K "_law_pick" "_law_pick" (topS 22) f fd) (ml : mg "len" = none) (mi : mg "int" = none) (mm : mg "max" = none) : FnG P w K mg base CX0 (k + 1) f fd ["source", "many"] spPick := by
  refine Fun.okG F scPick (fun vs H Q E h => ?_) (fun cdv A outer s H vs Q E hg hr h => ?_)
  · obtain ⟨p, c, n, e, _⟩ := h; rw [e]; rfl
  · obtain ⟨p, c, n, rfl, hs, hne, hn, q⟩ := h
    have hu := hu_of hr
    obtain ⟨t2, tl, rd⟩ := pick_tail (P := P) (w := w) (K := K) (mg := mg) (base := base) ⟨f, cdv, A, outer, s, H, E, rfl⟩ hr mi mm
    refine ⟨_, PSs.nox (pss_cons (ps_while PassesOwn.never (pw_and (pt_cmpR op_gt (pv 1) pe_int (nomark _)) (pw_and (pt_cmpR op_lt (pe_dget hu (pv 0) pe_str (by intro _ _; rfl)) pe_int (nomark _)) (pw_and1 (pt_cmpR op_gt (pe_callB call_len_seq (by rfl) ml PySem.boot_len (pa_cons (pe_dget hu (pv 0) pe_str (by intro _ _; rfl)) pa_nil)) pe_int (nomark _))))).pt
        (pss_one (ps_dput hu (pv 0) pe_str (pe_bm0 PySem.F.plainAttrs_list PySem.F.slot_list_pop PySem.F.type_list_pop mt_pop (pe_dget hu (pv 0) pe_str (by intro _ _; rfl))) (by rfl)))) tl), ?_⟩
    obtain ⟨cs0, l0, m0, u0, hl0, hd0, hc0, hcs0, hm0, hu0, hlen0⟩ := hs
    have S0 : SrcV H p c cs0 l0 m0 u0 := ⟨hd0, hc0, hne⟩
    refine ⟨fun k σ H' => σ = L2.start ["source", "many", "left", "mixed"] [.ref p, .int n] ∧ ∃ cs l m u, SrcV H' p c cs l m u ∧ 0 ≤ l ∧ (∀ x ∈ cs, 0 ≤ x) ∧ m.natAbs < 2 ^ 100 ∧ 0 ≤ u ∧ cs.length ≤ 63 ∧ (∀ b, b ≠ p → b ≠ c → H' b = H b) ∧ k = cs.length,
      ⟨cs0.length, rfl, cs0, l0, m0, u0, S0, hl0, hcs0, hm0, hu0, hlen0, fun _ _ _ => rfl, rfl⟩, ?_⟩
    rintro k σ H1 ⟨rfl, cs, l, m, u, S, hl, hcs, hm, hup, hlen, hold, rfl⟩
    have on_ := rd ⟨fun _ H' => Q .non H', Q, fun _ _ => False, fun _ _ => False⟩ H1 p c n cs l m u S hl hm hup hn fun H' l' m' u' i S' h1 h2 h3 h4 h5 h6 => q H' i h5 h6 ⟨cs, l', m', u', h1, S'.d, S'.l, hcs, h2, h3, hlen⟩ fun b x y => by rw [h4 b x y, hold b x y]
    have hd : ¬ 1 < n ∨ (1 < n ∧ ¬ l < 2) ∨ (1 < n ∧ l < 2 ∧ ¬ 0 < (cs.length : Int)) ∨ (1 < n ∧ l < 2 ∧ 0 < (cs.length : Int)) := by omega
    have lm : (cs.map V.int).length = cs.length := List.length_map _
    rcases hd with h | ⟨h, h2⟩ | ⟨h, h2, h3⟩ | ⟨h, h2, h3⟩
    · exact ⟨_, rfl, n, 1, rfl, rfl, _, rfl, ifF (ifF on_ rfl) (decide_eq_false h)⟩
    · exact ⟨_, rfl, n, 1, rfl, rfl, _, rfl, ifT (⟨_, rfl, p, _, rfl, S.left, l, 2, rfl, rfl, _, rfl, ifF (ifF on_ rfl) (decide_eq_false h2)⟩) (decide_eq_true h)⟩
    · exact ⟨_, rfl, n, 1, rfl, rfl, _, rfl, ifT (⟨_, rfl, p, _, rfl, S.left, l, 2, rfl, rfl, _, rfl, ifT (⟨_, rfl, p, _, rfl, S.cells, c, _, rfl, .inl (SqL.of S.l), _, 0, by rw [lm], rfl, _, rfl, ifF on_ (decide_eq_false h3)⟩) (decide_eq_true h2)⟩) (decide_eq_true h)⟩
    · refine ⟨_, rfl, n, 1, rfl, rfl, _, rfl, ifT (⟨_, rfl, p, _, rfl, S.left, l, 2, rfl, rfl, _, rfl, ifT (⟨_, rfl, p, _, rfl, S.cells, c, _, rfl, .inl (SqL.of S.l), _, 0, by rw [lm], rfl, _, rfl, ifT ?_ (decide_eq_true h3)⟩) (decide_eq_true h2)⟩) (decide_eq_true h)⟩
      have S1 := S.pop
      have hlt : cs.length - 1 < cs.length := by omega
      obtain ⟨H2, p2, S2, k2⟩ := S1.setLeft cs[cs.length - 1]
      refine ⟨fun σ' H' => σ' = L2.start ["source", "many", "left", "mixed"] [.ref p, .int n] ∧ H' = H2, ?_, ?_⟩
      · rintro σ' H' ⟨rfl, rfl⟩
        refine ⟨cs.dropLast.length, by rw [List.length_dropLast]; omega, rfl, cs.dropLast, _, m, u, S2, hcs _ (List.getElem_mem hlt), fun x hx => hcs x (List.dropLast_subset _ hx), hm, hup, by rw [List.length_dropLast]; omega, fun b x y => ?_, rfl⟩
        rw [k2 b x y, upd_ne y, hold b x y]
      · refine ⟨_, rfl, p, _, rfl, S.cells, .inl ⟨rfl, _, SqL.of S.l⟩, c, _, .int cs[cs.length - 1], rfl, rfl, S.l, ?_, _, rfl, p, H2, rfl, ?_, rfl, rfl⟩
        · rw [lm, List.getElem?_map, List.getElem?_eq_getElem hlt]; rfl
        · rw [← List.map_dropLast]; exact p2
end
end DL
set_option Elab.async false
set_option linter.all false
set_option maxRecDepth 100000
set_option maxHeartbeats 1000000
set_option autoImplicit false
namespace DL
open PySem PySem.Spec PyProof.Rows L2
theorem scSource : FnScope ["script", "mixed", "cell"] ["script"] (defScope (topS 21)) := ⟨rfl, rfl, rfl, by decide +kernel, rfl, by decide +kernel, by decide +kernel⟩
section
variable {P : Program} {w : World} {K : PySem.W.Frag} {mg : Str → Option Value} {base : Heap}
theorem ok_source {f : Addr} {fd : FuncData} {k : Nat} (F : Fun K "_law_source" "_law_source" (topS 21) f fd) (mi : mg "int" = none) (ma : mg "abs" = none) : FnG P w K mg base CX0 (k + 1) f fd ["script"] (spSource K) := by
  refine Fun.okG F scSource (fun vs H Q E h => ?_) (fun cdv A outer s H vs Q E hg hr h => ?_)
  · obtain ⟨a, ns, e, _⟩ := h; rw [e]; rfl
  · obtain ⟨a, ns, rfl, hS, hlen, q⟩ := h
    refine ⟨_, PSs.nox (pss_cons (ps_set (i := 1) scSource.nd rfl (.inl rfl) pe_int (by rfl))
      (pss_cons (ps_for PassesOwn.never rfl (pi_list (pv 0)) (pg_name (i := 2) scSource.nd rfl (.inl rfl))
        (pss_one (ps_set (i := 1) scSource.nd rfl (.inl rfl) (pe_op op_mod (pe_callTy call_int1 (by rfl) mi (by decide +kernel) (pa_cons (pe_op op_add (pe_op op_add (pe_op op_mul (pv 1) pe_int) (pe_op op_mul (pv 2) pe_int)) pe_int) pa_nil)) pe_int) (by rfl))) (by intro _; rfl))
      (pss_one (ps_ret (pe_disp (pps_cons pe_str (pe_revL (pe_lc (own := [("cell", 2)]) rfl scSource.nd (pi_list (pv 0)) (blk_ok (by rfl))
          (fun _ _ _ _ _ => pg_name (i := 2) scSource.nd rfl (.inl rfl)) (fun _ _ _ _ _ => pts_nil) (fun _ _ _ _ _ => pe_callB call_abs (by rfl) ma (by decide +kernel) (pa_cons (pv 2) pa_nil)) (by intro _; rfl)))
        (pps_cons pe_str pe_int (pps_cons pe_str (pv 1) (pps_cons pe_str pe_int pps_nil)))) rfl rfl (by simp) (by decide)))))), ?_⟩
    have lm : (ns.map V.int).length = ns.length := List.length_map _
    have at_ : ∀ {i : Nat} (hi : i < ns.length), (ns.map V.int)[i]? = some (.int ns[i]) := fun hi => by rw [List.getElem?_map, List.getElem?_eq_getElem hi]; rfl
    refine ⟨.ref a, rfl, a, rfl, ⟨_, hS⟩, fun i m σ H1 => ∃ x y2, σ = [some (.ref a), some (.int x), y2] ∧ x.natAbs < 2 ^ 100 ∧ i + m = ns.length ∧ H1 = H, ⟨ns.length, 11, none, rfl, by decide, by omega, rfl⟩, fun i m σ H1 hW => ?_⟩
    obtain ⟨x, y2, rfl, hx, em, rfl⟩ := hW
    by_cases hi : i < ns.length
    · refine .inr ⟨⟨_, _, hS, at_ hi⟩, fun σ' H' => ∃ x y2, σ' = [some (.ref a), some (.int x), y2] ∧ x.natAbs < 2 ^ 100 ∧ H' = H1, ?_, fun v H' hy => ?_⟩
      · rintro σ' H' ⟨x', y', e1, e2, e3⟩
        exact ⟨m - 1, by omega, x', y', e1, e2, by omega, e3⟩
      · obtain ⟨rfl, fv⟩ := hy
        have ev : v = .int ns[i] := Option.some.inj ((fv _ hS).symm.trans (at_ hi))
        subst ev
        refine ⟨_, rfl, x, 69069, rfl, rfl, .inr ⟨by omega, by omega⟩, _, rfl, ns[i], 31, rfl, rfl, .inr ⟨by omega, by omega⟩, _, _, rfl, rfl, _, 5, rfl, rfl, .inl ⟨_, rfl, _, 2147483629, rfl, rfl, by omega, ?_⟩⟩
        refine ⟨_, _, rfl, ?_, rfl⟩
        have b1 := Int.emod_nonneg (x * 69069 + ns[i] * 31 + 5) (show (2147483629 : Int) ≠ 0 by omega)
        have b2 := Int.emod_lt_of_pos (x * 69069 + ns[i] * 31 + 5) (show (0 : Int) < 2147483629 by omega)
        omega
    · refine .inl ⟨⟨_, hS, by omega⟩, ?_⟩
      intro p hp
      have s1 : Same H1 (upd H1 p (.dK [])) := same_new hp
      refine ⟨.ref a, rfl, a, rfl, ⟨_, s1.seq hS⟩, fun D hD => ?_⟩
      have hDp : D ≠ p := fun z => by rw [z, upd_same] at hD; cases hD
      have s2 : Same H1 (upd (upd H1 p (.dK [])) D (.lst [])) := s1.trans (same_new hD)
      have hDH : H1 D = none := by rw [upd_ne hDp] at hD; exact hD
      have sK : ∀ o, Same H1 (upd (upd H1 p (.dK [])) D o) := fun o b y e => by
        rw [upd_ne (ne_of_none e hDH), upd_ne (ne_of_none e hp)]; exact e
      let ab : Int → Int := fun x => if x < 0 then -x else x
      refine ⟨fun j m H2 => j + m = ns.length ∧ H2 = upd (upd H1 p (.dK [])) D (.lst (((ns.take j).map ab).map V.int)), ⟨ns.length, by omega, rfl⟩, fun j m H2 hW => ?_⟩
      obtain ⟨ej, rfl⟩ := hW
      by_cases hj : j < ns.length
      · refine .inr ⟨⟨_, _, (sK _).seq hS, at_ hj⟩, fun H' => H' = upd (upd H1 p (.dK [])) D (.lst (((ns.take (j + 1)).map ab).map V.int)), fun H' e => ⟨m - 1, by omega, by omega, e⟩, fun v H' hy => ?_⟩
        obtain ⟨rfl, fv⟩ := hy
        have ev : v = .int ns[j] := Option.some.inj ((fv _ ((sK _).seq hS)).symm.trans (at_ hj))
        subst ev
        refine ⟨rfl, ?_⟩
        unfold tYes
        simp only [if_true]
        refine ⟨_, rfl, ns[j], rfl, _, upd_same, ?_, ?_⟩
        · rw [List.length_map, List.length_map, List.length_take]
          exact small1000 (by omega)
        · rw [upd_upd, List.take_add_one, List.getElem?_eq_getElem hj, Option.toList_some, List.map_append, List.map_append]
          rfl
      · refine .inl ⟨⟨_, (sK _).seq hS, by omega⟩, ?_⟩
        rw [List.take_of_length_le (by omega)]
        refine ⟨D, _, rfl, SqL.of upd_same, fun c hc => ?_⟩
        have hcD : c ≠ D := fun z => by rw [z, upd_same] at hc; cases hc
        rw [upd_ne hcD] at hc
        have hcp : c ≠ p := fun z => by rw [z, upd_same] at hc; cases hc
        rw [upd_ne hcp] at hc
        refine ⟨_, rfl, by rw [upd_ne hcp.symm, upd_ne hDp.symm, upd_same], [(.inr "cells", .ref c), (.inr "left", .int 1), (.inr "mixed", .int x), (.inr "turn", .int 0)], rfl, by simp, ?_⟩
        refine q _ p c (fun b y e => ?_) hp hc ⟨(ns.map ab).reverse, 1, x, 0, by omega, ?_, ?_, fun z hz => ?_, hx, by omega, by rw [List.length_reverse, List.length_map]; exact hlen⟩
        · rw [upd_ne (ne_of_none e hp), upd_ne (ne_of_none e hc), upd_ne (ne_of_none e hDH), upd_ne (ne_of_none e hp)]; exact e
        · rw [upd_same]; rfl
        · rw [upd_ne hcp, upd_same, List.map_reverse]
        · rw [List.mem_reverse, List.mem_map] at hz
          obtain ⟨y, _, e⟩ := hz
          have e' : (if y < 0 then -y else y) = z := e
          split at e' <;> omega
end
end DL
set_option Elab.async false
set_option linter.all false
set_option maxRecDepth 100000
set_option maxHeartbeats 1000000
set_option autoImplicit false
namespace DL
open PySem PySem.Spec PyProof.Rows L2 DZ
section
variable {P : Program} {w : World} {K : PySem.W.Frag} {mg : Str → Option Value} {base : Heap}
/-- what the top has written, def by def -/
structure Dfs90 (K : PySem.W.Frag) (mg : Str → Option Value) : Prop where
  d_all_roads : Dfn K mg "all_roads" (topS 1) ["frame"]
  d_heads_by : Dfn K mg "heads_by" (topS 2) ["frame", "lot"]
  d_pieces_by : Dfn K mg "pieces_by" (topS 3) ["frame", "lot"]
  d_piece_count : Dfn K mg "piece_count" (topS 4) ["frame", "lot"]
  d_is_whole : Dfn K mg "is_whole" (topS 6) ["value"]
  d_is_whole_row : Dfn K mg "is_whole_row" (topS 7) ["many", "value"]
  d_hangs_together : Dfn K mg "hangs_together" (topS 8) ["frame"]
  d_row_product : Dfn K mg "row_product" (topS 9) ["one", "other"]
  d_row_size : Dfn K mg "row_size" (topS 10) ["row"]
  d_roads_of_row : Dfn K mg "roads_of_row" (topS 11) ["row"]
  d_added_rows : Dfn K mg "added_rows" (topS 12) ["many", "pairs"]
  d_brought_by : Dfn K mg "brought_by" (topS 13) ["frame", "row"]
  d_is_ring_row : Dfn K mg "is_ring_row" (topS 14) ["frame", "row"]
  d_cut_row : Dfn K mg "cut_row" (topS 15) ["frame", "heights"]
  d_told_tree : Dfn K mg "told_tree" (topS 16) ["frame"]
  d_heights_along : Dfn K mg "heights_along" (topS 17) ["frame", "tree", "row"]
  d_heights_of_cut : Dfn K mg "heights_of_cut" (topS 18) ["frame", "row"]
  d_is_cut_row : Dfn K mg "is_cut_row" (topS 19) ["frame", "row"]
  d__law_of : Dfn K mg "_law_of" (topS 23) ["source", "some"]
  d__law_mixed : Dfn K mg "_law_mixed" (topS 24) ["source", "things"]
  d__law_number : Dfn K mg "_law_number" (topS 25) ["value"]
  d__law_are_wholes : Dfn K mg "_law_are_wholes" (topS 27) ["value", "many"]
  d__law_hung : Dfn K mg "_law_hung" (topS 28) ["source", "crossings", "roads"]
  d__law_pieces : Dfn K mg "_law_pieces" (topS 29) ["frame", "roads"]
  d__law_drawn_tree : Dfn K mg "_law_drawn_tree" (topS 30) ["source", "frame"]
  d__law_product : Dfn K mg "_law_product" (topS 31) ["one", "other"]
  d__law_rising : Dfn K mg "_law_rising" (topS 32) ["frame", "heights"]
  d__law_brings : Dfn K mg "_law_brings" (topS 33) ["frame", "row"]
  d__law_own_ring : Dfn K mg "_law_own_ring" (topS 34) ["frame", "tree", "road"]
  d__law_outside : Dfn K mg "_law_outside" (topS 35) ["frame", "tree"]
  d__law_added : Dfn K mg "_law_added" (topS 36) ["many", "pairs"]
  d__law_drawn_ring_row : Dfn K mg "_law_drawn_ring_row" (topS 37) ["source", "frame", "far"]
  d__law_drawn_cut_row : Dfn K mg "_law_drawn_cut_row" (topS 38) ["source", "frame", "far"]
  d__law_roads : Dfn K mg "_law_roads" (topS 39) ["row"]
  d__law_is_ring : Dfn K mg "_law_is_ring" (topS 40) ["frame", "row"]
  d__law_heights : Dfn K mg "_law_heights" (topS 41) ["frame", "row"]
  d__law_told_tree : Dfn K mg "_law_told_tree" (topS 42) ["frame"]
  d__law_bent : Dfn K mg "_law_bent" (topS 26) ["source", "value"]
theorem C_all_roads (B : Bl mg) (D : Dfs90 K mg) (CP : Cal P w K mg base "_law_pick" ["source", "many"] 1 sPick) : Cal P w K mg base "all_roads" ["frame"] 2 sAllRoads := cal_of (k := 1) D.d_all_roads S_all_roads moAllRoads (b_all_roads B ) h_all_roads
theorem C_heads_by (B : Bl mg) (D : Dfs90 K mg) (CP : Cal P w K mg base "_law_pick" ["source", "many"] 1 sPick) : Cal P w K mg base "heads_by" ["frame", "lot"] 2 sHeadsBy := cal_of (k := 1) D.d_heads_by S_heads_by moHeadsBy (b_heads_by B ) h_heads_by
theorem C_is_whole (B : Bl mg) (D : Dfs90 K mg) (CP : Cal P w K mg base "_law_pick" ["source", "many"] 1 sPick) : Cal P w K mg base "is_whole" ["value"] 2 sIsWhole := cal_of (k := 1) D.d_is_whole S_is_whole moIsWhole (b_is_whole B ) h_is_whole
theorem C_row_product (B : Bl mg) (D : Dfs90 K mg) (CP : Cal P w K mg base "_law_pick" ["source", "many"] 1 sPick) : Cal P w K mg base "row_product" ["one", "other"] 2 sProduct := cal_of (k := 1) D.d_row_product S_row_product moProduct (b_row_product B ) h_row_product
theorem C_row_size (B : Bl mg) (D : Dfs90 K mg) (CP : Cal P w K mg base "_law_pick" ["source", "many"] 1 sPick) : Cal P w K mg base "row_size" ["row"] 2 sRowSize := cal_of (k := 1) D.d_row_size S_row_size moRowSize (b_row_size B ) h_row_size
theorem C_roads_of_row (B : Bl mg) (D : Dfs90 K mg) (CP : Cal P w K mg base "_law_pick" ["source", "many"] 1 sPick) : Cal P w K mg base "roads_of_row" ["row"] 2 sRoads := cal_of (k := 1) D.d_roads_of_row S_roads_of_row moRoads (b_roads_of_row B ) h_roads_of_row
theorem C_added_rows (B : Bl mg) (D : Dfs90 K mg) (CP : Cal P w K mg base "_law_pick" ["source", "many"] 1 sPick) : Cal P w K mg base "added_rows" ["many", "pairs"] 2 sAdded := cal_of (k := 1) D.d_added_rows S_added_rows moAdded (b_added_rows B ) h_added_rows
theorem C_brought_by (B : Bl mg) (D : Dfs90 K mg) (CP : Cal P w K mg base "_law_pick" ["source", "many"] 1 sPick) : Cal P w K mg base "brought_by" ["frame", "row"] 2 sBrought := cal_of (k := 1) D.d_brought_by S_brought_by moBrought (b_brought_by B ) h_brought_by
theorem C_cut_row (B : Bl mg) (D : Dfs90 K mg) (CP : Cal P w K mg base "_law_pick" ["source", "many"] 1 sPick) : Cal P w K mg base "cut_row" ["frame", "heights"] 2 sCut := cal_of (k := 1) D.d_cut_row S_cut_row moCut (b_cut_row B ) h_cut_row
theorem C_told_tree (B : Bl mg) (D : Dfs90 K mg) (CP : Cal P w K mg base "_law_pick" ["source", "many"] 1 sPick) : Cal P w K mg base "told_tree" ["frame"] 2 sTold := cal_of (k := 1) D.d_told_tree S_told_tree moTold (b_told_tree B ) h_told_tree
theorem C_heights_along (B : Bl mg) (D : Dfs90 K mg) (CP : Cal P w K mg base "_law_pick" ["source", "many"] 1 sPick) : Cal P w K mg base "heights_along" ["frame", "tree", "row"] 2 sAlong := cal_of (k := 1) D.d_heights_along S_heights_along moAlong (b_heights_along B ) h_heights_along
theorem C__law_number (B : Bl mg) (D : Dfs90 K mg) (CP : Cal P w K mg base "_law_pick" ["source", "many"] 1 sPick) : Cal P w K mg base "_law_number" ["value"] 2 sIsWhole := cal_of (k := 1) D.d__law_number S__law_number moIsWhole (b__law_number B ) h_number
theorem C__law_pieces (B : Bl mg) (D : Dfs90 K mg) (CP : Cal P w K mg base "_law_pick" ["source", "many"] 1 sPick) : Cal P w K mg base "_law_pieces" ["frame", "roads"] 2 sHeadsBy := cal_of (k := 1) D.d__law_pieces S__law_pieces moHeadsBy (b__law_pieces B ) h_law_pieces
theorem C__law_product (B : Bl mg) (D : Dfs90 K mg) (CP : Cal P w K mg base "_law_pick" ["source", "many"] 1 sPick) : Cal P w K mg base "_law_product" ["one", "other"] 2 sProduct := cal_of (k := 1) D.d__law_product S__law_product moProduct (b__law_product B ) h_law_product
theorem C__law_rising (B : Bl mg) (D : Dfs90 K mg) (CP : Cal P w K mg base "_law_pick" ["source", "many"] 1 sPick) : Cal P w K mg base "_law_rising" ["frame", "heights"] 2 sCut := cal_of (k := 1) D.d__law_rising S__law_rising moCut (b__law_rising B ) h_law_rising
theorem C__law_brings (B : Bl mg) (D : Dfs90 K mg) (CP : Cal P w K mg base "_law_pick" ["source", "many"] 1 sPick) : Cal P w K mg base "_law_brings" ["frame", "row"] 2 sBrought := cal_of (k := 1) D.d__law_brings S__law_brings moBrought (b__law_brings B ) h_law_brings
theorem C__law_own_ring (B : Bl mg) (D : Dfs90 K mg) (CP : Cal P w K mg base "_law_pick" ["source", "many"] 1 sPick) : Cal P w K mg base "_law_own_ring" ["frame", "tree", "road"] 2 sOwnRing := cal_of (k := 1) D.d__law_own_ring S__law_own_ring moOwnRing (b__law_own_ring B ) h_law_own_ring
theorem C__law_outside (B : Bl mg) (D : Dfs90 K mg) (CP : Cal P w K mg base "_law_pick" ["source", "many"] 1 sPick) : Cal P w K mg base "_law_outside" ["frame", "tree"] 2 sOutside := cal_of (k := 1) D.d__law_outside S__law_outside moOutside (b__law_outside B ) h_law_outside
theorem C__law_added (B : Bl mg) (D : Dfs90 K mg) (CP : Cal P w K mg base "_law_pick" ["source", "many"] 1 sPick) : Cal P w K mg base "_law_added" ["many", "pairs"] 2 sAdded := cal_of (k := 1) D.d__law_added S__law_added moAdded (b__law_added B ) h_law_added
theorem C__law_roads (B : Bl mg) (D : Dfs90 K mg) (CP : Cal P w K mg base "_law_pick" ["source", "many"] 1 sPick) : Cal P w K mg base "_law_roads" ["row"] 2 sRoads := cal_of (k := 1) D.d__law_roads S__law_roads moRoads (b__law_roads B ) h_law_roads
theorem C_pieces_by (B : Bl mg) (D : Dfs90 K mg) (CP : Cal P w K mg base "_law_pick" ["source", "many"] 1 sPick) : Cal P w K mg base "pieces_by" ["frame", "lot"] 3 sPiecesBy := cal_of (k := 2) D.d_pieces_by S_pieces_by moPiecesBy (b_pieces_by B ((C_heads_by B D CP).up (by omega))) h_pieces_by
theorem C_is_whole_row (B : Bl mg) (D : Dfs90 K mg) (CP : Cal P w K mg base "_law_pick" ["source", "many"] 1 sPick) : Cal P w K mg base "is_whole_row" ["many", "value"] 3 (sWholeRow false) := cal_of (k := 2) D.d_is_whole_row S_is_whole_row (moWholeRow false) (b_is_whole_row B ((C_is_whole B D CP).up (by omega))) h_is_whole_row
theorem C_is_ring_row (B : Bl mg) (D : Dfs90 K mg) (CP : Cal P w K mg base "_law_pick" ["source", "many"] 1 sPick) : Cal P w K mg base "is_ring_row" ["frame", "row"] 3 sIsRing := cal_of (k := 2) D.d_is_ring_row S_is_ring_row moIsRing (b_is_ring_row B ((C_brought_by B D CP).up (by omega))) h_is_ring_row
theorem C_heights_of_cut (B : Bl mg) (D : Dfs90 K mg) (CP : Cal P w K mg base "_law_pick" ["source", "many"] 1 sPick) : Cal P w K mg base "heights_of_cut" ["frame", "row"] 3 sHeights := cal_of (k := 2) D.d_heights_of_cut S_heights_of_cut moHeights (b_heights_of_cut B ((C_heights_along B D CP).up (by omega)) ((C_told_tree B D CP).up (by omega)) ((C_cut_row B D CP).up (by omega))) h_heights_of_cut
theorem C__law_of (B : Bl mg) (D : Dfs90 K mg) (CP : Cal P w K mg base "_law_pick" ["source", "many"] 1 sPick) : Cal P w K mg base "_law_of" ["source", "some"] 3 sOf := cal_of (k := 2) D.d__law_of S__law_of moOf (b__law_of B (CP.up (by omega))) h_law_of
theorem C__law_mixed (B : Bl mg) (D : Dfs90 K mg) (CP : Cal P w K mg base "_law_pick" ["source", "many"] 1 sPick) : Cal P w K mg base "_law_mixed" ["source", "things"] 3 sMixed := cal_of (k := 2) D.d__law_mixed S__law_mixed moMixed (b__law_mixed B (CP.up (by omega))) h_law_mixed
theorem C__law_are_wholes (B : Bl mg) (D : Dfs90 K mg) (CP : Cal P w K mg base "_law_pick" ["source", "many"] 1 sPick) : Cal P w K mg base "_law_are_wholes" ["value", "many"] 3 (sWholeRow true) := cal_of (k := 2) D.d__law_are_wholes S__law_are_wholes (moWholeRow true) (b__law_are_wholes B ((C__law_number B D CP).up (by omega))) h_are_wholes
theorem C__law_drawn_cut_row (B : Bl mg) (D : Dfs90 K mg) (CP : Cal P w K mg base "_law_pick" ["source", "many"] 1 sPick) : Cal P w K mg base "_law_drawn_cut_row" ["source", "frame", "far"] 3 sDrawnCut := cal_of (k := 2) D.d__law_drawn_cut_row S__law_drawn_cut_row moDrawnCut (b__law_drawn_cut_row B ((C__law_rising B D CP).up (by omega)) (CP.up (by omega))) h_law_drawn_cut_row
theorem C__law_is_ring (B : Bl mg) (D : Dfs90 K mg) (CP : Cal P w K mg base "_law_pick" ["source", "many"] 1 sPick) : Cal P w K mg base "_law_is_ring" ["frame", "row"] 3 sIsRing := cal_of (k := 2) D.d__law_is_ring S__law_is_ring moIsRing (b__law_is_ring B ((C__law_brings B D CP).up (by omega))) h_law_is_ring
theorem C__law_heights (B : Bl mg) (D : Dfs90 K mg) (CP : Cal P w K mg base "_law_pick" ["source", "many"] 1 sPick) : Cal P w K mg base "_law_heights" ["frame", "row"] 3 sHeights := cal_of (k := 2) D.d__law_heights S__law_heights moHeights (b__law_heights B ((C__law_rising B D CP).up (by omega))) h_law_heights
theorem C__law_told_tree (B : Bl mg) (D : Dfs90 K mg) (CP : Cal P w K mg base "_law_pick" ["source", "many"] 1 sPick) : Cal P w K mg base "_law_told_tree" ["frame"] 3 sTold := cal_of (k := 2) D.d__law_told_tree S__law_told_tree moTold (b__law_told_tree B ((C__law_pieces B D CP).up (by omega))) h_law_told_tree
theorem C_piece_count (B : Bl mg) (D : Dfs90 K mg) (CP : Cal P w K mg base "_law_pick" ["source", "many"] 1 sPick) : Cal P w K mg base "piece_count" ["frame", "lot"] 4 sPieceCount := cal_of (k := 3) D.d_piece_count S_piece_count moPieceCount (b_piece_count B ((C_pieces_by B D CP).up (by omega))) h_piece_count
theorem C_is_cut_row (B : Bl mg) (D : Dfs90 K mg) (CP : Cal P w K mg base "_law_pick" ["source", "many"] 1 sPick) : Cal P w K mg base "is_cut_row" ["frame", "row"] 4 sIsCut := cal_of (k := 3) D.d_is_cut_row S_is_cut_row moIsCut (b_is_cut_row B ((C_heights_of_cut B D CP).up (by omega))) h_is_cut_row
theorem C__law_hung (B : Bl mg) (D : Dfs90 K mg) (CP : Cal P w K mg base "_law_pick" ["source", "many"] 1 sPick) : Cal P w K mg base "_law_hung" ["source", "crossings", "roads"] 4 sHung := cal_of (k := 3) D.d__law_hung S__law_hung moHung (b__law_hung B (CP.up (by omega)) ((C__law_mixed B D CP).up (by omega))) h_law_hung
theorem C__law_drawn_tree (B : Bl mg) (D : Dfs90 K mg) (CP : Cal P w K mg base "_law_pick" ["source", "many"] 1 sPick) : Cal P w K mg base "_law_drawn_tree" ["source", "frame"] 4 sDrawnTree := cal_of (k := 3) D.d__law_drawn_tree S__law_drawn_tree moDrawnTree (b__law_drawn_tree B ((C__law_mixed B D CP).up (by omega)) ((C__law_pieces B D CP).up (by omega))) h_law_drawn_tree
theorem C_hangs_together (B : Bl mg) (D : Dfs90 K mg) (CP : Cal P w K mg base "_law_pick" ["source", "many"] 1 sPick) : Cal P w K mg base "hangs_together" ["frame"] 5 sHangs := cal_of (k := 4) D.d_hangs_together S_hangs_together moHangs (b_hangs_together B ((C_piece_count B D CP).up (by omega)) ((C_all_roads B D CP).up (by omega))) h_hangs
theorem C__law_drawn_ring_row (B : Bl mg) (D : Dfs90 K mg) (CP : Cal P w K mg base "_law_pick" ["source", "many"] 1 sPick) : Cal P w K mg base "_law_drawn_ring_row" ["source", "frame", "far"] 5 sDrawnRing := cal_of (k := 4) D.d__law_drawn_ring_row S__law_drawn_ring_row moDrawnRing (b__law_drawn_ring_row B ((C__law_drawn_tree B D CP).up (by omega)) ((C__law_outside B D CP).up (by omega)) (CP.up (by omega)) ((C__law_own_ring B D CP).up (by omega)) ((C__law_added B D CP).up (by omega))) h_law_drawn_ring_row
theorem C_bentF (B : Bl mg) (D : Dfs90 K mg) (CP : Cal P w K mg base "_law_pick" ["source", "many"] 1 sPick) : Cal P w K mg base "_law_bent" ["source", "value"] 5 sFalse := by
  obtain ⟨f, fd, F, hm, hb⟩ := D.d__law_bent
  refine ⟨moFalse, f, fd, ⟨fun vs H Q E h => h.1, ?_⟩, hm, F.kp, hb⟩
  intros
  rename_i q
  obtain ⟨_, _, _, _, _, _, _, q⟩ := q
  exact False.elim q
theorem C_bent0 (B : Bl mg) (D : Dfs90 K mg) (CP : Cal P w K mg base "_law_pick" ["source", "many"] 1 sPick) : Cal P w K mg base "_law_bent" ["source", "value"] 7 sBent0 := cal_of (k := 6) D.d__law_bent S__law_bent moBent0 (b__law_bent B (CP.up (by omega)) ((C__law_of B D CP).up (by omega)) ((C__law_number B D CP).up (by omega)) ((C_bentF B D CP).up (by omega))) h_bent0
theorem C__law_bent (B : Bl mg) (D : Dfs90 K mg) (CP : Cal P w K mg base "_law_pick" ["source", "many"] 1 sPick) : Cal P w K mg base "_law_bent" ["source", "value"] 8 sBent1 := cal_of (k := 7) D.d__law_bent S__law_bent moBent1 (b__law_bent B (CP.up (by omega)) ((C__law_of B D CP).up (by omega)) ((C__law_number B D CP).up (by omega)) ((C_bent0 B D CP).up (by omega))) h_bent1
end
end DL
set_option Elab.async false
set_option linter.all false
set_option maxRecDepth 100000
set_option maxHeartbeats 1000000
set_option autoImplicit false
namespace DL
open PySem PySem.Spec PyProof.Rows L2 DZ
section
variable {P : Program} {w : World} {K : PySem.W.Frag} {mg : Str → Option Value} {base : Heap}
theorem law_top {f : Addr} {fd : FuncData} (B : Bl mg) (D : Dfs90 K mg) (DP : Dfn K mg "_law_pick" (topS 22) ["source", "many"]) (DS : Dfn K mg "_law_source" (topS 21) ["script"]) (F : Fun K "law" "law" (topS 43) f fd) : FnG P w K mg base CX0 21 f fd ["script"] (spLaw K) := by
  have CP : Cal P w K mg base "_law_pick" ["source", "many"] 1 sPick := cal_pick DP fun f fd F => ok_pick F B.len_ B.int_ B.max_
  have CS : CalS P w K mg base 1 := by
    obtain ⟨g, gd, G, hm, hb⟩ := DS
    exact ⟨g, gd, ok_source G B.int_ B.abs_, hm, G.kp, hb⟩
  refine law_ok (k := 20) (N := ["script", "source", "lap", "frame", "far", "n", "m", "kept", "r", "some", "wide", "ring", "cut", "a", "late", "row", "heights", "due", "c", "told", "pairs", "tree", "along", "odd", "values", "value", "turn", "shown", "apart"]) F S_law CS (by omega) (by decide) ?_ (fun X ⟨cdv, A, around, sh, H, E, e⟩ hg hr => b_law B ((C__law_hung B D CP).up (by omega)) ((C__law_of B D CP).up (by omega)) (CP.up (by omega)) ((C__law_drawn_ring_row B D CP).up (by omega)) ((C__law_drawn_cut_row B D CP).up (by omega)) ((C__law_heights B D CP).up (by omega)) ((C__law_brings B D CP).up (by omega)) ((C__law_is_ring B D CP).up (by omega)) ((C_brought_by B D CP).up (by omega)) ((C_is_ring_row B D CP).up (by omega)) ((C_heights_of_cut B D CP).up (by omega)) ((C_is_cut_row B D CP).up (by omega)) ((C_row_size B D CP).up (by omega)) ((C_roads_of_row B D CP).up (by omega)) ((C__law_product B D CP).up (by omega)) ((C__law_roads B D CP).up (by omega)) ((C_row_product B D CP).up (by omega)) ((C_cut_row B D CP).up (by omega)) ((C__law_rising B D CP).up (by omega)) ((C_added_rows B D CP).up (by omega)) ((C__law_added B D CP).up (by omega)) ((C__law_drawn_tree B D CP).up (by omega)) ((C_heights_along B D CP).up (by omega)) ((C_told_tree B D CP).up (by omega)) ((C__law_told_tree B D CP).up (by omega)) ((C__law_are_wholes B D CP).up (by omega)) ((C__law_bent B D CP).up (by omega)) ((C_is_whole_row B D CP).up (by omega)) ((C_hangs_together B D CP).up (by omega)) X ⟨f, cdv, A, around, sh, H, E, e⟩ hg hr) (h_law (x0 := none))
  rintro X g gd ⟨cdv, A, around, sh, H, E, rfl⟩ hg hr G hm hk hb t2 h2
  have S := S_law
  exact pss_conv (pss_cons (ps_set S.nd (i := 1) rfl (by first | exact .inl rfl | exact .inr rfl) (pe_callG G hg hr (by rfl) hm hk hb (pa_cons (pv 0) pa_nil))) h2) fun D σ H ⟨v, hv, q⟩ => ⟨v, hv, q⟩
end
end DL
set_option Elab.async false
set_option linter.all false
set_option maxRecDepth 100000
set_option maxHeartbeats 1000000
set_option autoImplicit false
namespace DL
open PySem PySem.Spec PyProof.Rows L2 DZ
theorem dfn_mk {K : PySem.W.Frag} {h : Heap} {mg : Str → Option Value} {x : Str} {st : Stmt} {ps : List Str} {f : Addr} {od an : Option Addr} {sl : Array (Option Value)} {oc kV dc pm cd ct : Value} (X : K.In h) (G : h.Ns mainGlobals mg)
    (a : PySem.W.nsIn K mainGlobals x = some (some (.ref f))) (l : K.lookup f = some ⟨oc, od, .func (PySem.W.fnOf x x (defArgs st) (defBody st) (defScope st) .none kV dc pm an cd ct), sl⟩) (c : PySem.W.codeIn K cd x = true) (k : PySem.W.keepIn K (.ref f) = true)
    (b : ∀ (kV doc pm : Value) (an : Option Addr) (cdv ct : Value) (us : List Value), us.length = ps.length → bindArgs (PySem.W.fnOf x x (defArgs st) (defBody st) (defScope st) .none kV doc pm an cdv ct) ⟨us, []⟩ = pure (ps.zip us)) : Dfn K mg x st ps :=
  ⟨f, _, fun_mk l c k, PySem.W.mg_of X G a, (fun_mk l c k).binds b⟩
end DL
open PySem PySem.W PyProof.Rows
set_option Elab.async false
set_option linter.all false
set_option maxRecDepth 100000
theorem DL.law_mk {K : PySem.W.Frag} {h : Heap} {mg : Str → Option Value} {l : PySem.W.OpenLaw} {w : World} {fa f : Addr} {od an : Option Addr} {sl : Array (Option Value)} {oc kV dc pm cd ct : Value} (X : K.In h) (G : h.Ns mainGlobals mg) (hfa : mg "law" = some (.ref fa))
    (B : DL.Bl mg) (D : DL.Dfs90 K mg) (DP : DL.Dfn K mg "_law_pick" (DL.topS 22) ["source", "many"]) (DS : DL.Dfn K mg "_law_source" (DL.topS 21) ["script"])
    (a : PySem.W.nsIn K mainGlobals "law" = some (some (.ref f))) (lk : K.lookup f = some ⟨oc, od, .func (PySem.W.fnOf "law" "law" (L2.defArgs (DL.topS 43)) (L2.defBody (DL.topS 43)) (L2.defScope (DL.topS 43)) .none kV dc pm an cd ct), sl⟩) (c : PySem.W.codeIn K cd "law" = true) (k : PySem.W.keepIn K (.ref f) = true) :
    ∃ fd : FuncData, (∀ (s : Shared) (v : Value), BindsTo s fd ⟨[v], []⟩ [("script", v)]) ∧ ∀ base : Heap, K.In base → base.Ns mainGlobals mg → DL.FnG l.prog w K mg base L2.CX0 21 fa fd ["script"] (DL.spLaw K) := by
  have e := hfa.symm.trans (PySem.W.mg_of X G a)
  cases e
  exact ⟨PySem.W.fnOf "law" "law" (L2.defArgs (DL.topS 43)) (L2.defBody (DL.topS 43)) (L2.defScope (DL.topS 43)) .none kV dc pm an cd ct, fun s v => .of_eq rfl, fun base _ _ => DL.law_top B D DP DS (L2.fun_mk lk c k)⟩
set_option maxHeartbeats 0 in
set_option pp.maxSteps 300 in
set_option pp.deepTerms false in
theorem PySem.Challenge.cw_shelledlots_k90_whole_rows_and_right_ang_holds : PySem.Challenge.rw_shelledlots_k90_whole_rows_and_right_ang.Holds := by
  w_on; o_law; k_head; (case hw => w_witness2)
  k_fill
  refine DL.walk_ofG (l := PySem.Challenge.rw_shelledlots_k90_whole_rows_and_right_ang) (n := 63) (k := 21) (x := "script") (sp := fun K => DL.spLaw K) rfl (by decide) rfl ⟨rfl, by decide, by decide⟩ (fun w h Y => PySem.W.kIn_of Y) ?F (fun _ _ a ns hl hS => ⟨a, ns, rfl, hS, hl, fun _ => rfl⟩)
  case F =>
    intro w mg fa h KX G hmg
    have n_range : mg "range" = none := PySem.W.mg_none_of KX G (by k_is)
    have n_len : mg "len" = none := PySem.W.mg_none_of KX G (by k_is)
    have n_tuple : mg "tuple" = none := PySem.W.mg_none_of KX G (by k_is)
    have n_list : mg "list" = none := PySem.W.mg_none_of KX G (by k_is)
    have n_int : mg "int" = none := PySem.W.mg_none_of KX G (by k_is)
    have n_abs : mg "abs" = none := PySem.W.mg_none_of KX G (by k_is)
    have n_max : mg "max" = none := PySem.W.mg_none_of KX G (by k_is)
    have n_min : mg "min" = none := PySem.W.mg_none_of KX G (by k_is)
    have n_sum : mg "sum" = none := PySem.W.mg_none_of KX G (by k_is)
    have n_all : mg "all" = none := PySem.W.mg_none_of KX G (by k_is)
    have n_sorted : mg "sorted" = none := PySem.W.mg_none_of KX G (by k_is)
    have n_isinstance : mg "isinstance" = none := PySem.W.mg_none_of KX G (by k_is)
    have n_zip : mg "zip" = none := PySem.W.mg_none_of KX G (by k_is)
    have n_enumerate : mg "enumerate" = none := PySem.W.mg_none_of KX G (by k_is)
    have n_repr : mg "repr" = none := PySem.W.mg_none_of KX G (by k_is)
    have n_dict : mg "dict" = none := PySem.W.mg_none_of KX G (by k_is)
    have n_bool : mg "bool" = none := PySem.W.mg_none_of KX G (by k_is)
    have n_str : mg "str" = none := PySem.W.mg_none_of KX G (by k_is)
    have d_all_roads : DL.Dfn (L2.KOf KX) mg "all_roads" (DL.topS 1) ["frame"] := by
      delta L2.KOf; refine' DL.dfn_mk KX G ?a ?l ?c ?k (fun _ _ _ _ _ _ us hl => match us, hl with | [_], _ => rfl)
      (case a => k_is); (case l => k_is); (case c => k_is); (case k => k_is)
    have d_heads_by : DL.Dfn (L2.KOf KX) mg "heads_by" (DL.topS 2) ["frame", "lot"] := by
      delta L2.KOf; refine' DL.dfn_mk KX G ?a ?l ?c ?k (fun _ _ _ _ _ _ us hl => match us, hl with | [_, _], _ => rfl)
      (case a => k_is); (case l => k_is); (case c => k_is); (case k => k_is)
    have d_pieces_by : DL.Dfn (L2.KOf KX) mg "pieces_by" (DL.topS 3) ["frame", "lot"] := by
      delta L2.KOf; refine' DL.dfn_mk KX G ?a ?l ?c ?k (fun _ _ _ _ _ _ us hl => match us, hl with | [_, _], _ => rfl)
      (case a => k_is); (case l => k_is); (case c => k_is); (case k => k_is)
    have d_piece_count : DL.Dfn (L2.KOf KX) mg "piece_count" (DL.topS 4) ["frame", "lot"] := by
      delta L2.KOf; refine' DL.dfn_mk KX G ?a ?l ?c ?k (fun _ _ _ _ _ _ us hl => match us, hl with | [_, _], _ => rfl)
      (case a => k_is); (case l => k_is); (case c => k_is); (case k => k_is)
    have d_is_whole : DL.Dfn (L2.KOf KX) mg "is_whole" (DL.topS 6) ["value"] := by
      delta L2.KOf; refine' DL.dfn_mk KX G ?a ?l ?c ?k (fun _ _ _ _ _ _ us hl => match us, hl with | [_], _ => rfl)
      (case a => k_is); (case l => k_is); (case c => k_is); (case k => k_is)
    have d_is_whole_row : DL.Dfn (L2.KOf KX) mg "is_whole_row" (DL.topS 7) ["many", "value"] := by
      delta L2.KOf; refine' DL.dfn_mk KX G ?a ?l ?c ?k (fun _ _ _ _ _ _ us hl => match us, hl with | [_, _], _ => rfl)
      (case a => k_is); (case l => k_is); (case c => k_is); (case k => k_is)
    have d_hangs_together : DL.Dfn (L2.KOf KX) mg "hangs_together" (DL.topS 8) ["frame"] := by
      delta L2.KOf; refine' DL.dfn_mk KX G ?a ?l ?c ?k (fun _ _ _ _ _ _ us hl => match us, hl with | [_], _ => rfl)
      (case a => k_is); (case l => k_is); (case c => k_is); (case k => k_is)
    have d_row_product : DL.Dfn (L2.KOf KX) mg "row_product" (DL.topS 9) ["one", "other"] := by
      delta L2.KOf; refine' DL.dfn_mk KX G ?a ?l ?c ?k (fun _ _ _ _ _ _ us hl => match us, hl with | [_, _], _ => rfl)
      (case a => k_is); (case l => k_is); (case c => k_is); (case k => k_is)
    have d_row_size : DL.Dfn (L2.KOf KX) mg "row_size" (DL.topS 10) ["row"] := by
      delta L2.KOf; refine' DL.dfn_mk KX G ?a ?l ?c ?k (fun _ _ _ _ _ _ us hl => match us, hl with | [_], _ => rfl)
      (case a => k_is); (case l => k_is); (case c => k_is); (case k => k_is)
    have d_roads_of_row : DL.Dfn (L2.KOf KX) mg "roads_of_row" (DL.topS 11) ["row"] := by
      delta L2.KOf; refine' DL.dfn_mk KX G ?a ?l ?c ?k (fun _ _ _ _ _ _ us hl => match us, hl with | [_], _ => rfl)
      (case a => k_is); (case l => k_is); (case c => k_is); (case k => k_is)
    have d_added_rows : DL.Dfn (L2.KOf KX) mg "added_rows" (DL.topS 12) ["many", "pairs"] := by
      delta L2.KOf; refine' DL.dfn_mk KX G ?a ?l ?c ?k (fun _ _ _ _ _ _ us hl => match us, hl with | [_, _], _ => rfl)
      (case a => k_is); (case l => k_is); (case c => k_is); (case k => k_is)
    have d_brought_by : DL.Dfn (L2.KOf KX) mg "brought_by" (DL.topS 13) ["frame", "row"] := by
      delta L2.KOf; refine' DL.dfn_mk KX G ?a ?l ?c ?k (fun _ _ _ _ _ _ us hl => match us, hl with | [_, _], _ => rfl)
      (case a => k_is); (case l => k_is); (case c => k_is); (case k => k_is)
    have d_is_ring_row : DL.Dfn (L2.KOf KX) mg "is_ring_row" (DL.topS 14) ["frame", "row"] := by
      delta L2.KOf; refine' DL.dfn_mk KX G ?a ?l ?c ?k (fun _ _ _ _ _ _ us hl => match us, hl with | [_, _], _ => rfl)
      (case a => k_is); (case l => k_is); (case c => k_is); (case k => k_is)
    have d_cut_row : DL.Dfn (L2.KOf KX) mg "cut_row" (DL.topS 15) ["frame", "heights"] := by
      delta L2.KOf; refine' DL.dfn_mk KX G ?a ?l ?c ?k (fun _ _ _ _ _ _ us hl => match us, hl with | [_, _], _ => rfl)
      (case a => k_is); (case l => k_is); (case c => k_is); (case k => k_is)
    have d_told_tree : DL.Dfn (L2.KOf KX) mg "told_tree" (DL.topS 16) ["frame"] := by
      delta L2.KOf; refine' DL.dfn_mk KX G ?a ?l ?c ?k (fun _ _ _ _ _ _ us hl => match us, hl with | [_], _ => rfl)
      (case a => k_is); (case l => k_is); (case c => k_is); (case k => k_is)
    have d_heights_along : DL.Dfn (L2.KOf KX) mg "heights_along" (DL.topS 17) ["frame", "tree", "row"] := by
      delta L2.KOf; refine' DL.dfn_mk KX G ?a ?l ?c ?k (fun _ _ _ _ _ _ us hl => match us, hl with | [_, _, _], _ => rfl)
      (case a => k_is); (case l => k_is); (case c => k_is); (case k => k_is)
    have d_heights_of_cut : DL.Dfn (L2.KOf KX) mg "heights_of_cut" (DL.topS 18) ["frame", "row"] := by
      delta L2.KOf; refine' DL.dfn_mk KX G ?a ?l ?c ?k (fun _ _ _ _ _ _ us hl => match us, hl with | [_, _], _ => rfl)
      (case a => k_is); (case l => k_is); (case c => k_is); (case k => k_is)
    have d_is_cut_row : DL.Dfn (L2.KOf KX) mg "is_cut_row" (DL.topS 19) ["frame", "row"] := by
      delta L2.KOf; refine' DL.dfn_mk KX G ?a ?l ?c ?k (fun _ _ _ _ _ _ us hl => match us, hl with | [_, _], _ => rfl)
      (case a => k_is); (case l => k_is); (case c => k_is); (case k => k_is)
    have d__law_of : DL.Dfn (L2.KOf KX) mg "_law_of" (DL.topS 23) ["source", "some"] := by
      delta L2.KOf; refine' DL.dfn_mk KX G ?a ?l ?c ?k (fun _ _ _ _ _ _ us hl => match us, hl with | [_, _], _ => rfl)
      (case a => k_is); (case l => k_is); (case c => k_is); (case k => k_is)
    have d__law_mixed : DL.Dfn (L2.KOf KX) mg "_law_mixed" (DL.topS 24) ["source", "things"] := by
      delta L2.KOf; refine' DL.dfn_mk KX G ?a ?l ?c ?k (fun _ _ _ _ _ _ us hl => match us, hl with | [_, _], _ => rfl)
      (case a => k_is); (case l => k_is); (case c => k_is); (case k => k_is)
    have d__law_number : DL.Dfn (L2.KOf KX) mg "_law_number" (DL.topS 25) ["value"] := by
      delta L2.KOf; refine' DL.dfn_mk KX G ?a ?l ?c ?k (fun _ _ _ _ _ _ us hl => match us, hl with | [_], _ => rfl)
      (case a => k_is); (case l => k_is); (case c => k_is); (case k => k_is)
    have d__law_are_wholes : DL.Dfn (L2.KOf KX) mg "_law_are_wholes" (DL.topS 27) ["value", "many"] := by
      delta L2.KOf; refine' DL.dfn_mk KX G ?a ?l ?c ?k (fun _ _ _ _ _ _ us hl => match us, hl with | [_, _], _ => rfl)
      (case a => k_is); (case l => k_is); (case c => k_is); (case k => k_is)
    have d__law_hung : DL.Dfn (L2.KOf KX) mg "_law_hung" (DL.topS 28) ["source", "crossings", "roads"] := by
      delta L2.KOf; refine' DL.dfn_mk KX G ?a ?l ?c ?k (fun _ _ _ _ _ _ us hl => match us, hl with | [_, _, _], _ => rfl)
      (case a => k_is); (case l => k_is); (case c => k_is); (case k => k_is)
    have d__law_pieces : DL.Dfn (L2.KOf KX) mg "_law_pieces" (DL.topS 29) ["frame", "roads"] := by
      delta L2.KOf; refine' DL.dfn_mk KX G ?a ?l ?c ?k (fun _ _ _ _ _ _ us hl => match us, hl with | [_, _], _ => rfl)
      (case a => k_is); (case l => k_is); (case c => k_is); (case k => k_is)
    have d__law_drawn_tree : DL.Dfn (L2.KOf KX) mg "_law_drawn_tree" (DL.topS 30) ["source", "frame"] := by
      delta L2.KOf; refine' DL.dfn_mk KX G ?a ?l ?c ?k (fun _ _ _ _ _ _ us hl => match us, hl with | [_, _], _ => rfl)
      (case a => k_is); (case l => k_is); (case c => k_is); (case k => k_is)
    have d__law_product : DL.Dfn (L2.KOf KX) mg "_law_product" (DL.topS 31) ["one", "other"] := by
      delta L2.KOf; refine' DL.dfn_mk KX G ?a ?l ?c ?k (fun _ _ _ _ _ _ us hl => match us, hl with | [_, _], _ => rfl)
      (case a => k_is); (case l => k_is); (case c => k_is); (case k => k_is)
    have d__law_rising : DL.Dfn (L2.KOf KX) mg "_law_rising" (DL.topS 32) ["frame", "heights"] := by
      delta L2.KOf; refine' DL.dfn_mk KX G ?a ?l ?c ?k (fun _ _ _ _ _ _ us hl => match us, hl with | [_, _], _ => rfl)
      (case a => k_is); (case l => k_is); (case c => k_is); (case k => k_is)
    have d__law_brings : DL.Dfn (L2.KOf KX) mg "_law_brings" (DL.topS 33) ["frame", "row"] := by
      delta L2.KOf; refine' DL.dfn_mk KX G ?a ?l ?c ?k (fun _ _ _ _ _ _ us hl => match us, hl with | [_, _], _ => rfl)
      (case a => k_is); (case l => k_is); (case c => k_is); (case k => k_is)
    have d__law_own_ring : DL.Dfn (L2.KOf KX) mg "_law_own_ring" (DL.topS 34) ["frame", "tree", "road"] := by
      delta L2.KOf; refine' DL.dfn_mk KX G ?a ?l ?c ?k (fun _ _ _ _ _ _ us hl => match us, hl with | [_, _, _], _ => rfl)
      (case a => k_is); (case l => k_is); (case c => k_is); (case k => k_is)
    have d__law_outside : DL.Dfn (L2.KOf KX) mg "_law_outside" (DL.topS 35) ["frame", "tree"] := by
      delta L2.KOf; refine' DL.dfn_mk KX G ?a ?l ?c ?k (fun _ _ _ _ _ _ us hl => match us, hl with | [_, _], _ => rfl)
      (case a => k_is); (case l => k_is); (case c => k_is); (case k => k_is)
    have d__law_added : DL.Dfn (L2.KOf KX) mg "_law_added" (DL.topS 36) ["many", "pairs"] := by
      delta L2.KOf; refine' DL.dfn_mk KX G ?a ?l ?c ?k (fun _ _ _ _ _ _ us hl => match us, hl with | [_, _], _ => rfl)
      (case a => k_is); (case l => k_is); (case c => k_is); (case k => k_is)
    have d__law_drawn_ring_row : DL.Dfn (L2.KOf KX) mg "_law_drawn_ring_row" (DL.topS 37) ["source", "frame", "far"] := by
      delta L2.KOf; refine' DL.dfn_mk KX G ?a ?l ?c ?k (fun _ _ _ _ _ _ us hl => match us, hl with | [_, _, _], _ => rfl)
      (case a => k_is); (case l => k_is); (case c => k_is); (case k => k_is)
    have d__law_drawn_cut_row : DL.Dfn (L2.KOf KX) mg "_law_drawn_cut_row" (DL.topS 38) ["source", "frame", "far"] := by
      delta L2.KOf; refine' DL.dfn_mk KX G ?a ?l ?c ?k (fun _ _ _ _ _ _ us hl => match us, hl with | [_, _, _], _ => rfl)
      (case a => k_is); (case l => k_is); (case c => k_is); (case k => k_is)
    have d__law_roads : DL.Dfn (L2.KOf KX) mg "_law_roads" (DL.topS 39) ["row"] := by
      delta L2.KOf; refine' DL.dfn_mk KX G ?a ?l ?c ?k (fun _ _ _ _ _ _ us hl => match us, hl with | [_], _ => rfl)
      (case a => k_is); (case l => k_is); (case c => k_is); (case k => k_is)
    have d__law_is_ring : DL.Dfn (L2.KOf KX) mg "_law_is_ring" (DL.topS 40) ["frame", "row"] := by
      delta L2.KOf; refine' DL.dfn_mk KX G ?a ?l ?c ?k (fun _ _ _ _ _ _ us hl => match us, hl with | [_, _], _ => rfl)
      (case a => k_is); (case l => k_is); (case c => k_is); (case k => k_is)
    have d__law_heights : DL.Dfn (L2.KOf KX) mg "_law_heights" (DL.topS 41) ["frame", "row"] := by
      delta L2.KOf; refine' DL.dfn_mk KX G ?a ?l ?c ?k (fun _ _ _ _ _ _ us hl => match us, hl with | [_, _], _ => rfl)
      (case a => k_is); (case l => k_is); (case c => k_is); (case k => k_is)
    have d__law_told_tree : DL.Dfn (L2.KOf KX) mg "_law_told_tree" (DL.topS 42) ["frame"] := by
      delta L2.KOf; refine' DL.dfn_mk KX G ?a ?l ?c ?k (fun _ _ _ _ _ _ us hl => match us, hl with | [_], _ => rfl)
      (case a => k_is); (case l => k_is); (case c => k_is); (case k => k_is)
    have d__law_bent : DL.Dfn (L2.KOf KX) mg "_law_bent" (DL.topS 26) ["source", "value"] := by
      delta L2.KOf; refine' DL.dfn_mk KX G ?a ?l ?c ?k (fun _ _ _ _ _ _ us hl => match us, hl with | [_, _], _ => rfl)
      (case a => k_is); (case l => k_is); (case c => k_is); (case k => k_is)
    have d__law_pick : DL.Dfn (L2.KOf KX) mg "_law_pick" (DL.topS 22) ["source", "many"] := by
      delta L2.KOf; refine' DL.dfn_mk KX G ?a ?l ?c ?k (fun _ _ _ _ _ _ us hl => match us, hl with | [_, _], _ => rfl)
      (case a => k_is); (case l => k_is); (case c => k_is); (case k => k_is)
    have d__law_source : DL.Dfn (L2.KOf KX) mg "_law_source" (DL.topS 21) ["script"] := by
      delta L2.KOf; refine' DL.dfn_mk KX G ?a ?l ?c ?k (fun _ _ _ _ _ _ us hl => match us, hl with | [_], _ => rfl)
      (case a => k_is); (case l => k_is); (case c => k_is); (case k => k_is)
    have B : DL.Bl mg := ⟨n_range, n_len, n_tuple, n_list, n_int, n_abs, n_max, n_min, n_sum, n_all, n_sorted, n_isinstance, n_zip, n_enumerate, n_repr, n_dict, n_bool, n_str⟩
    have D : DL.Dfs90 (L2.KOf KX) mg := ⟨d_all_roads, d_heads_by, d_pieces_by, d_piece_count, d_is_whole, d_is_whole_row, d_hangs_together, d_row_product, d_row_size, d_roads_of_row, d_added_rows, d_brought_by, d_is_ring_row, d_cut_row, d_told_tree, d_heights_along, d_heights_of_cut, d_is_cut_row, d__law_of, d__law_mixed, d__law_number, d__law_are_wholes, d__law_hung, d__law_pieces, d__law_drawn_tree, d__law_product, d__law_rising, d__law_brings, d__law_own_ring, d__law_outside, d__law_added, d__law_drawn_ring_row, d__law_drawn_cut_row, d__law_roads, d__law_is_ring, d__law_heights, d__law_told_tree, d__law_bent⟩
    refine' DL.law_mk KX G hmg B D d__law_pick d__law_source ?a ?l ?c ?k
    (case a => k_is); (case l => k_is); (case c => k_is); (case k => k_is)
