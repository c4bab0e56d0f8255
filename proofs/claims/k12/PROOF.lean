import PyProof.Rows.All
import Wide.All
import OpenK.AllK
import Wide.FinOn
import HandS.ForMost
import HandS.Deep
import HandS.TupSets
import HandS.Flow
import HandS.Conv
import HandS.IsInst
import HandS.Style
import HandS.Iter
import HandS.Walk
import KE.DataCmp
import KE.DataMinMax
import KE.SortData
import HandS.More
import HandS.TupLen
import KE.KDictDisplayH
import PySem.Challenge.RW_sameyard_k12_whole_few_tell_all
set_option Elab.async false
set_option linter.all false
set_option maxRecDepth 100000
/-! YdA: abstract values over HandS: what a slot holds (data, an own list, a yard, the box of draws), the state that stands for a frame and a heap, and expressions, tests, statements as predicate transformers over it. -/
namespace Yd
open PySem L2

/-! ### data at a value -/
mutual
inductive Rp (F : Hp) : V → PyData → Prop
  | non : Rp F .non .none
  | bl (b : Bool) : Rp F (.bl b) (.bool b)
  | int (i : Int) : Rp F (.int i) (.int i)
  | str (x : Str) : Rp F (.str x) (.str x)
  | lst {a : Addr} {vs : List V} {ds : List PyData} : F a = some (.lst vs) → RpL F vs ds → Rp F (.ref a) (.list ds)
  | tup {a : Addr} {vs : List V} {ds : List PyData} : F a = some (.tup vs) → RpL F vs ds → Rp F (.ref a) (.tuple ds)
inductive RpL (F : Hp) : List V → List PyData → Prop
  | nil : RpL F [] []
  | cons {v : V} {vs : List V} {d : PyData} {ds : List PyData} : Rp F v d → RpL F vs ds → RpL F (v :: vs) (d :: ds)
end
section
variable {F F' H : Hp} {K : PySem.W.Frag}
mutual
theorem Rp.mono (e : Same F F') : ∀ (d : PyData) (v : V), Rp F v d → Rp F' v d
  | .none, _, h => by cases h; exact .non
  | .bool b, _, h => by cases h; exact .bl b
  | .int i, _, h => by cases h; exact .int i
  | .str x, _, h => by cases h; exact .str x
  | .list ds, _, h => by
    cases h with
    | lst hs ha => exact .lst (e _ _ hs) (RpL.mono e ds _ ha)
  | .tuple ds, _, h => by
    cases h with
    | tup hs ha => exact .tup (e _ _ hs) (RpL.mono e ds _ ha)
  | .dict _, _, h => by cases h
theorem RpL.mono (e : Same F F') : ∀ (ds : List PyData) (vs : List V), RpL F vs ds → RpL F' vs ds
  | [], _, h => by cases h; exact .nil
  | d :: ds, _, h => by
    cases h with
    | cons h1 h2 => exact .cons (Rp.mono e d _ h1) (RpL.mono e ds _ h2)
end
mutual
theorem Rp.dp (e : Same F H) : ∀ (d : PyData) (v : V), Rp F v d → Dp K H v d
  | .none, _, h => by cases h; exact .non
  | .bool b, _, h => by cases h; exact .bl b
  | .int i, _, h => by cases h; exact .int i
  | .str x, _, h => by cases h; exact .str x
  | .list ds, _, h => by
    cases h with
    | lst hs ha => exact .lst (SqL.of (e _ _ hs)) (RpL.dp e ds _ ha)
  | .tuple ds, _, h => by
    cases h with
    | tup hs ha => exact .tup (SqT.of (e _ _ hs)) (RpL.dp e ds _ ha)
  | .dict _, _, h => by cases h
theorem RpL.dp (e : Same F H) : ∀ (ds : List PyData) (vs : List V), RpL F vs ds → DpAll K H vs ds
  | [], _, h => by cases h; exact .nil
  | d :: ds, _, h => by
    cases h with
    | cons h1 h2 => exact .cons (Rp.dp e d _ h1) (RpL.dp e ds _ h2)
end
theorem Rp.up {d : PyData} {v : V} (h : Rp F v d) (e : Same F F') : Rp F' v d := Rp.mono e d v h
theorem RpL.up {ds : List PyData} {vs : List V} (h : RpL F vs ds) (e : Same F F') : RpL F' vs ds := RpL.mono e ds vs h
theorem RpL.length : ∀ {vs : List V} {ds : List PyData}, RpL F vs ds → vs.length = ds.length
  | [], _, h => by cases h; rfl
  | _ :: vs, _, h => by
    cases h with
    | cons _ h2 => simp [RpL.length h2]
theorem RpL.get : ∀ {vs : List V} {ds : List PyData} {i : Nat} {d : PyData}, RpL F vs ds → ds[i]? = some d → ∃ v, vs[i]? = some v ∧ Rp F v d
  | [], _, _, _, h, e => by cases h; simp at e
  | _ :: _, _, 0, _, h, e => by
    cases h with
    | cons h1 _ => simp at e; subst e; exact ⟨_, rfl, h1⟩
  | _ :: vs, _, i + 1, _, h, e => by
    cases h with
    | cons _ h2 =>
      obtain ⟨v, e1, e2⟩ := RpL.get (i := i) h2 (by simpa using e)
      exact ⟨v, by simpa using e1, e2⟩
theorem RpL.get' : ∀ {vs : List V} {ds : List PyData} {i : Nat} {v : V}, RpL F vs ds → vs[i]? = some v → ∃ d, ds[i]? = some d ∧ Rp F v d
  | [], _, _, _, h, e => by simp at e
  | _ :: _, _, 0, _, h, e => by
    cases h with
    | cons h1 _ => simp at e; subst e; exact ⟨_, rfl, h1⟩
  | _ :: vs, _, i + 1, _, h, e => by
    cases h with
    | cons _ h2 =>
      obtain ⟨v, e1, e2⟩ := RpL.get' (i := i) h2 (by simpa using e)
      exact ⟨v, by simpa using e1, e2⟩
theorem RpL.append : ∀ {vs ws : List V} {ds es : List PyData}, RpL F vs ds → RpL F ws es → RpL F (vs ++ ws) (ds ++ es)
  | [], _, _, _, h, k => by cases h; exact k
  | _ :: _, _, _, _, h, k => by
    cases h with
    | cons h1 h2 => exact .cons h1 (RpL.append h2 k)
theorem RpL.one {v : V} {d : PyData} (h : Rp F v d) : RpL F [v] [d] := .cons h .nil
theorem RpL.take : ∀ {vs : List V} {ds : List PyData} (n : Nat), RpL F vs ds → RpL F (vs.take n) (ds.take n)
  | _, _, 0, _ => .nil
  | [], _, n + 1, h => by cases h; exact .nil
  | _ :: _, _, n + 1, h => by
    cases h with
    | cons h1 h2 => exact .cons h1 (RpL.take n h2)
theorem RpL.drop : ∀ {vs : List V} {ds : List PyData} (n : Nat), RpL F vs ds → RpL F (vs.drop n) (ds.drop n)
  | _, _, 0, h => h
  | [], _, n + 1, h => by cases h; exact .nil
  | _ :: _, _, n + 1, h => by
    cases h with
    | cons _ h2 => exact RpL.drop n h2
theorem RpL.set : ∀ {vs : List V} {ds : List PyData} {v : V} {d : PyData} (i : Nat), RpL F vs ds → Rp F v d → RpL F (vs.set i v) (ds.set i d)
  | [], _, _, _, _, h, _ => by cases h; exact .nil
  | _ :: _, _, _, _, 0, h, k => by
    cases h with
    | cons _ h2 => exact .cons k h2
  | _ :: _, _, _, _, i + 1, h, k => by
    cases h with
    | cons h1 h2 => exact .cons h1 (RpL.set i h2 k)
theorem RpL.eraseIdx : ∀ {vs : List V} {ds : List PyData} (i : Nat), RpL F vs ds → RpL F (vs.eraseIdx i) (ds.eraseIdx i)
  | [], _, _, h => by cases h; exact .nil
  | _ :: _, _, 0, h => by
    cases h with
    | cons _ h2 => exact h2
  | _ :: _, _, i + 1, h => by
    cases h with
    | cons h1 h2 => exact .cons h1 (RpL.eraseIdx i h2)
theorem RpL.dropLast : ∀ {vs : List V} {ds : List PyData}, RpL F vs ds → RpL F vs.dropLast ds.dropLast := fun {vs ds} h => by
  rw [List.dropLast_eq_take, List.dropLast_eq_take, h.length]
  exact h.take _
theorem RpL.reverse : ∀ {vs : List V} {ds : List PyData}, RpL F vs ds → RpL F vs.reverse ds.reverse
  | [], _, h => by cases h; exact .nil
  | _ :: _, _, h => by
    cases h with
    | cons h1 h2 => rw [List.reverse_cons, List.reverse_cons]; exact (RpL.reverse h2).append (.one h1)
theorem RpL.cutV {vs : List V} {ds : List PyData} (h : RpL F vs ds) (lo hi : Option Int) : RpL F (cutV vs lo hi) ((ds.drop (HT.sIx ds.length 0 lo)).take (HT.sIx ds.length ds.length hi - HT.sIx ds.length 0 lo)) := by
  unfold L2.cutV
  rw [h.length]
  exact (h.drop _).take _
theorem RpL.ints : ∀ (ns : List Int), RpL F (ns.map V.int) (ns.map PyData.int)
  | [] => .nil
  | n :: ns => .cons (.int n) (RpL.ints ns)
theorem RpL.of_ints : ∀ {ns : List Int} {vs : List V}, RpL F vs (ns.map PyData.int) → vs = ns.map V.int
  | [], _, h => by cases h; rfl
  | n :: ns, _, h => by
    cases h with
    | cons h1 h2 =>
      cases h1
      rw [List.map_cons, RpL.of_ints h2]
theorem RpL.strs : ∀ (ns : List Str), RpL F (ns.map V.str) (ns.map PyData.str)
  | [] => .nil
  | n :: ns => .cons (.str n) (RpL.strs ns)
theorem RpL.of_strs : ∀ {ns : List Str} {vs : List V}, RpL F vs (ns.map PyData.str) → vs = ns.map V.str
  | [], _, h => by cases h; rfl
  | n :: ns, _, h => by
    cases h with
    | cons h1 h2 =>
      cases h1
      rw [List.map_cons, RpL.of_strs h2]
theorem RpL.rep {vs : List V} {ds : List PyData} (h : RpL F vs ds) : ∀ k : Nat, RpL F (List.replicate k vs).flatten (List.replicate k ds).flatten
  | 0 => .nil
  | k + 1 => by rw [List.replicate_succ, List.replicate_succ, List.flatten_cons, List.flatten_cons]; exact h.append (RpL.rep h k)
end

/-! ### abstract values, the state -/
/-- the box of draws: its address, its list's -/
structure Gh where
  b : Option (Addr × Addr)
  R : Hp
def isBox (G : Gh) (a : Addr) : Prop := (match G.b with
  | none => False
  | some (b, l) => a = b ∨ a = l) ∨ G.R a ≠ none
def BoxAt (H : Hp) (b l : Addr) : Prop := b ≠ l ∧ ∃ (ns : List Int) (m : Int), H b = some (.lst [.ref l, .int m]) ∧ H l = some (.lst (ns.map V.int)) ∧ ns.length ≤ 1000 ∧ 0 ≤ m ∧ m < 2147483647
def bInv (o : Option (Addr × Addr)) (H : Hp) : Prop := match o with
  | none => True
  | some (b, l) => BoxAt H b l
/-- the box is not among what is known from without -/
def bDj (G : Gh) : Prop := match G.b with
  | none => True
  | some (b, l) => G.R b = none ∧ G.R l = none
def gInv (G : Gh) (H : Hp) : Prop := bInv G.b H ∧ Same G.R H ∧ bDj G
theorem gInv.box {G : Gh} {H : Hp} (g : gInv G H) {a : Addr} (h : isBox G a) : H a ≠ none := by
  obtain ⟨G1, R⟩ := G
  obtain ⟨g, gr, _⟩ := g
  rcases h with h | h
  · cases G1 with
    | none => exact h.elim
    | some p =>
      obtain ⟨b, l⟩ := p
      obtain ⟨_, ns, m, h1, h2, _⟩ := g
      rcases h with h | h
      · rw [h, h1]; simp
      · rw [h, h2]; simp
  · have h : R a ≠ none := h
    cases e : R a with
    | none => exact absurd e h
    | some o => rw [gr a o e]; simp
theorem gInv.keep {G : Gh} {H H' : Hp} (g : gInv G H) (k : ∀ a o, isBox G a → H a = some o → H' a = some o) : gInv G H' := by
  obtain ⟨G1, R⟩ := G
  obtain ⟨g, gr, gd⟩ := g
  refine ⟨?_, fun a o e => k a o (.inr (by show R a ≠ none; rw [show R a = some o from e]; simp)) (gr a o e), gd⟩
  cases G1 with
  | none => trivial
  | some p =>
    obtain ⟨b, l⟩ := p
    obtain ⟨ne, ns, m, h1, h2, h3⟩ := g
    exact ⟨ne, ns, m, k _ _ (.inl (.inl rfl)) h1, k _ _ (.inl (.inr rfl)) h2, h3⟩
theorem gInv.upd {G : Gh} {H : Hp} {p : Addr} {o : HO} (g : gInv G H) (n : ¬ isBox G p) : gInv G (upd H p o) := g.keep fun a u hb e => by
  rw [upd_ne (fun z => n (by rw [← z]; exact hb))]; exact e
/-- all that is known: from without, and here -/
def kn (G : Gh) (F : Hp) : Hp := fun a => match G.R a with
  | some o => some o
  | none => F a
theorem kn.up {G : Gh} {F F' : Hp} (e : Same F F') : Same (kn G F) (kn G F') := fun a o h => by
  unfold kn at h ⊢
  cases e2 : G.R a with
  | some u => rw [e2] at h; exact h
  | none => rw [e2] at h; exact e a o h
theorem kn.same {G : Gh} {F H : Hp} (e : Same F H) (g : gInv G H) : Same (kn G F) H := fun a o h => by
  unfold kn at h
  cases e2 : G.R a with
  | some u => rw [e2] at h; exact g.2.1 a o (by rw [e2]; exact h)
  | none => rw [e2] at h; exact e a o h
theorem kn.of {G : Gh} {F : Hp} (b : ∀ a, isBox G a → F a = none) : Same F (kn G F) := fun a o h => by
  unfold kn
  cases e2 : G.R a with
  | some u =>
    have := b a (.inr (by rw [e2]; simp))
    rw [this] at h; cases h
  | none => exact h
/-- from F, H to F', H': what is known stays, what is tracked stays but for the box, what is newly known is new -/
structure Stp (G : Gh) (F H F' H' : Hp) : Prop where
  ff : Same F F'
  fh : Same F' H'
  gi : gInv G H'
  keep : ∀ a o, H a = some o → ¬ isBox G a → H' a = some o
  new : ∀ a, F' a ≠ none → F a ≠ none ∨ H a = none
  box : ∀ a, isBox G a → F' a = none
theorem Stp.refl {G : Gh} {F H : Hp} (fh : Same F H) (gi : gInv G H) (box : ∀ a, isBox G a → F a = none) : Stp G F H F H := ⟨Same.refl _, fh, gi, fun _ _ h _ => h, fun _ h => .inl h, box⟩
theorem Stp.trans {G : Gh} {F H F1 H1 F2 H2 : Hp} (gi : gInv G H) (a : Stp G F H F1 H1) (b : Stp G F1 H1 F2 H2) : Stp G F H F2 H2 where
  ff := a.ff.trans b.ff
  fh := b.fh
  gi := b.gi
  keep := fun x o h n => b.keep x o (a.keep x o h n) n
  new := fun x h => by
    rcases b.new x h with q | q
    · exact a.new x q
    · by_cases n : isBox G x
      · exact absurd (b.box x n) h
      · cases e : H x with
        | none => exact .inr rfl
        | some o => rw [a.keep x o e n] at q; cases q
  box := b.box

/-- what a slot is known to hold -/
inductive A where
  | un
  | d (x : PyData)
  | own (xs : List PyData)
  | bor (i : Nat) (xs : List PyData)
  | yard (m : List Int) (k : List (List Int))
  | box
  | raw (v : V)
  | k (x : PyData)
  | fr (x : PyData)
  | dct (ks : List Int) (ds : List PyData)
  | dtt (ks : List (List Int))
  | ft (ks : List (List Int))
  | lt (ks : List (List Int))
/-- a list of tuples of ints, as they stand -/
inductive TupL (H : Hp) : List V → List (List Int) → Prop
  | nil : TupL H [] []
  | cons {b : Addr} {vs : List V} {k : List Int} {ks : List (List Int)} : H b = some (.tup (k.map V.int)) → TupL H vs ks → TupL H (.ref b :: vs) (k :: ks)
theorem TupL.up {H H' : Hp} (f : ∀ (b : Addr) (k : List Int), H b = some (.tup (k.map V.int)) → H' b = some (.tup (k.map V.int))) : ∀ {vs : List V} {ks : List (List Int)}, TupL H vs ks → TupL H' vs ks
  | _, _, .nil => .nil
  | _, _, .cons h t => .cons (f _ _ h) (t.up f)
/-- a dict by tuples of ints, all True -/
def kvT (ks : List (List Int)) : List (List Key × V) := ks.map fun k => (k.map Sum.inl, V.bl true)
abbrev A.int (i : Int) : A := .d (.int i)
abbrev A.bl (b : Bool) : A := .d (.bool b)
abbrev A.str (x : Str) : A := .d (.str x)
abbrev A.non : A := .d .none
abbrev A.lst (xs : List PyData) : A := .d (.list xs)
abbrev A.tup (xs : List PyData) : A := .d (.tuple xs)
/-- an instance of Yard: its fields -/
def kd (k : List (List Int)) : List PyData := k.map fun r => .list (r.map PyData.int)
def yf (t q : Addr) : List (Str × V) := putF "kinds" (.ref q) (putF "marked" (.ref t) [])
def YardAt (G : Gh) (C : Addr) (F : Hp) (v : V) (m : List Int) (k : List (List Int)) : Prop := ∃ a dx t q, v = .ref a ∧ kn G F a = some (.ins C dx (yf t q)) ∧ Rp (kn G F) (.ref t) (.tuple (m.map PyData.int)) ∧ Rp (kn G F) (.ref q) (.list (kd k))
theorem YardAt.up {G : Gh} {C : Addr} {F F' : Hp} {v : V} {m : List Int} {k : List (List Int)} (h : YardAt G C F v m k) (e : Same F F') : YardAt G C F' v m k := by
  obtain ⟨a, dx, t, q, h1, h2, h3, h4⟩ := h
  exact ⟨a, dx, t, q, h1, kn.up e _ _ h2, h3.up (kn.up e), h4.up (kn.up e)⟩
/-- what stays fixed through a def's run -/
structure Gm where
  G : Gh
  C : Addr
  F : Hp
  H : Hp
def ownAt (ρ : List A) (σ : St) (i : Nat) (p : Addr) : Prop := (∃ xs, ρ[i]? = some (.own xs)) ∧ σ[i]? = some (some (.ref p))
def Sl (Γ : Gm) (F H : Hp) (o : Option V) : A → Prop
  | .un => True
  | .d x => ∃ v, o = some v ∧ Rp F v x
  | .own xs => ∃ p vs, o = some (.ref p) ∧ H p = some (.lst vs) ∧ RpL F vs xs ∧ F p = none ∧ Γ.H p = none ∧ ¬ isBox Γ.G p
  | .bor _ _ => False
  | .yard m k => ∃ v, o = some v ∧ YardAt Γ.G Γ.C F v m k
  | .box => ∃ b l, Γ.G.b = some (b, l) ∧ o = some (.ref b)
  | .raw v => o = some v
  | .k x => ∃ v, o = some v ∧ Rp (kn Γ.G F) v x
  | .fr _ => True
  | .dct ks ds => ∃ p kvs, o = some (.ref p) ∧ H p = some (.dK kvs) ∧ kvs.map (·.1) = ks.map Sum.inl ∧ RpL F (kvs.map (·.2)) ds ∧ F p = none ∧ Γ.H p = none ∧ ¬ isBox Γ.G p
  | .dtt ks => ∃ p, o = some (.ref p) ∧ H p = some (.dT (kvT ks)) ∧ F p = none ∧ Γ.H p = none ∧ ¬ isBox Γ.G p
  | .ft ks => ∃ p, o = some (.ref p) ∧ F p = some (.dT (kvT ks))
  | .lt ks => ∃ p vs, o = some (.ref p) ∧ F p = some (.lst vs) ∧ TupL H vs ks
/-- what stands by itself at a slot: known to no other -/
def FrAt (Γ : Gm) (F : Hp) (ρ : List A) (σ : St) (H : Hp) (v : V) (Fs : Hp) (x : PyData) : Prop :=
  Rp Fs v x ∧ Same Fs H ∧ ∀ a, Fs a ≠ none → F a = none ∧ Γ.H a = none ∧ ¬ isBox Γ.G a ∧ ∀ j, ¬ ownAt ρ σ j a
structure M (Γ : Gm) (F : Hp) (ρ : List A) (σ : St) (H : Hp) : Prop where
  st : Stp Γ.G Γ.F Γ.H F H
  gi0 : gInv Γ.G Γ.H
  len : σ.length = ρ.length
  sl : ∀ (i : Nat) (a : A) (o : Option V), ρ[i]? = some a → σ[i]? = some o → Sl Γ F H o a
  dj : ∀ i j p, ownAt ρ σ i p → ownAt ρ σ j p → i = j
  fr : ∀ (i : Nat) (x : PyData), ρ[i]? = some (.fr x) → ∃ (v : V) (Fs : Hp), σ[i]? = some (some v) ∧ FrAt Γ F ρ σ H v Fs x
/-- what an expression's value is known to be -/
def Res (Γ : Gm) (ρ : List A) (σ : St) (F H F' H' : Hp) (v : V) : A → Prop
  | .un => True
  | .d x => Rp F' v x
  | .own xs => ∃ p vs, v = .ref p ∧ H p = none ∧ F' p = none ∧ H' p = some (.lst vs) ∧ RpL F' vs xs
  | .bor i xs => ρ[i]? = some (.own xs) ∧ σ[i]? = some (some v)
  | .yard m k => YardAt Γ.G Γ.C F' v m k
  | .box => ∃ b l, Γ.G.b = some (b, l) ∧ v = .ref b
  | .raw u => v = u
  | .k x => Rp (kn Γ.G F') v x
  | .fr x => ∃ Fs : Hp, Rp Fs v x ∧ Same Fs H' ∧ ∀ a, Fs a ≠ none → F' a = none ∧ H a = none
  | .dct ks ds => ∃ p kvs, v = .ref p ∧ H p = none ∧ F' p = none ∧ H' p = some (.dK kvs) ∧ kvs.map (·.1) = ks.map Sum.inl ∧ RpL F' (kvs.map (·.2)) ds
  | .dtt ks => ∃ p, v = .ref p ∧ H p = none ∧ F' p = none ∧ H' p = some (.dT (kvT ks))
  | .ft ks => ∃ p, v = .ref p ∧ F' p = some (.dT (kvT ks))
  | .lt ks => ∃ p vs, v = .ref p ∧ H p = none ∧ F' p = some (.lst vs) ∧ TupL H' vs ks
section
variable {Γ : Gm} {ρ : List A} {σ : St} {F H F' H' F1 H1 F2 H2 : Hp} {v : V} {r : A}
theorem M.fh (m : M Γ F ρ σ H) : Same F H := m.st.fh
theorem M.gi (m : M Γ F ρ σ H) : gInv Γ.G H := m.st.gi
theorem M.stp (m : M Γ F ρ σ H) : Stp Γ.G F H F H := Stp.refl m.st.fh m.st.gi m.st.box
/-- tuples stay as they are -/
theorem Stp.tup {G : Gh} {F H F' H' : Hp} (g : gInv G H) (s : Stp G F H F' H') {b : Addr} {xs : List V} (h : H b = some (.tup xs)) : H' b = some (.tup xs) := by
  by_cases n : isBox G b
  · obtain ⟨Gb, R⟩ := G
    rcases n with n | n
    · cases Gb with
      | none => exact n.elim
      | some p =>
        obtain ⟨x, l⟩ := p
        obtain ⟨_, ns, m, h1, h2, _⟩ := g.1
        rcases n with n | n
        · rw [n, h1] at h; cases h
        · rw [n, h2] at h; cases h
    · have n : R b ≠ none := n
      cases e : R b with
      | none => exact absurd e n
      | some o =>
        have e1 := g.2.1 b o e
        rw [h] at e1
        cases e1
        exact s.gi.2.1 b _ e
  · exact s.keep b _ h n
theorem M.step (m : M Γ F ρ σ H) (s : Stp Γ.G F H F' H') : M Γ F' ρ σ H' := by
  refine ⟨m.st.trans m.gi0 s, m.gi0, m.len, fun i a o h1 h2 => ?_, m.dj, fun i x h1 => ?_⟩
  rotate_left
  · obtain ⟨v, Fs, e, r, ss, n⟩ := m.fr i x h1
    refine ⟨v, Fs, e, r, fun a o q => s.keep a o (ss a o q) (n a (by rw [q]; simp)).2.2.1, fun a q => ?_⟩
    obtain ⟨n1, n2, n3, n4⟩ := n a q
    refine ⟨?_, n2, n3, n4⟩
    cases e1 : F' a with
    | none => rfl
    | some o =>
      rcases s.new a (by rw [e1]; simp) with z | z
      · exact absurd n1 z
      · cases e2 : Fs a with
        | none => exact absurd e2 q
        | some u => rw [ss a u e2] at z; cases z
  have q := m.sl i a o h1 h2
  cases a with
  | un => trivial
  | d x =>
    obtain ⟨v, e, h⟩ := q
    exact ⟨v, e, h.up s.ff⟩
  | own xs =>
    obtain ⟨p, vs, e, h3, h4, h5, h6, h7⟩ := q
    refine ⟨p, vs, e, s.keep p _ h3 h7, h4.up s.ff, ?_, h6, h7⟩
    cases e1 : F' p with
    | none => rfl
    | some o =>
      rcases s.new p (by rw [e1]; simp) with z | z
      · exact absurd h5 z
      · rw [h3] at z; cases z
  | bor _ _ => exact q.elim
  | yard mm k =>
    obtain ⟨v, e, h⟩ := q
    exact ⟨v, e, h.up s.ff⟩
  | box => exact q
  | raw v => exact q
  | k x =>
    obtain ⟨v, e, h⟩ := q
    exact ⟨v, e, h.up (kn.up s.ff)⟩
  | fr x => trivial
  | ft ks =>
    obtain ⟨p, e, h⟩ := q
    exact ⟨p, e, s.ff _ _ h⟩
  | lt ks =>
    obtain ⟨p, vs, e, h, t⟩ := q
    exact ⟨p, vs, e, s.ff _ _ h, t.up fun b k => s.tup m.gi⟩
  | dtt ks =>
    obtain ⟨p, e, h3, h5, h6, h7⟩ := q
    refine ⟨p, e, s.keep p _ h3 h7, ?_, h6, h7⟩
    cases e1 : F' p with
    | none => rfl
    | some o =>
      rcases s.new p (by rw [e1]; simp) with z | z
      · exact absurd h5 z
      · rw [h3] at z; cases z
  | dct ks ds =>
    obtain ⟨p, kvs, e, h3, hk, h4, h5, h6, h7⟩ := q
    refine ⟨p, kvs, e, s.keep p _ h3 h7, hk, h4.up s.ff, ?_, h6, h7⟩
    cases e1 : F' p with
    | none => rfl
    | some o =>
      rcases s.new p (by rw [e1]; simp) with z | z
      · exact absurd h5 z
      · rw [h3] at z; cases z
theorem Res.step (h : Res Γ ρ σ F H F1 H1 v r) (g : gInv Γ.G H) (s1 : Stp Γ.G F H F1 H1) (s : Stp Γ.G F1 H1 F2 H2) : Res Γ ρ σ F H F2 H2 v r := by
  cases r with
  | un => trivial
  | d x => exact Rp.up (show Rp F1 v x from h) s.ff
  | own xs =>
    obtain ⟨p, vs, e, h1, h2, h3, h4⟩ := h
    have nb : ¬ isBox Γ.G p := fun z => g.box z h1
    refine ⟨p, vs, e, h1, ?_, s.keep p _ h3 nb, h4.up s.ff⟩
    cases e1 : F2 p with
    | none => rfl
    | some o =>
      rcases s.new p (by rw [e1]; simp) with z | z
      · exact absurd h2 z
      · rw [h3] at z; cases z
  | bor _ _ => exact h
  | yard m k => exact YardAt.up (show YardAt Γ.G Γ.C F1 v m k from h) s.ff
  | box => exact h
  | raw u => exact h
  | k x => exact Rp.up (show Rp (kn Γ.G F1) v x from h) (kn.up s.ff)
  | fr x =>
    obtain ⟨Fs, r, ss, n⟩ := h
    refine ⟨Fs, r, fun a o q => s.keep a o (ss a o q) (fun z => g.box z (n a (by rw [q]; simp)).2), fun a q => ?_⟩
    obtain ⟨n1, n2⟩ := n a q
    refine ⟨?_, n2⟩
    cases e1 : F2 a with
    | none => rfl
    | some o =>
      rcases s.new a (by rw [e1]; simp) with z | z
      · exact absurd n1 z
      · cases e2 : Fs a with
        | none => exact absurd e2 q
        | some u => rw [ss a u e2] at z; cases z
  | ft ks =>
    obtain ⟨p, e, h⟩ := h
    exact ⟨p, e, s.ff _ _ h⟩
  | lt ks =>
    obtain ⟨p, vs, e, h1, h2, t⟩ := h
    exact ⟨p, vs, e, h1, s.ff _ _ h2, t.up fun b k => s.tup s1.gi⟩
  | dtt ks =>
    obtain ⟨p, e, h1, h2, h3⟩ := h
    have nb : ¬ isBox Γ.G p := fun z => g.box z h1
    refine ⟨p, e, h1, ?_, s.keep p _ h3 nb⟩
    cases e1 : F2 p with
    | none => rfl
    | some o =>
      rcases s.new p (by rw [e1]; simp) with z | z
      · exact absurd h2 z
      · rw [h3] at z; cases z
  | dct ks ds =>
    obtain ⟨p, kvs, e, h1, h2, h3, hk, h4⟩ := h
    have nb : ¬ isBox Γ.G p := fun z => g.box z h1
    refine ⟨p, kvs, e, h1, ?_, s.keep p _ h3 nb, hk, h4.up s.ff⟩
    cases e1 : F2 p with
    | none => rfl
    | some o =>
      rcases s.new p (by rw [e1]; simp) with z | z
      · exact absurd h2 z
      · rw [h3] at z; cases z
/-- a new object that is known from now on -/
theorem Stp.new1 {G : Gh} {a : Addr} {o : HO} (fh : Same F H) (gi : gInv G H) (box : ∀ a, isBox G a → F a = none) (hp : H a = none) : Stp G F H (upd F a o) (upd H a o) := by
  have nf : F a = none := fh.free hp
  refine ⟨fun b u e => ?_, fun b u e => ?_, ?_, fun b u e _ => ?_, fun b e => ?_, fun b hb => ?_⟩
  · rw [upd_ne (ne_of_none e nf)]; exact e
  · by_cases z : b = a
    · subst z; rw [upd_same] at e ⊢; exact e
    · rw [upd_ne z] at e ⊢; exact fh b u e
  · exact gi.upd fun z => gi.box z hp
  · rw [upd_ne (ne_of_none e hp)]; exact e
  · by_cases z : b = a
    · subst z; exact .inr hp
    · rw [upd_ne z] at e; exact .inl e
  · have nb : b ≠ a := fun z => by subst z; exact gi.box hb hp
    rw [upd_ne nb]; exact box b hb
/-- a new object that is not yet known -/
theorem Stp.new0 {G : Gh} {a : Addr} {o : HO} (fh : Same F H) (gi : gInv G H) (box : ∀ a, isBox G a → F a = none) (hp : H a = none) : Stp G F H F (upd H a o) := by
  have s := Stp.new1 (o := o) fh gi box hp
  refine ⟨Same.refl _, fun b u e => ?_, s.gi, s.keep, fun b e => .inl e, box⟩
  rw [upd_ne (ne_of_none (fh b u e) hp)]; exact fh b u e
/-- an object that stands and is not known becomes known -/
theorem Stp.freeze {G : Gh} {a : Addr} {o : HO} (s : Stp G F H F1 H1) (h0 : H a = none) (h1 : H1 a = some o) (gi : gInv G H) : Stp G F H (upd F1 a o) H1 := by
  have nb : ¬ isBox G a := fun z => gi.box z h0
  have k : ∀ b u, F1 b = some u → upd F1 a o b = some u := fun b u e => by
    by_cases z : b = a
    · subst z
      have e2 := s.fh _ _ e
      rw [h1] at e2
      rw [upd_same]; exact e2
    · rw [upd_ne z]; exact e
  refine ⟨s.ff.trans k, fun b u e => ?_, s.gi, s.keep, fun b e => ?_, fun b hb => ?_⟩
  · by_cases z : b = a
    · subst z; rw [upd_same] at e; cases e; exact h1
    · rw [upd_ne z] at e; exact s.fh b u e
  · by_cases z : b = a
    · subst z; exact .inr h0
    · rw [upd_ne z] at e; exact s.new b e
  · rw [upd_ne (fun z => by subst z; exact nb hb)]; exact s.box b hb
end
end Yd

/-! YdB: expressions and tests as predicate transformers over abstract values, each sound for a reading of HandS. -/
namespace Yd
open PySem L2

/-! ### what stands at a value -/
def asL : A → Option (List PyData)
  | .own xs => some xs
  | .bor _ xs => some xs
  | .d (.list xs) => some xs
  | _ => none
/-- as data, once it is frozen; a borrowed list is none -/
def toD : A → Option PyData
  | .own xs => some (.list xs)
  | .d x => some x
  | _ => none
/-- as data, to be read -/
def rdD : A → Option PyData
  | .own xs => some (.list xs)
  | .bor _ xs => some (.list xs)
  | .d x => some x
  | _ => none
def allD : List A → Option (List PyData)
  | [] => some []
  | a :: as => match toD a, allD as with
    | some d, some ds => some (d :: ds)
    | _, _ => none
/-- frozen; none for a borrowed list, an unknown -/
def fz : A → Option A
  | .own xs => some (.d (.list xs))
  | .bor _ _ => none
  | .un => none
  | .fr _ => none
  | .dct _ _ => none
  | .dtt _ => none
  | .lt _ => none
  | a => some a
def fzs : List A → Option (List A)
  | [] => some []
  | a :: as => match fz a, fzs as with
    | some d, some ds => some (d :: ds)
    | _, _ => none

inductive ResL (Γ : Gm) (ρ : List A) (σ : St) (F H F' H' : Hp) : List V → List A → Prop
  | nil : ResL Γ ρ σ F H F' H' [] []
  | cons {v : V} {vs : List V} {r : A} {rs : List A} : Res Γ ρ σ F H F' H' v r → ResL Γ ρ σ F H F' H' vs rs → ResL Γ ρ σ F H F' H' (v :: vs) (r :: rs)
/-- a frozen value: an argument -/
def ArgR (G : Gh) (C : Addr) (F : Hp) (v : V) : A → Prop
  | .d x => Rp F v x
  | .yard m k => YardAt G C F v m k
  | .box => ∃ b l, G.b = some (b, l) ∧ v = .ref b
  | .raw u => v = u
  | .k x => Rp (kn G F) v x
  | .ft ks => ∃ p, v = .ref p ∧ F p = some (.dT (kvT ks))
  | _ => False
inductive ArgsR (G : Gh) (C : Addr) (F : Hp) : List V → List A → Prop
  | nil : ArgsR G C F [] []
  | cons {v : V} {vs : List V} {r : A} {rs : List A} : ArgR G C F v r → ArgsR G C F vs rs → ArgsR G C F (v :: vs) (r :: rs)
theorem Stp.none_back {G : Gh} {F H F1 H1 : Hp} (s : Stp G F H F1 H1) {p : Addr} (h : H1 p = none) : H p = none := by
  cases e : H p with
  | none => rfl
  | some o =>
    by_cases n : isBox G p
    · exact absurd h (s.gi.box n)
    · rw [s.keep p o e n] at h; cases h
section
variable {Γ : Gm} {ρ : List A} {σ : St} {F H F' H' F1 H1 F2 H2 : Hp} {v : V} {r : A} {K : PySem.W.Frag}
theorem ResL.step : ∀ {vs : List V} {rs : List A}, ResL Γ ρ σ F H F1 H1 vs rs → gInv Γ.G H → Stp Γ.G F H F1 H1 → Stp Γ.G F1 H1 F2 H2 → ResL Γ ρ σ F H F2 H2 vs rs
  | _, _, .nil, _, _, _ => .nil
  | _, _, .cons h t, g, s1, s => .cons (Res.step h g s1 s) (ResL.step t g s1 s)
/-- relative to an earlier state -/
theorem Res.back (h : Res Γ ρ σ F1 H1 F2 H2 v r) (s : Stp Γ.G F H F1 H1) : Res Γ ρ σ F H F2 H2 v r := by
  cases r with
  | own xs =>
    obtain ⟨p, vs, e, h1, h2, h3, h4⟩ := h
    exact ⟨p, vs, e, s.none_back h1, h2, h3, h4⟩
  | fr x =>
    obtain ⟨Fs, r, ss, n⟩ := h
    exact ⟨Fs, r, ss, fun a q => ⟨(n a q).1, s.none_back (n a q).2⟩⟩
  | dct ks ds =>
    obtain ⟨p, kvs, e, h1, h2, h3, h4⟩ := h
    exact ⟨p, kvs, e, s.none_back h1, h2, h3, h4⟩
  | dtt ks =>
    obtain ⟨p, e, h1, h2, h3⟩ := h
    exact ⟨p, e, s.none_back h1, h2, h3⟩
  | lt ks =>
    obtain ⟨p, vs, e, h1, h2⟩ := h
    exact ⟨p, vs, e, s.none_back h1, h2⟩
  | _ => exact h
theorem ResL.back : ∀ {vs : List V} {rs : List A}, ResL Γ ρ σ F1 H1 F2 H2 vs rs → Stp Γ.G F H F1 H1 → ResL Γ ρ σ F H F2 H2 vs rs
  | _, _, .nil, _ => .nil
  | _, _, .cons h t, s => .cons (h.back s) (t.back s)
theorem ArgR.up {G : Gh} {C : Addr} {r : A} (h : ArgR G C F v r) (e : Same F F') : ArgR G C F' v r := by
  cases r with
  | d x => exact Rp.up (show Rp F v x from h) e
  | yard m k => exact YardAt.up (show YardAt G C F v m k from h) e
  | k x => exact Rp.up (show Rp (kn G F) v x from h) (kn.up e)
  | ft ks =>
    obtain ⟨p, e1, h⟩ := h
    exact ⟨p, e1, e _ _ h⟩
  | box => exact h
  | raw u => exact h
  | _ => exact h
theorem ArgsR.up {G : Gh} {C : Addr} (e : Same F F') : ∀ {vs : List V} {rs : List A}, ArgsR G C F vs rs → ArgsR G C F' vs rs
  | _, _, .nil => .nil
  | _, _, .cons h t => .cons (h.up e) (ArgsR.up e t)
theorem ArgsR.length {G : Gh} {C : Addr} : ∀ {vs : List V} {rs : List A}, ArgsR G C F vs rs → vs.length = rs.length
  | _, _, .nil => rfl
  | _, _, .cons _ t => by simp [ArgsR.length t]
/-- the contents of a list that is read -/
theorem Res.list (m : M Γ F1 ρ σ H1) (h : Res Γ ρ σ F H F1 H1 v r) {xs : List PyData} (e : asL r = some xs) : ∃ p vs, v = .ref p ∧ H1 p = some (.lst vs) ∧ RpL F1 vs xs := by
  cases r with
  | own ys =>
    cases e
    obtain ⟨p, vs, e1, _, _, h3, h4⟩ := h
    exact ⟨p, vs, e1, h3, h4⟩
  | bor i ys =>
    cases e
    obtain ⟨h1, h2⟩ := h
    obtain ⟨p, vs, e1, h3, h4, _⟩ := m.sl i _ _ h1 h2
    exact ⟨p, vs, by injection e1, h3, h4⟩
  | d x =>
    cases x with
    | list ys =>
      have q : Rp F1 v (.list xs) := by
        rw [← (Option.some.inj e : ys = xs)]
        exact h
      cases q with
      | lst ha hl => exact ⟨_, _, rfl, m.fh _ _ ha, hl⟩
    | _ => cases e
  | _ => cases e
theorem Res.tupl (m : M Γ F1 ρ σ H1) {xs : List PyData} (h : Res Γ ρ σ F H F1 H1 v (.d (.tuple xs))) : ∃ p vs, v = .ref p ∧ F1 p = some (.tup vs) ∧ H1 p = some (.tup vs) ∧ RpL F1 vs xs := by
  have q : Rp F1 v (.tuple xs) := h
  cases q with
  | tup ha hl => exact ⟨_, _, rfl, ha, m.fh _ _ ha, hl⟩
theorem Res.dp (m : M Γ F1 ρ σ H1) (h : Res Γ ρ σ F H F1 H1 v r) {x : PyData} (e : rdD r = some x) : Dp K H1 v x := by
  cases r with
  | own ys =>
    cases e
    obtain ⟨p, vs, rfl, h3, h4⟩ := h.list m (xs := ys) rfl
    exact .lst (SqL.of h3) (RpL.dp m.fh _ _ h4)
  | bor i ys =>
    cases e
    obtain ⟨p, vs, rfl, h3, h4⟩ := h.list m (xs := ys) rfl
    exact .lst (SqL.of h3) (RpL.dp m.fh _ _ h4)
  | d y =>
    cases e
    exact Rp.dp m.fh _ _ h
  | _ => cases e
/-- frozen, over any F2 between -/
theorem Res.freeze (g : gInv Γ.G H) (h : Res Γ ρ σ F H F1 H1 v r) {r' : A} (e : fz r = some r') (s : Stp Γ.G F H F2 H1) (k : Same F1 F2) : ∃ F3, Same F2 F3 ∧ Stp Γ.G F H F3 H1 ∧ ArgR Γ.G Γ.C F3 v r' := by
  cases r with
  | own xs =>
    cases e
    obtain ⟨p, vs, rfl, h1, h2, h3, h4⟩ := h
    have s2 := s.freeze h1 h3 g
    have k2 : Same F2 (upd F2 p (.lst vs)) := fun b u q => by
      by_cases z : b = p
      · subst z
        rw [upd_same, ← h3]
        exact s.fh _ _ q
      · rw [upd_ne z]; exact q
    exact ⟨_, k2, s2, Rp.lst upd_same (h4.up (k.trans k2))⟩
  | bor _ _ => cases e
  | un => cases e
  | d x => cases e; exact ⟨F2, Same.refl _, s, Rp.up (show Rp F1 v x from h) k⟩
  | yard m q => cases e; exact ⟨F2, Same.refl _, s, YardAt.up (show YardAt Γ.G Γ.C F1 v m q from h) k⟩
  | k x => cases e; exact ⟨F2, Same.refl _, s, Rp.up (show Rp (kn Γ.G F1) v x from h) (kn.up k)⟩
  | fr x => cases e
  | dct _ _ => cases e
  | dtt _ => cases e
  | lt _ => cases e
  | ft ks =>
    cases e
    obtain ⟨p, e1, h⟩ := h
    exact ⟨F2, Same.refl _, s, p, e1, k _ _ h⟩
  | box => cases e; exact ⟨F2, Same.refl _, s, h⟩
  | raw u => cases e; exact ⟨F2, Same.refl _, s, h⟩
theorem ResL.freeze (g : gInv Γ.G H) : ∀ {vs : List V} {rs rs' : List A} {F2 : Hp}, ResL Γ ρ σ F H F1 H1 vs rs → fzs rs = some rs' → Stp Γ.G F H F2 H1 → Same F1 F2 → ∃ F3, Same F2 F3 ∧ Stp Γ.G F H F3 H1 ∧ ArgsR Γ.G Γ.C F3 vs rs'
  | _, _, _, F2, .nil, e, s, k => by cases e; exact ⟨F2, Same.refl _, s, .nil⟩
  | _, _, _, F2, .cons (r := r) (rs := rs) h t, e, s, k => by
    unfold fzs at e
    split at e
    · rename_i d ds e1 e2
      cases e
      obtain ⟨F3, k3, s3, a3⟩ := h.freeze g e1 s k
      obtain ⟨F4, k4, s4, a4⟩ := ResL.freeze g t e2 s3 (k.trans k3)
      exact ⟨F4, k3.trans k4, s4, .cons (a3.up k4) a4⟩
    · cases e
theorem toD_fz {r : A} {d : PyData} (e : toD r = some d) : fz r = some (.d d) := by
  cases r <;> first | (cases e; rfl) | cases e
theorem allD_fzs : ∀ {rs : List A} {ds : List PyData}, allD rs = some ds → fzs rs = some (ds.map A.d)
  | [], _, e => by cases e; rfl
  | r :: rs, _, e => by
    unfold allD at e
    split at e
    · rename_i d ds e1 e2
      cases e
      unfold fzs
      rw [toD_fz e1, allD_fzs e2]
      rfl
    · cases e
theorem ArgsR.data {G : Gh} {C : Addr} : ∀ {vs : List V} {ds : List PyData}, ArgsR G C F vs (ds.map A.d) → RpL F vs ds
  | _, [], h => by cases h; exact .nil
  | _, d :: ds, h => by
    cases h with
    | cons h1 h2 => exact .cons h1 (ArgsR.data h2)
end

/-! ### the judgements -/
abbrev WE := List A → (A → Prop) → Prop
abbrev WT := List A → (Bool → Prop) → Prop
abbrev WA := List A → (List A → Prop) → Prop
def SndE (Γ : Gm) (t : TE) (w : WE) : Prop := ∀ (ρ : List A) (Q : A → Prop) (F : Hp) (σ : St) (H : Hp) (K : VK), M Γ F ρ σ H → w ρ Q →
  (∀ F' H' v r, Stp Γ.G F H F' H' → Res Γ ρ σ F H F' H' v r → Q r → K v H') → t σ H K
def SndT (Γ : Gm) (t : TT) (w : WT) : Prop := ∀ (ρ : List A) (Q : Bool → Prop) (F : Hp) (σ : St) (H : Hp) (K : Bool → Hp → Prop), M Γ F ρ σ H → w ρ Q →
  (∀ F' H' b, Stp Γ.G F H F' H' → Q b → K b H') → t σ H K
def SndA (Γ : Gm) (t : TA) (w : WA) : Prop := ∀ (ρ : List A) (Q : List A → Prop) (F : Hp) (σ : St) (H : Hp) (K : List V → Hp → Prop), M Γ F ρ σ H → w ρ Q →
  (∀ F' H' vs rs, Stp Γ.G F H F' H' → ResL Γ ρ σ F H F' H' vs rs → Q rs → K vs H') → t σ H K
structure PD (X : Cx) (Γ : Gm) (e : Expr) (t : TE) (w : WE) : Prop where
  pe : PE X e t
  sd : SndE Γ t w
structure PDT (X : Cx) (Γ : Gm) (e : Expr) (t : TT) (w : WT) : Prop where
  pt : PT X e t
  sd : SndT Γ t w
structure PDW (X : Cx) (Γ : Gm) (e : Expr) (t : TT) (w : WT) : Prop where
  pw : PW X e t
  sd : SndT Γ t w
structure PDA (X : Cx) (Γ : Gm) (es : List Expr) (t : TA) (w : WA) : Prop where
  pa : PA X es t
  sd : SndA Γ t w
/-- an operation on two values -/
def SndR (Γ : Gm) (r : R2) (f : A → A → (A → Prop) → Prop) : Prop := ∀ (ρ : List A) (σ : St) (F H F1 H1 : Hp) (x y : V) (a b : A) (Q : A → Prop) (K : VK), M Γ F ρ σ H → M Γ F1 ρ σ H1 → Stp Γ.G F H F1 H1 →
  Res Γ ρ σ F H F1 H1 x a → Res Γ ρ σ F H F1 H1 y b → f a b Q → (∀ F2 H2 v c, Stp Γ.G F H F2 H2 → Res Γ ρ σ F H F2 H2 v c → Q c → K v H2) → r x y H1 K
def SndU (Γ : Gm) (r : V → Hp → VK → Prop) (f : A → (A → Prop) → Prop) : Prop := ∀ (ρ : List A) (σ : St) (F H F1 H1 : Hp) (x : V) (a : A) (Q : A → Prop) (K : VK), M Γ F ρ σ H → M Γ F1 ρ σ H1 → Stp Γ.G F H F1 H1 →
  Res Γ ρ σ F H F1 H1 x a → f a Q → (∀ F2 H2 v c, Stp Γ.G F H F2 H2 → Res Γ ρ σ F H F2 H2 v c → Q c → K v H2) → r x H1 K
def SndC (Γ : Gm) (r : List V → Hp → VK → Prop) (f : List A → (A → Prop) → Prop) : Prop := ∀ (ρ : List A) (σ : St) (F H F1 H1 : Hp) (xs : List V) (as : List A) (Q : A → Prop) (K : VK), M Γ F ρ σ H → M Γ F1 ρ σ H1 → Stp Γ.G F H F1 H1 →
  ResL Γ ρ σ F H F1 H1 xs as → f as Q → (∀ F2 H2 v c, Stp Γ.G F H F2 H2 → Res Γ ρ σ F H F2 H2 v c → Q c → K v H2) → r xs H1 K

/-! ### the transformers -/
def wName (i : Nat) : WE := fun ρ Q => match ρ[i]? with
  | some (.own xs) => Q (.bor i xs)
  | some (.bor _ _) => False
  | some .un => False
  | some (.fr _) => False
  | some (.dct _ _) => False
  | some (.dtt _) => False
  | some (.lt _) => False
  | some a => Q a
  | none => False
def wC (a : A) : WE := fun _ Q => Q a
def wOp (f : A → A → (A → Prop) → Prop) (wa wb : WE) : WE := fun ρ Q => wa ρ fun x => wb ρ fun y => f x y Q
def wUn (f : A → (A → Prop) → Prop) (wa : WE) : WE := fun ρ Q => wa ρ fun x => f x Q
def wTest (w : WE) : WT := fun ρ Q => w ρ fun r => match r with
  | .d (.bool b) => Q b
  | _ => False
def wAnd (a b : WT) : WT := fun ρ Q => a ρ fun c => (c = true → b ρ Q) ∧ (c = false → Q false)
def wOr (a b : WT) : WT := fun ρ Q => a ρ fun c => (c = true → Q true) ∧ (c = false → b ρ Q)
def wNot (a : WT) : WT := fun ρ Q => a ρ fun c => Q (!c)
def wAndV (a b : WE) : WE := fun ρ Q => a ρ fun r => match r with
  | .d (.bool c) => (c = true → b ρ Q) ∧ (c = false → Q (.bl false))
  | _ => False
def wOrV (a b : WE) : WE := fun ρ Q => a ρ fun r => match r with
  | .d (.bool c) => (c = true → Q (.bl true)) ∧ (c = false → b ρ Q)
  | _ => False
def wNotV (a : WE) : WE := fun ρ Q => a ρ fun r => match r with
  | .d (.bool c) => Q (.bl (!c))
  | _ => False
def wIfE (t : WT) (a b : WE) : WE := fun ρ Q => t ρ fun c => (c = true → a ρ Q) ∧ (c = false → b ρ Q)
def wNil : WA := fun _ Q => Q []
def wCons (a : WE) (b : WA) : WA := fun ρ Q => a ρ fun x => b ρ fun xs => Q (x :: xs)
def wTupD (wa : WA) : WE := fun ρ Q => wa ρ fun rs => match allD rs with
  | some ds => ds.length ≤ sizeLine ∧ Q (.d (.tuple ds))
  | none => False
def wLstD (wa : WA) : WE := fun ρ Q => wa ρ fun rs => match allD rs with
  | some ds => ds.length ≤ sizeLine ∧ Q (.own ds)
  | none => False
def wCB (f : List A → (A → Prop) → Prop) (wa : WA) : WE := fun ρ Q => wa ρ fun rs => f rs Q
/-- a chain of two comparisons whose middle is an int -/
def wChain (f g : A → A → (A → Prop) → Prop) (a b c : WE) : WE := fun ρ Q => a ρ fun x => b ρ fun y => match y with
  | .d (.int j) => f x (.int j) fun r => match r with
    | .d (.bool k) => (k = true → c ρ fun z => g (.int j) z Q) ∧ (k = false → Q (.bl false))
    | _ => False
  | _ => False

section
variable {X : Cx} {Γ : Gm} {e a b c : Expr} {es : List Expr} {t ta tb tc : TE} {tt tu : TT} {tA : TA} {w wa wb wc : WE} {wt wu : WT} {wA : WA} {pos : Pos}
theorem M.gi' {Γ : Gm} {F : Hp} {ρ : List A} {σ : St} {H : Hp} (m : M Γ F ρ σ H) : gInv Γ.G H := m.st.gi

theorem sd_name (i : Nat) : SndE Γ (tVar i) (wName i) := fun ρ Q F σ H K m h k => by
  unfold wName at h
  split at h
  · rename_i xs e
    obtain ⟨o, ho⟩ : ∃ o, σ[i]? = some o := by
      have hl : i < σ.length := by rw [m.len]; exact (List.getElem?_eq_some_iff.mp e).1
      exact ⟨σ[i], List.getElem?_eq_getElem hl⟩
    obtain ⟨p, vs, rfl, _⟩ := m.sl i _ _ e ho
    exact ⟨_, ho, k F H _ (.bor i xs) m.stp ⟨e, ho⟩ h⟩
  · exact h.elim
  · exact h.elim
  · exact h.elim
  · exact h.elim
  · exact h.elim
  · exact h.elim
  · rename_i a' n1 n2 n3 n4 n5 n6 n7 e
    obtain ⟨o, ho⟩ : ∃ o, σ[i]? = some o := by
      have hl : i < σ.length := by rw [m.len]; exact (List.getElem?_eq_some_iff.mp e).1
      exact ⟨σ[i], List.getElem?_eq_getElem hl⟩
    have q := m.sl i _ _ e ho
    cases a' with
    | un => exact (n3 rfl).elim
    | own xs => exact (n1 xs rfl).elim
    | bor j xs => exact (n2 j xs rfl).elim
    | d x =>
      obtain ⟨v, rfl, r⟩ := q
      exact ⟨v, ho, k F H v (.d x) m.stp r h⟩
    | yard mm kk =>
      obtain ⟨v, rfl, r⟩ := q
      exact ⟨v, ho, k F H v (.yard mm kk) m.stp r h⟩
    | k x =>
      obtain ⟨v, rfl, r⟩ := q
      exact ⟨v, ho, k F H v (.k x) m.stp r h⟩
    | fr x => exact (n4 x rfl).elim
    | dct ks ds => exact (n5 ks ds rfl).elim
    | dtt ks => exact (n6 ks rfl).elim
    | lt ks => exact (n7 ks rfl).elim
    | ft ks =>
      obtain ⟨p, rfl, r⟩ := q
      exact ⟨_, ho, k F H _ (.ft ks) m.stp ⟨p, rfl, r⟩ h⟩
    | box =>
      obtain ⟨b, l, g, rfl⟩ := q
      exact ⟨_, ho, k F H _ .box m.stp ⟨b, l, g, rfl⟩ h⟩
    | raw v =>
      have q' : o = some v := q
      subst q'
      exact ⟨v, ho, k F H v (.raw v) m.stp rfl h⟩
  · exact h.elim
theorem sd_c {v : V} {d : PyData} (h : ∀ F, Rp F v d) : SndE Γ (tC v) (wC (.d d)) := fun ρ Q F σ H K m q k => k F H v (.d d) m.stp (h F) q
theorem sd_raw {v : V} : SndE Γ (tC v) (wC (.raw v)) := fun ρ Q F σ H K m q k => k F H v (.raw v) m.stp rfl q
theorem sd_op {r : R2} {f : A → A → (A → Prop) → Prop} (hr : SndR Γ r f) (ha : SndE Γ ta wa) (hb : SndE Γ tb wb) : SndE Γ (tOp r ta tb) (wOp f wa wb) := fun ρ Q F σ H K m h k =>
  ha ρ _ F σ H _ m h fun F1 H1 x a1 s1 r1 h1 => hb ρ _ F1 σ H1 _ (m.step s1) h1 fun F2 H2 y b1 s2 r2 h2 =>
    hr ρ σ F H F2 H2 x y a1 b1 Q K m ((m.step s1).step s2) (s1.trans m.gi s2) (r1.step m.gi s1 s2) (r2.back s1) h2 k
theorem sd_un {r : V → Hp → VK → Prop} {f : A → (A → Prop) → Prop} (hr : SndU Γ r f) (ha : SndE Γ ta wa) : SndE Γ (tUn r ta) (wUn f wa) := fun ρ Q F σ H K m h k =>
  ha ρ _ F σ H _ m h fun F1 H1 x a1 s1 r1 h1 => hr ρ σ F H F1 H1 x a1 Q K m (m.step s1) s1 r1 h1 k
theorem sd_test (h : SndE Γ t w) : SndT Γ (tTest t) (wTest w) := fun ρ Q F σ H K m q k =>
  h ρ _ F σ H _ m q fun F1 H1 v r s1 r1 h1 => by
    split at h1
    · rename_i b
      have r2 : Rp F1 v (.bool b) := r1
      cases r2
      exact ⟨b, rfl, k F1 H1 b s1 h1⟩
    · exact h1.elim
theorem sd_tB (h : SndE Γ t w) : SndT Γ (tB t) (wTest w) := sd_test h
theorem sd_and (h1 : SndT Γ tt wt) (h2 : SndT Γ tu wu) : SndT Γ (tAnd tt tu) (wAnd wt wu) := fun ρ Q F σ H K m q k =>
  h1 ρ _ F σ H _ m q fun F1 H1 b s1 p => by
    cases b with
    | true => exact iteT (h2 ρ _ F1 σ H1 _ (m.step s1) (p.1 rfl) fun F2 H2 c s2 p2 => k F2 H2 c (s1.trans m.gi s2) p2)
    | false => exact iteF (k F1 H1 false s1 (p.2 rfl))
theorem sd_or (h1 : SndT Γ tt wt) (h2 : SndT Γ tu wu) : SndT Γ (tOr tt tu) (wOr wt wu) := fun ρ Q F σ H K m q k =>
  h1 ρ _ F σ H _ m q fun F1 H1 b s1 p => by
    cases b with
    | true => exact iteT (k F1 H1 true s1 (p.1 rfl))
    | false => exact iteF (h2 ρ _ F1 σ H1 _ (m.step s1) (p.2 rfl) fun F2 H2 c s2 p2 => k F2 H2 c (s1.trans m.gi s2) p2)
theorem sd_not (h1 : SndT Γ tt wt) : SndT Γ (tNot tt) (wNot wt) := fun ρ Q F σ H K m q k =>
  h1 ρ _ F σ H _ m q fun F1 H1 b s1 p => k F1 H1 (!b) s1 p
theorem sd_andV (h1 : SndE Γ ta wa) (h2 : SndE Γ tb wb) : SndE Γ (tAndV ta tb) (wAndV wa wb) := fun ρ Q F σ H K m q k =>
  h1 ρ _ F σ H _ m q fun F1 H1 v r s1 r1 p => by
    split at p
    · rename_i c
      have r2 : Rp F1 v (.bool c) := r1
      cases r2
      refine ⟨c, rfl, ?_⟩
      cases c with
      | true => exact iteT (h2 ρ _ F1 σ H1 _ (m.step s1) (p.1 rfl) fun F2 H2 v2 r2 s2 q2 p2 => k F2 H2 v2 r2 (s1.trans m.gi s2) (q2.back s1) p2)
      | false => exact iteF (k F1 H1 _ (.bl false) s1 (Rp.bl false) (p.2 rfl))
    · exact p.elim
theorem sd_orV (h1 : SndE Γ ta wa) (h2 : SndE Γ tb wb) : SndE Γ (tOrV ta tb) (wOrV wa wb) := fun ρ Q F σ H K m q k =>
  h1 ρ _ F σ H _ m q fun F1 H1 v r s1 r1 p => by
    split at p
    · rename_i c
      have r2 : Rp F1 v (.bool c) := r1
      cases r2
      refine ⟨c, rfl, ?_⟩
      cases c with
      | false => exact iteF (h2 ρ _ F1 σ H1 _ (m.step s1) (p.2 rfl) fun F2 H2 v2 r2 s2 q2 p2 => k F2 H2 v2 r2 (s1.trans m.gi s2) (q2.back s1) p2)
      | true => exact iteT (k F1 H1 _ (.bl true) s1 (Rp.bl true) (p.1 rfl))
    · exact p.elim
theorem sd_notV (h1 : SndE Γ ta wa) : SndE Γ (tNotV ta) (wNotV wa) := fun ρ Q F σ H K m q k =>
  h1 ρ _ F σ H _ m q fun F1 H1 v r s1 r1 p => by
    split at p
    · rename_i c
      have r2 : Rp F1 v (.bool c) := r1
      cases r2
      exact ⟨c, rfl, k F1 H1 _ (.bl (!c)) s1 (Rp.bl _) p⟩
    · exact p.elim
theorem sd_if (h1 : SndT Γ tt wt) (h2 : SndE Γ ta wa) (h3 : SndE Γ tb wb) : SndE Γ (tIf tt ta tb) (wIfE wt wa wb) := fun ρ Q F σ H K m q k =>
  h1 ρ _ F σ H _ m q fun F1 H1 b s1 p => by
    cases b with
    | true => exact iteT (h2 ρ _ F1 σ H1 _ (m.step s1) (p.1 rfl) fun F2 H2 v2 r2 s2 q2 p2 => k F2 H2 v2 r2 (s1.trans m.gi s2) (q2.back s1) p2)
    | false => exact iteF (h3 ρ _ F1 σ H1 _ (m.step s1) (p.2 rfl) fun F2 H2 v2 r2 s2 q2 p2 => k F2 H2 v2 r2 (s1.trans m.gi s2) (q2.back s1) p2)
theorem sd_nil : SndA Γ tNil wNil := fun ρ Q F σ H K m q k => k F H [] [] m.stp .nil q
theorem sd_cons (h1 : SndE Γ ta wa) (h2 : SndA Γ tA wA) : SndA Γ (tCons ta tA) (wCons wa wA) := fun ρ Q F σ H K m q k =>
  h1 ρ _ F σ H _ m q fun F1 H1 v r s1 r1 p => h2 ρ _ F1 σ H1 _ (m.step s1) p fun F2 H2 vs rs s2 r2 p2 => k F2 H2 (v :: vs) (r :: rs) (s1.trans m.gi s2) (.cons (r1.step m.gi s1 s2) (r2.back s1)) p2
theorem sd_tup (h : SndA Γ tA wA) : SndE Γ (tTup tA) (wTupD wA) := fun ρ Q F σ H K m q k =>
  h ρ _ F σ H _ m q fun F1 H1 vs rs s1 r1 p => by
    split at p
    · rename_i ds e
      obtain ⟨F2, k2, s2, a2⟩ := r1.freeze m.gi (allD_fzs e) s1 (Same.refl _)
      have l2 := a2.data
      refine ⟨by rw [l2.length]; exact p.1, fun x hx => ?_⟩
      have s3 := Stp.new1 (o := .tup vs) s2.fh s2.gi s2.box hx
      exact k _ _ _ (.d (.tuple ds)) (s2.trans m.gi s3) (Rp.tup upd_same (l2.up s3.ff)) p.2
    · exact p.elim
theorem sd_lst (h : SndA Γ tA wA) : SndE Γ (tLst tA) (wLstD wA) := fun ρ Q F σ H K m q k =>
  h ρ _ F σ H _ m q fun F1 H1 vs rs s1 r1 p => by
    split at p
    · rename_i ds e
      obtain ⟨F2, k2, s2, a2⟩ := r1.freeze m.gi (allD_fzs e) s1 (Same.refl _)
      have l2 := a2.data
      refine ⟨by rw [l2.length]; exact p.1, fun x hx => ?_⟩
      have s3 := Stp.new0 (o := .lst vs) s2.fh s2.gi s2.box hx
      exact k _ _ _ (.own ds) (s2.trans m.gi s3) ⟨x, vs, rfl, s2.none_back hx, s2.fh.free hx, upd_same, l2⟩ p.2
    · exact p.elim
theorem sd_cb {r : List V → Hp → VK → Prop} {f : List A → (A → Prop) → Prop} (hr : SndC Γ r f) (h : SndA Γ tA wA) : SndE Γ (tCB r tA) (wCB f wA) := fun ρ Q F σ H K m q k =>
  h ρ _ F σ H _ m q fun F1 H1 vs rs s1 r1 p => hr ρ σ F H F1 H1 vs rs Q K m (m.step s1) s1 r1 p k
theorem sd_chain {r r' : R2} {f g : A → A → (A → Prop) → Prop} (hr : SndR Γ r f) (hr' : SndR Γ r' g) (h1 : SndE Γ ta wa) (h2 : SndE Γ tb wb) (h3 : SndE Γ tc wc) : SndE Γ (tChain r r' ta tb tc) (wChain f g wa wb wc) := fun ρ Q F σ H K m q k =>
  h1 ρ _ F σ H _ m q fun F1 H1 x a1 s1 r1 p1 => h2 ρ _ F1 σ H1 _ (m.step s1) p1 fun F2 H2 y b1 s2 r2 p2 => by
    have m2 := (m.step s1).step s2
    have s12 := s1.trans m.gi s2
    split at p2
    · rename_i j
      have r2' : Rp F2 y (.int j) := r2
      cases r2'
      refine hr ρ σ F H F2 H2 x (.int j) a1 (.int j) _ _ m m2 s12 (r1.step m.gi s1 s2) (Rp.int j) p2 fun F3 H3 v c s3 r3 p3 => ?_
      split at p3
      · rename_i b
        have r3' : Rp F3 v (.bool b) := r3
        cases r3'
        refine ⟨b, rfl, ?_⟩
        cases b with
        | true =>
          refine iteT (h3 ρ _ F3 σ H3 _ (m.step s3) (p3.1 rfl) fun F4 H4 z c4 s4 r4 p4 => ?_)
          exact hr' ρ σ F H F4 H4 (.int j) z (.int j) c4 Q K m ((m.step s3).step s4) (s3.trans m.gi s4) (Rp.int j) (r4.back s3) p4 k
        | false => exact iteF (k F3 H3 _ (.bl false) s3 (Rp.bl false) (p3.2 rfl))
      · exact p3.elim
    · exact p2.elim
end
end Yd

/-! YdC: the operations on abstract values, and the rules that pair a piece of syntax with its transformer. -/
namespace Yd
open PySem L2

/-! ### operations -/
def addA (a b : A) (Q : A → Prop) : Prop := match a, b with
  | .d (.int i), .d (.int j) => Q (.int (i + j))
  | .d (.str x), .d (.str y) => x.length + y.length ≤ sizeLine ∧ Q (.str (x ++ y))
  | .d (.tuple xs), .d (.tuple ys) => xs ≠ [] ∧ xs.length + ys.length ≤ sizeLine ∧ Q (.tup (xs ++ ys))
  | a, b => match asL a, asL b with
    | some xs, some ys => xs.length + ys.length ≤ sizeLine ∧ Q (.own (xs ++ ys))
    | _, _ => False
def subA (a b : A) (Q : A → Prop) : Prop := match a, b with
  | .d (.int i), .d (.int j) => Q (.int (i - j))
  | _, _ => False
def mulA (a b : A) (Q : A → Prop) : Prop := match a, b with
  | .d (.int i), .d (.int j) => CMul i j ∧ Q (.int (i * j))
  | a, .d (.int k) => match asL a with
    | some xs => -(2 ^ 63) ≤ k ∧ k < 2 ^ 63 ∧ xs.length * k.toNat ≤ sizeLine ∧ Q (.own (List.replicate k.toNat xs).flatten)
    | none => False
  | _, _ => False
def fdivA (a b : A) (Q : A → Prop) : Prop := match a, b with
  | .d (.int i), .d (.int j) => CDiv i j ∧ Q (.int (i / j))
  | _, _ => False
def modA (a b : A) (Q : A → Prop) : Prop := match a, b with
  | .d (.int i), .d (.int j) => 0 < j ∧ Q (.int (i % j))
  | _, _ => False
def negA (a : A) (Q : A → Prop) : Prop := match a with
  | .d (.int i) => Q (.int (-i))
  | _ => False
def cmpA (p : Int → Int → Bool) (a b : A) (Q : A → Prop) : Prop := match a, b with
  | .d (.int i), .d (.int j) => Q (.bl (p i j))
  | _, _ => False
abbrev ltA := cmpA fun i j => decide (i < j)
abbrev leA := cmpA fun i j => decide (i ≤ j)
abbrev gtA := cmpA fun i j => decide (j < i)
abbrev geA := cmpA fun i j => decide (j ≤ i)
def eqA (a b : A) (Q : A → Prop) : Prop := match a, b with
  | .d (.int i), .d (.int j) => Q (.bl (decide (i = j)))
  | .d (.str i), .d (.str j) => Q (.bl (decide (i = j)))
  | a, b => match rdD a, rdD b with
    | some x, some y => SeqAt.shaped x = true ∧ SeqAt.shaped y = true ∧ Q (.bl (PyData.eqv x y))
    | _, _ => False
def neA (a b : A) (Q : A → Prop) : Prop := match a, b with
  | .d (.int i), .d (.int j) => Q (.bl (!decide (i = j)))
  | .d (.str i), .d (.str j) => Q (.bl (!decide (i = j)))
  | a, b => match rdD a, rdD b with
    | some x, some y => SeqAt.shaped x = true ∧ SeqAt.shaped y = true ∧ Q (.bl (!PyData.eqv x y))
    | _, _ => False
/-- is None: the right side None -/
def isN : A → Option Bool
  | .d .none => some true
  | .d (.bool _) => some false
  | .d (.int _) => some false
  | .d (.str _) => some false
  | .d (.list _) => some false
  | .d (.tuple _) => some false
  | .own _ => some false
  | .bor _ _ => some false
  | .yard _ _ => some false
  | _ => none
def isA (a b : A) (Q : A → Prop) : Prop := match b with
  | .d .none => (match isN a with
    | some k => Q (.bl k)
    | none => False)
  | _ => False
def notA (a b : A) (Q : A → Prop) : Prop := match b with
  | .d .none => (match isN a with
    | some k => Q (.bl (!k))
    | none => False)
  | _ => False
/-- x in xs: a list of data, a tuple of ints -/
def inA (neg : Bool) (a b : A) (Q : A → Prop) : Prop := match b with
  | .d (.tuple ds) => (match a with
    | .d (.int i) => ∃ ns : List Int, ds = ns.map PyData.int ∧ Q (.bl (if neg then !decide (i ∈ ns) else decide (i ∈ ns)))
    | _ => False)
  | b => match rdD a, asL b with
    | some x, some ds => SeqAt.shaped x = true ∧ SeqAt.shaped (.list ds) = true ∧ Q (.bl (if neg then !(ds.any fun z => PyData.eqv z x) else ds.any fun z => PyData.eqv z x))
    | _, _ => False
/-- what is read out of what is known from without -/
def kA : PyData → A
  | .none => .d .none
  | .bool b => .d (.bool b)
  | .int i => .d (.int i)
  | .str x => .d (.str x)
  | x => .k x
/-- a[i] -/
def ixA (a b : A) (Q : A → Prop) : Prop := match b with
  | .d (.int i) => (match a with
    | .d (.tuple xs) => ∃ x, atI xs i = some x ∧ Q (.d x)
    | .k (.tuple xs) => ∃ x, atI xs i = some x ∧ Q (kA x)
    | .k (.list xs) => ∃ x, atI xs i = some x ∧ Q (kA x)
    | a => match asL a with
      | some xs => ∃ x, atI xs i = some x ∧ Q (.d x)
      | none => False)
  | _ => False
def cutD {α : Type} (xs : List α) (lo hi : Option Int) : List α := (xs.drop (HT.sIx xs.length 0 lo)).take (HT.sIx xs.length xs.length hi - HT.sIx xs.length 0 lo)
def slA (a : A) (lo hi : Option Int) (Q : A → Prop) : Prop := match a with
  | .d (.tuple xs) => ¬ (HT.sIx xs.length 0 lo = 0 ∧ HT.sIx xs.length xs.length hi = xs.length) ∧ Q (.tup (cutD xs lo hi))
  | a => match asL a with
    | some xs => Q (.own (cutD xs lo hi))
    | none => False
def lenA (as : List A) (Q : A → Prop) : Prop := match as with
  | [.k (.tuple xs)] => Q (.int xs.length)
  | [.d (.tuple xs)] => Q (.int xs.length)
  | [.d (.str x)] => x.length ≤ sizeLine ∧ Q (.int x.length)
  | [a] => (match asL a with
    | some xs => Q (.int xs.length)
    | none => False)
  | _ => False
def listA (as : List A) (Q : A → Prop) : Prop := match as with
  | [.k (.tuple xs)] => ∃ ns : List Int, xs = ns.map PyData.int ∧ Q (.own xs)
  | [.d (.tuple xs)] => Q (.own xs)
  | [a] => (match asL a with
    | some xs => Q (.own xs)
    | none => False)
  | _ => False
def tupleA (as : List A) (Q : A → Prop) : Prop := match as with
  | [.d (.tuple xs)] => Q (.tup xs)
  | [a] => (match asL a with
    | some xs => Q (.tup xs)
    | none => False)
  | _ => False
def intA (as : List A) (Q : A → Prop) : Prop := match as with
  | [.d (.int i)] => Q (.int i)
  | [.d (.bool b)] => Q (.int (if b then 1 else 0))
  | _ => False
def minA (as : List A) (Q : A → Prop) : Prop := match as with
  | [.d (.int i), .d (.int j)] => Q (.int (if j < i then j else i))
  | _ => False
def maxA (as : List A) (Q : A → Prop) : Prop := match as with
  | [.d (.int i), .d (.int j)] => Q (.int (if j > i then j else i))
  | _ => False
def intsD (t : List Int) : PyData := .tuple (t.map PyData.int)
/-- sorted of a list of ints -/
def sortA (as : List A) (Q : A → Prop) : Prop := match as with
  | [a] => (match asL a with
    | some xs => ∃ ns : List Int, xs = ns.map PyData.int ∧ ns.length < 64 ∧ ∀ ms : List Int, ms.Perm ns → ms.Pairwise (· ≤ ·) → Q (.own (ms.map PyData.int))
    | none => False)
  | _ => False
/-- sorted of a list of tuples of d ints -/
def sortTA (d : Nat) (B : Int) (as : List A) (Q : A → Prop) : Prop := match as with
  | [a] => (match asL a with
    | some xs => ∃ ts : List (List Int), xs = ts.map intsD ∧ ts.length < 64 ∧ (∀ t ∈ ts, t.length = d ∧ TS.Bd B t) ∧ ∀ us : List (List Int), us.Perm ts → us.Pairwise (fun x y => TS.code B x ≤ TS.code B y) → Q (.own (us.map intsD))
    | none => False)
  | _ => False
/-- isinstance(x, T), T a built-in class -/
def tyD : A → Option String
  | .d .none => some "NoneType"
  | .d (.bool _) => some "bool"
  | .d (.int _) => some "int"
  | .d (.str _) => some "str"
  | .d (.list _) => some "list"
  | .own _ => some "list"
  | .bor _ _ => some "list"
  | .d (.tuple _) => some "tuple"
  | _ => none

section
variable {Γ : Gm} {K : PySem.W.Frag} {X : Cx}
theorem stp0 {ρ : List A} {σ : St} {F H : Hp} (m : M Γ F ρ σ H) : Stp Γ.G F H F H := m.stp
theorem snd_add : SndR Γ (fun x y H Q => rI0 (fun i j => .int (i + j)) x y H Q ∨ (∃ i j, x = .str i ∧ y = .str j ∧ i.length + j.length ≤ sizeLine ∧ Q (.str (i ++ j)) H) ∨ rCatT K x y H Q ∨ rCat x y H Q) addA := by
  intro ρ σ F H F1 H1 x y a b Q K0 m m1 s ra rb h k
  unfold addA at h
  split at h
  · cases (show Rp F1 x (.int _) from ra)
    cases (show Rp F1 y (.int _) from rb)
    exact .inl ⟨_, _, rfl, rfl, k F1 H1 _ (.int _) s (Rp.int _) h⟩
  · cases (show Rp F1 x (.str _) from ra)
    cases (show Rp F1 y (.str _) from rb)
    exact .inr (.inl ⟨_, _, rfl, rfl, h.1, k F1 H1 _ (.str _) s (Rp.str _) h.2⟩)
  · rename_i xs ys
    obtain ⟨p, vs, rfl, f1, h1, l1⟩ := ra.tupl m1
    obtain ⟨q, ws, rfl, f2, h2, l2⟩ := rb.tupl m1
    obtain ⟨n, z, h⟩ := h
    refine .inr (.inr (.inl ⟨p, q, vs, ws, rfl, rfl, SqT.of h1, SqT.of h2, fun e => n (by subst e; cases l1; rfl), by rw [l1.length, l2.length]; exact z, fun e => ?_, fun e t ht => ?_⟩))
    · subst e
      cases l2
      rw [List.append_nil] at h
      exact k F1 H1 _ (.tup xs) s (Rp.tup f1 l1) h
    · have s2 := Stp.new1 (o := .tup (vs ++ ws)) m1.fh m1.gi m1.st.box ht
      exact k _ _ _ (.tup (xs ++ ys)) (s.trans m.gi s2) (Rp.tup upd_same ((l1.append l2).up s2.ff)) h
  · split at h
    · rename_i xs ys e1 e2
      obtain ⟨p, vs, rfl, h1, l1⟩ := ra.list m1 e1
      obtain ⟨q, ws, rfl, h2, l2⟩ := rb.list m1 e2
      refine .inr (.inr (.inr ⟨p, q, vs, ws, rfl, rfl, h1, h2, by rw [l1.length, l2.length]; exact h.1, fun t ht => ?_⟩))
      have s2 := Stp.new0 (o := .lst (vs ++ ws)) m1.fh m1.gi m1.st.box ht
      exact k _ _ _ (.own (xs ++ ys)) (s.trans m.gi s2) ⟨t, _, rfl, s.none_back ht, m1.fh.free ht, upd_same, (l1.append l2)⟩ h.2
    · exact h.elim
theorem snd_sub : SndR Γ (rI0 fun i j => .int (i - j)) subA := by
  intro ρ σ F H F1 H1 x y a b Q K0 m m1 s ra rb h k
  unfold subA at h
  split at h
  · cases (show Rp F1 x (.int _) from ra)
    cases (show Rp F1 y (.int _) from rb)
    exact ⟨_, _, rfl, rfl, k F1 H1 _ (.int _) s (Rp.int _) h⟩
  · exact h.elim
theorem snd_mul : SndR Γ (fun x y H Q => rI CMul (fun i j => .int (i * j)) x y H Q ∨ rRep x y H Q) mulA := by
  intro ρ σ F H F1 H1 x y a b Q K0 m m1 s ra rb h k
  unfold mulA at h
  split at h
  · cases (show Rp F1 x (.int _) from ra)
    cases (show Rp F1 y (.int _) from rb)
    exact .inl ⟨_, _, rfl, rfl, h.1, k F1 H1 _ (.int _) s (Rp.int _) h.2⟩
  · rename_i kk hneg
    split at h
    · rename_i xs e1
      cases (show Rp F1 y (.int _) from rb)
      obtain ⟨p, vs, rfl, h1, l1⟩ := ra.list m1 e1
      obtain ⟨z1, z2, z3, h⟩ := h
      refine .inr ⟨p, _, vs, rfl, rfl, h1, z1, z2, by rw [l1.length]; exact z3, fun t ht => ?_⟩
      have s2 := Stp.new0 (o := .lst (List.replicate kk.toNat vs).flatten) m1.fh m1.gi m1.st.box ht
      exact k _ _ _ (.own _) (s.trans m.gi s2) ⟨t, _, rfl, s.none_back ht, m1.fh.free ht, upd_same, l1.rep _⟩ h
    · exact h.elim
  · exact h.elim
theorem snd_fdiv : SndR Γ (rI CDiv fun i j => .int (i / j)) fdivA := by
  intro ρ σ F H F1 H1 x y a b Q K0 m m1 s ra rb h k
  unfold fdivA at h
  split at h
  · cases (show Rp F1 x (.int _) from ra)
    cases (show Rp F1 y (.int _) from rb)
    exact ⟨_, _, rfl, rfl, h.1, k F1 H1 _ (.int _) s (Rp.int _) h.2⟩
  · exact h.elim
theorem snd_mod : SndR Γ (rI (fun _ j => 0 < j) fun i j => .int (i % j)) modA := by
  intro ρ σ F H F1 H1 x y a b Q K0 m m1 s ra rb h k
  unfold modA at h
  split at h
  · cases (show Rp F1 x (.int _) from ra)
    cases (show Rp F1 y (.int _) from rb)
    exact ⟨_, _, rfl, rfl, h.1, k F1 H1 _ (.int _) s (Rp.int _) h.2⟩
  · exact h.elim
theorem snd_neg : SndU Γ (rU fun i => .int (-i)) negA := by
  intro ρ σ F H F1 H1 x a Q K0 m m1 s ra h k
  unfold negA at h
  split at h
  · cases (show Rp F1 x (.int _) from ra)
    exact ⟨_, rfl, k F1 H1 _ (.int _) s (Rp.int _) h⟩
  · exact h.elim
theorem snd_cmp {p : Int → Int → Bool} : SndR Γ (rI0 fun i j => .bl (p i j)) (cmpA p) := by
  intro ρ σ F H F1 H1 x y a b Q K0 m m1 s ra rb h k
  unfold cmpA at h
  split at h
  · cases (show Rp F1 x (.int _) from ra)
    cases (show Rp F1 y (.int _) from rb)
    exact ⟨_, _, rfl, rfl, k F1 H1 _ (.bl _) s (Rp.bl _) h⟩
  · exact h.elim
theorem snd_eq : SndR Γ (fun x y H Q => rEqD K x y H Q ∨ rEq x y H Q) eqA := by
  intro ρ σ F H F1 H1 x y a b Q K0 m m1 s ra rb h k
  unfold eqA at h
  split at h
  · rename_i i j
    cases (show Rp F1 x (.int _) from ra)
    cases (show Rp F1 y (.int _) from rb)
    refine .inr ⟨rfl, ?_⟩
    have e : decide (V.int i = V.int j) = decide (i = j) := by simp
    rw [e]
    exact k F1 H1 _ (.bl _) s (Rp.bl _) h
  · rename_i i j
    cases (show Rp F1 x (.str _) from ra)
    cases (show Rp F1 y (.str _) from rb)
    refine .inr ⟨rfl, ?_⟩
    have e : decide (V.str i = V.str j) = decide (i = j) := by simp
    rw [e]
    exact k F1 H1 _ (.bl _) s (Rp.bl _) h
  · split at h
    · rename_i e1 e2
      exact .inl ⟨_, _, ra.dp m1 e1, rb.dp m1 e2, h.1, h.2.1, k F1 H1 _ (.bl _) s (Rp.bl _) h.2.2⟩
    · exact h.elim
theorem snd_ne : SndR Γ (fun x y H Q => rNeD K x y H Q ∨ rNe x y H Q) neA := by
  intro ρ σ F H F1 H1 x y a b Q K0 m m1 s ra rb h k
  unfold neA at h
  split at h
  · rename_i i j
    cases (show Rp F1 x (.int _) from ra)
    cases (show Rp F1 y (.int _) from rb)
    refine .inr ⟨rfl, ?_⟩
    have e : decide (V.int i = V.int j) = decide (i = j) := by simp
    rw [e]
    exact k F1 H1 _ (.bl _) s (Rp.bl _) h
  · rename_i i j
    cases (show Rp F1 x (.str _) from ra)
    cases (show Rp F1 y (.str _) from rb)
    refine .inr ⟨rfl, ?_⟩
    have e : decide (V.str i = V.str j) = decide (i = j) := by simp
    rw [e]
    exact k F1 H1 _ (.bl _) s (Rp.bl _) h
  · split at h
    · rename_i e1 e2
      exact .inl ⟨_, _, ra.dp m1 e1, rb.dp m1 e2, h.1, h.2.1, k F1 H1 _ (.bl _) s (Rp.bl _) h.2.2⟩
    · exact h.elim
theorem Res.isN {ρ : List A} {σ : St} {F H F1 H1 : Hp} {x : V} {a : A} {k : Bool} (m1 : M Γ F1 ρ σ H1) (ra : Res Γ ρ σ F H F1 H1 x a) (e : isN a = some k) : decide (x = .non) = k := by
  have nl : ∀ {ys : List PyData}, asL a = some ys → decide (x = .non) = false := fun {ys} q => by
    obtain ⟨p, vs, rfl, _, _⟩ := ra.list m1 q
    rfl
  cases a with
  | d y =>
    cases y with
    | none => cases e; cases (show Rp F1 x .none from ra); rfl
    | bool _ => cases e; cases (show Rp F1 x (.bool _) from ra); rfl
    | int _ => cases e; cases (show Rp F1 x (.int _) from ra); rfl
    | str _ => cases e; cases (show Rp F1 x (.str _) from ra); rfl
    | list _ => cases e; exact nl rfl
    | tuple _ => cases e; obtain ⟨p, vs, rfl, _⟩ := ra.tupl m1; rfl
    | dict _ => cases e
  | own _ => cases e; exact nl rfl
  | bor _ _ => cases e; exact nl rfl
  | yard _ _ =>
    cases e
    obtain ⟨a, _, _, _, rfl, _⟩ := (show YardAt Γ.G Γ.C F1 x _ _ from ra)
    rfl
  | _ => cases e
theorem snd_is : SndR Γ (fun x y H Q => y = .non ∧ Q (.bl (decide (x = .non))) H) isA := by
  intro ρ σ F H F1 H1 x y a b Q K0 m m1 s ra rb h k
  unfold isA at h
  split at h
  · split at h
    · rename_i kk e
      cases (show Rp F1 y .none from rb)
      refine ⟨rfl, ?_⟩
      rw [Res.isN m1 ra e]
      exact k F1 H1 _ (.bl _) s (Rp.bl _) h
    · exact h.elim
  · exact h.elim
theorem snd_not : SndR Γ (fun x y H Q => y = .non ∧ Q (.bl (!decide (x = .non))) H) notA := by
  intro ρ σ F H F1 H1 x y a b Q K0 m m1 s ra rb h k
  unfold notA at h
  split at h
  · split at h
    · rename_i kk e
      cases (show Rp F1 y .none from rb)
      refine ⟨rfl, ?_⟩
      rw [Res.isN m1 ra e]
      exact k F1 H1 _ (.bl _) s (Rp.bl _) h
    · exact h.elim
  · exact h.elim
theorem inV_ints (i : Int) : ∀ ns : List Int, inV (.int i) (ns.map V.int) = decide (i ∈ ns)
  | [] => by simp [inV]
  | n :: ns => by
    have ih := inV_ints i ns
    unfold inV at ih ⊢
    rw [List.map_cons, List.any_cons, ih]
    have e : eqV (.int n) (.int i) = decide (i = n) := by
      simp only [eqV]
      by_cases q : n = i
      · subst q; simp
      · have q' : ¬ i = n := fun z => q z.symm
        simp [q, q']
    rw [e]
    by_cases q : i = n
    · subst q; simp
    · simp [q]
theorem flat_ints (ns : List Int) : (ns.map V.int).all flatV = true := by
  rw [List.all_eq_true]
  intro v hv
  obtain ⟨n, _, rfl⟩ := List.mem_map.mp hv
  rfl
theorem snd_in : SndR Γ (fun x y H Q => rInD K x y H Q ∨ rIn K false x y H Q) (inA false) := by
  intro ρ σ F H F1 H1 x y a b Q K0 m m1 s ra rb h k
  unfold inA at h
  split at h
  · rename_i ds
    split at h
    · rename_i i
      obtain ⟨ns, rfl, h⟩ := h
      cases (show Rp F1 x (.int _) from ra)
      obtain ⟨q, ws, rfl, f2, h2, l2⟩ := rb.tupl m1
      have e := l2.of_ints
      subst e
      refine .inr ⟨q, _, rfl, .inr (SqT.of h2), rfl, flat_ints ns, ?_⟩
      rw [inV_ints]
      exact k F1 H1 _ (.bl _) s (Rp.bl _) h
    · exact h.elim
  · split at h
    · rename_i x' ds e1 e2
      have hb : rdD b = some (.list ds) := by
        cases b with
        | own _ => cases e2; rfl
        | bor _ _ => cases e2; rfl
        | d z => cases z with
          | list _ => cases e2; rfl
          | _ => cases e2
        | _ => cases e2
      exact .inl ⟨_, _, ra.dp m1 e1, rb.dp m1 hb, h.1, h.2.1, k F1 H1 _ (.bl _) s (Rp.bl _) h.2.2⟩
    · exact h.elim
theorem snd_nin : SndR Γ (fun x y H Q => rNotInD K x y H Q ∨ rIn K true x y H Q) (inA true) := by
  intro ρ σ F H F1 H1 x y a b Q K0 m m1 s ra rb h k
  unfold inA at h
  split at h
  · rename_i ds
    split at h
    · rename_i i
      obtain ⟨ns, rfl, h⟩ := h
      cases (show Rp F1 x (.int _) from ra)
      obtain ⟨q, ws, rfl, f2, h2, l2⟩ := rb.tupl m1
      have e := l2.of_ints
      subst e
      refine .inr ⟨q, _, rfl, .inr (SqT.of h2), rfl, flat_ints ns, ?_⟩
      rw [inV_ints]
      exact k F1 H1 _ (.bl _) s (Rp.bl _) h
    · exact h.elim
  · split at h
    · rename_i x' ds e1 e2
      have hb : rdD b = some (.list ds) := by
        cases b with
        | own _ => cases e2; rfl
        | bor _ _ => cases e2; rfl
        | d z => cases z with
          | list _ => cases e2; rfl
          | _ => cases e2
        | _ => cases e2
      exact .inl ⟨_, _, ra.dp m1 e1, rb.dp m1 hb, h.1, h.2.1, k F1 H1 _ (.bl _) s (Rp.bl _) h.2.2⟩
    · exact h.elim
theorem RpL.at {F : Hp} {vs : List V} {ds : List PyData} (l : RpL F vs ds) {i : Int} {x : PyData} (e : atI ds i = some x) : ∃ v, atI vs i = some v ∧ Rp F v x := by
  unfold atI at e ⊢
  rw [l.length]
  cases q : ixN ds.length i with
  | none => rw [q] at e; cases e
  | some j =>
    rw [q] at e
    obtain ⟨v, e1, e2⟩ := l.get (i := j) (d := x) e
    exact ⟨v, e1, e2⟩
theorem res_kA {Γ : Gm} {ρ : List A} {σ : St} {F H F1 H1 : Hp} {v : V} {x : PyData} (h : Rp (kn Γ.G F1) v x) : Res Γ ρ σ F H F1 H1 v (kA x) := by
  cases x with
  | none => cases h; exact Rp.non
  | bool b => cases h; exact Rp.bl b
  | int i => cases h; exact Rp.int i
  | str s => cases h; exact Rp.str s
  | list xs => exact h
  | tuple xs => exact h
  | dict xs => exact h
theorem snd_ix : SndR Γ (rIx K) ixA := by
  intro ρ σ F H F1 H1 x y a b Q K0 m m1 s ra rb h k
  unfold ixA at h
  split at h
  · rename_i i
    cases (show Rp F1 y (.int _) from rb)
    split at h
    · rename_i xs
      obtain ⟨z, e, h⟩ := h
      obtain ⟨p, vs, rfl, f1, h1, l1⟩ := ra.tupl m1
      obtain ⟨v, e1, r1⟩ := l1.at e
      exact .inr (.inl ⟨p, vs, i, v, rfl, rfl, SqT.of h1, e1, k F1 H1 v (.d z) s r1 h⟩)
    · rename_i xs
      obtain ⟨z, e, h⟩ := h
      cases (show Rp (kn Γ.G F1) x (.tuple xs) from ra) with
      | @tup p vs _ f1 l1 =>
      have h1 := kn.same m1.fh m1.gi _ _ f1
      obtain ⟨v, e1, r1⟩ := l1.at e
      exact .inr (.inl ⟨p, vs, i, v, rfl, rfl, SqT.of h1, e1, k F1 H1 v (kA z) s (res_kA r1) h⟩)
    · rename_i xs
      obtain ⟨z, e, h⟩ := h
      cases (show Rp (kn Γ.G F1) x (.list xs) from ra) with
      | @lst p vs _ f1 l1 =>
      have h1 := kn.same m1.fh m1.gi _ _ f1
      obtain ⟨v, e1, r1⟩ := l1.at e
      exact .inl ⟨p, vs, i, v, rfl, rfl, SqL.of h1, e1, k F1 H1 v (kA z) s (res_kA r1) h⟩
    · split at h
      · rename_i xs e2
        obtain ⟨z, e, h⟩ := h
        obtain ⟨p, vs, rfl, h1, l1⟩ := ra.list m1 e2
        obtain ⟨v, e1, r1⟩ := l1.at e
        exact .inl ⟨p, vs, i, v, rfl, rfl, SqL.of h1, e1, k F1 H1 v (.d z) s r1 h⟩
      · exact h.elim
  · exact h.elim
theorem snd_len : SndC Γ (fun xs H Q => ∃ x n, xs = [x] ∧ LenV K x H n ∧ Q (.int n) H) lenA := by
  intro ρ σ F H F1 H1 xs as Q K0 m m1 s ra h k
  unfold lenA at h
  split at h
  · rename_i xs
    cases ra with
    | cons r1 t => cases t with
      | nil =>
        rename_i v
        cases (show Rp (kn Γ.G F1) v (.tuple xs) from r1) with
        | @tup p vs _ f1 l1 =>
        exact ⟨_, vs.length, rfl, .inr ⟨vs, SqT.of (kn.same m1.fh m1.gi _ _ f1), rfl⟩, k F1 H1 _ (.int _) s (by rw [l1.length]; exact Rp.int _) h⟩
  · cases ra with
    | cons r1 t => cases t with
      | nil =>
        obtain ⟨p, vs, rfl, f1, h1, l1⟩ := r1.tupl m1
        exact ⟨_, vs.length, rfl, .inr ⟨vs, SqT.of h1, rfl⟩, k F1 H1 _ (.int _) s (by rw [l1.length]; exact Rp.int _) h⟩
  · cases ra with
    | cons r1 t => cases t with
      | nil =>
        cases (show Rp F1 _ (.str _) from r1)
        exact ⟨_, _, rfl, ⟨h.1, rfl⟩, k F1 H1 _ (.int _) s (Rp.int _) h.2⟩
  · split at h
    · rename_i e
      cases ra with
      | cons r1 t => cases t with
        | nil =>
          obtain ⟨p, vs, rfl, h1, l1⟩ := r1.list m1 e
          exact ⟨_, vs.length, rfl, .inl ⟨vs, SqL.of h1, rfl⟩, k F1 H1 _ (.int _) s (by rw [l1.length]; exact Rp.int _) h⟩
    · exact h.elim
  · exact h.elim
theorem snd_list : SndC Γ (fun xs H Q => ∃ p ys, xs = [.ref p] ∧ (SqL K H p ys ∨ SqT K H p ys) ∧ ∀ l, H l = none → Q (.ref l) (upd H l (.lst ys))) listA := by
  intro ρ σ F H F1 H1 xs as Q K0 m m1 s ra h k
  unfold listA at h
  split at h
  · rename_i xs
    obtain ⟨ns, rfl, h⟩ := h
    cases ra with
    | cons r1 t => cases t with
      | nil =>
        rename_i v
        cases (show Rp (kn Γ.G F1) v (.tuple (ns.map PyData.int)) from r1) with
        | @tup p vs _ f1 l1 =>
        have e1 := l1.of_ints
        subst e1
        refine ⟨p, _, rfl, .inr (SqT.of (kn.same m1.fh m1.gi _ _ f1)), fun t ht => ?_⟩
        have s2 := Stp.new0 (o := .lst (ns.map V.int)) m1.fh m1.gi m1.st.box ht
        exact k _ _ _ (.own _) (s.trans m.gi s2) ⟨t, _, rfl, s.none_back ht, m1.fh.free ht, upd_same, RpL.ints ns⟩ h
  · cases ra with
    | cons r1 t => cases t with
      | nil =>
        obtain ⟨p, vs, rfl, f1, h1, l1⟩ := r1.tupl m1
        refine ⟨p, vs, rfl, .inr (SqT.of h1), fun t ht => ?_⟩
        have s2 := Stp.new0 (o := .lst vs) m1.fh m1.gi m1.st.box ht
        exact k _ _ _ (.own _) (s.trans m.gi s2) ⟨t, _, rfl, s.none_back ht, m1.fh.free ht, upd_same, l1⟩ h
  · split at h
    · rename_i e
      cases ra with
      | cons r1 t => cases t with
        | nil =>
          obtain ⟨p, vs, rfl, h1, l1⟩ := r1.list m1 e
          refine ⟨p, vs, rfl, .inl (SqL.of h1), fun t ht => ?_⟩
          have s2 := Stp.new0 (o := .lst vs) m1.fh m1.gi m1.st.box ht
          exact k _ _ _ (.own _) (s.trans m.gi s2) ⟨t, _, rfl, s.none_back ht, m1.fh.free ht, upd_same, l1⟩ h
    · exact h.elim
  · exact h.elim
theorem snd_tuple : SndC Γ (fun xs H Q => ∃ p ys, xs = [.ref p] ∧ ((SqL K H p ys ∧ ∀ l, H l = none → Q (.ref l) (upd H l (.tup ys))) ∨ (SqT K H p ys ∧ Q (.ref p) H))) tupleA := by
  intro ρ σ F H F1 H1 xs as Q K0 m m1 s ra h k
  unfold tupleA at h
  split at h
  · cases ra with
    | cons r1 t => cases t with
      | nil =>
        obtain ⟨p, vs, rfl, f1, h1, l1⟩ := r1.tupl m1
        exact ⟨p, vs, rfl, .inr ⟨SqT.of h1, k F1 H1 _ (.tup _) s (Rp.tup f1 l1) h⟩⟩
  · split at h
    · rename_i e
      cases ra with
      | cons r1 t => cases t with
        | nil =>
          obtain ⟨p, vs, rfl, h1, l1⟩ := r1.list m1 e
          refine ⟨p, vs, rfl, .inl ⟨SqL.of h1, fun t ht => ?_⟩⟩
          have s2 := Stp.new1 (o := .tup vs) m1.fh m1.gi m1.st.box ht
          exact k _ _ _ (.tup _) (s.trans m.gi s2) (Rp.tup upd_same (l1.up s2.ff)) h
    · exact h.elim
  · exact h.elim
theorem snd_int : SndC Γ (fun xs H Q => (∃ i, xs = [.int i] ∧ Q (.int i) H) ∨ ∃ k, xs = [.bl k] ∧ Q (.int (if k then 1 else 0)) H) intA := by
  intro ρ σ F H F1 H1 xs as Q K0 m m1 s ra h k
  unfold intA at h
  split at h
  · cases ra with
    | cons r1 t => cases t with
      | nil =>
        cases (show Rp F1 _ (.int _) from r1)
        exact .inl ⟨_, rfl, k F1 H1 _ (.int _) s (Rp.int _) h⟩
  · cases ra with
    | cons r1 t => cases t with
      | nil =>
        cases (show Rp F1 _ (.bool _) from r1)
        exact .inr ⟨_, rfl, k F1 H1 _ (.int _) s (Rp.int _) h⟩
  · exact h.elim
theorem snd_min : SndC Γ (fun xs H Q => ∃ i j, xs = [.int i, .int j] ∧ Q (.int (if j < i then j else i)) H) minA := by
  intro ρ σ F H F1 H1 xs as Q K0 m m1 s ra h k
  unfold minA at h
  split at h
  · cases ra with
    | cons r1 t => cases t with
      | cons r2 t => cases t with
        | nil =>
          cases (show Rp F1 _ (.int _) from r1)
          cases (show Rp F1 _ (.int _) from r2)
          exact ⟨_, _, rfl, k F1 H1 _ (.int _) s (Rp.int _) h⟩
  · exact h.elim
theorem snd_max : SndC Γ (fun xs H Q => ∃ i j, xs = [.int i, .int j] ∧ Q (.int (if j > i then j else i)) H) maxA := by
  intro ρ σ F H F1 H1 xs as Q K0 m m1 s ra h k
  unfold maxA at h
  split at h
  · cases ra with
    | cons r1 t => cases t with
      | cons r2 t => cases t with
        | nil =>
          cases (show Rp F1 _ (.int _) from r1)
          cases (show Rp F1 _ (.int _) from r2)
          exact ⟨_, _, rfl, k F1 H1 _ (.int _) s (Rp.int _) h⟩
  · exact h.elim
theorem snd_sort : SndC Γ (rSorted K) sortA := by
  intro ρ σ F H F1 H1 xs as Q K0 m m1 s ra h k
  unfold sortA at h
  split at h
  · split at h
    · rename_i e
      obtain ⟨ns, rfl, h64, h⟩ := h
      cases ra with
      | cons r1 t => cases t with
        | nil =>
          obtain ⟨p, vs, rfl, h1, l1⟩ := r1.list m1 e
          have e1 := l1.of_ints
          subst e1
          refine ⟨p, ns, rfl, SqL.of h1, h64, fun ms t hp hw ht => ?_⟩
          have s2 := Stp.new0 (o := .lst (ms.map V.int)) m1.fh m1.gi m1.st.box ht
          exact k _ _ _ (.own _) (s.trans m.gi s2) ⟨t, _, rfl, s.none_back ht, m1.fh.free ht, upd_same, RpL.ints ms⟩ (h ms hp hw)
    · exact h.elim
  · exact h.elim
end
end Yd

/-! YdD: statements, loops, comprehensions, calls over abstract values. -/
namespace Yd
open PySem L2

/-! ### statements -/
structure Po where
  nx : List A → Prop
  rt : A → Prop
  bk : List A → Prop := fun _ => False
  ct : List A → Prop := fun _ => False
abbrev WS := List A → Po → Prop
/-- what is handed back -/
def RetR (G : Gh) (C : Addr) (H0 F H : Hp) (v : V) : A → Prop
  | .d x => Rp F v x
  | .own xs => ∃ p vs, v = .ref p ∧ H0 p = none ∧ F p = none ∧ H p = some (.lst vs) ∧ RpL F vs xs
  | .yard m k => YardAt G C F v m k
  | .box => ∃ b l, G.b = some (b, l) ∧ v = .ref b
  | .raw u => v = u
  | .k x => Rp (kn G F) v x
  | .ft ks => ∃ p, v = .ref p ∧ F p = some (.dT (kvT ks))
  | .lt ks => ∃ p vs, v = .ref p ∧ H0 p = none ∧ F p = some (.lst vs) ∧ TupL H vs ks
  | _ => False
structure EndsOk (Γ : Gm) (F : Hp) (P : Po) (D : Ends) : Prop where
  nx : ∀ F' σ' H' ρ', Same F F' → M Γ F' ρ' σ' H' → P.nx ρ' → D.nx σ' H'
  rt : ∀ F' H' v r, Same F F' → Stp Γ.G Γ.F Γ.H F' H' → RetR Γ.G Γ.C Γ.H F' H' v r → P.rt r → D.rt v H'
  bk : ∀ F' σ' H' ρ', Same F F' → M Γ F' ρ' σ' H' → P.bk ρ' → D.bk σ' H'
  ct : ∀ F' σ' H' ρ', Same F F' → M Γ F' ρ' σ' H' → P.ct ρ' → D.ct σ' H'
theorem EndsOk.up {Γ : Gm} {F F1 : Hp} {P : Po} {D : Ends} (h : EndsOk Γ F P D) (e : Same F F1) : EndsOk Γ F1 P D :=
  ⟨fun F' σ' H' ρ' s => h.nx F' σ' H' ρ' (e.trans s), fun F' H' v r s => h.rt F' H' v r (e.trans s), fun F' σ' H' ρ' s => h.bk F' σ' H' ρ' (e.trans s), fun F' σ' H' ρ' s => h.ct F' σ' H' ρ' (e.trans s)⟩
def SndS (Γ : Gm) (t : TS) (w : WS) : Prop := ∀ (ρ : List A) (P : Po) (F : Hp) (σ : St) (H : Hp) (D : Ends), M Γ F ρ σ H → w ρ P → EndsOk Γ F P D → t D σ H
structure PDS (X : Cx) (Γ : Gm) (st : Stmt) (t : TS) (w : WS) : Prop where
  ps : PS X st t
  sd : SndS Γ t w
structure PDSs (X : Cx) (Γ : Gm) (st : List Stmt) (t : TS) (w : WS) : Prop where
  ps : PSs X st t
  sd : SndS Γ t w

def wNext : WS := fun ρ P => P.nx ρ
def wSeq (a b : WS) : WS := fun ρ P => a ρ { P with nx := fun ρ' => b ρ' P }
def wBreak : WS := fun ρ P => P.bk ρ
def wCont : WS := fun ρ P => P.ct ρ
def wDrop (e : WE) : WS := fun ρ P => e ρ fun _ => P.nx ρ
def unb : A → A
  | .bor _ xs => .own xs
  | a => a
def wRet (e : WE) : WS := fun ρ P => e ρ fun r => match r with
  | .un => False
  | .fr _ => False
  | .dct _ _ => False
  | .dtt _ => False
  | r => P.rt (unb r)
def wRetN : WS := fun _ P => P.rt .non
def wIf (t : WT) (a b : WS) : WS := fun ρ P => t ρ fun c => (c = true → a ρ P) ∧ (c = false → b ρ P)
def wNever : WS := fun _ _ => False
def wSet (i : Nat) (e : WE) : WS := fun ρ P => e ρ fun r => match r with
  | .bor _ _ => False
  | r => P.nx (ρ.set i r)
/-- freeze slot i ahead of a statement -/
def unfrA : A → A
  | .fr _ => .un
  | .dct _ _ => .un
  | .dtt _ => .un
  | .lt _ => .un
  | a => a
def unfr (ρ : List A) : List A := ρ.map unfrA
def wFz (i : Nat) (w : WS) : WS := fun ρ P => match ρ[i]? with
  | some (.fr x) => w ((unfr ρ).set i (.d x)) P
  | some (.own xs) => w (ρ.set i (.d (.list xs))) P
  | _ => w ρ P
def wApp (i : Nat) (e : WE) : WS := fun ρ P => match ρ[i]? with
  | some (.own xs) => e ρ fun r => match toD r with
    | some d => xs.length < sizeLine ∧ P.nx (ρ.set i (.own (xs ++ [d])))
    | none => False
  | _ => False
/-- x[k] = v -/
def wPut (i : Nat) (k v : WE) : WS := fun ρ P => match ρ[i]? with
  | some (.own xs) => v ρ fun r => match toD r with
    | some d => k ρ fun q => match q with
      | .d (.int n) => ∃ j, ixN xs.length n = some j ∧ P.nx (ρ.set i (.own (xs.set j d)))
      | _ => False
    | none => False
  | _ => False
def wClear (i : Nat) : WS := fun ρ P => match ρ[i]? with
  | some (.own _) => P.nx (ρ.set i (.own []))
  | _ => False
/-- y = x.pop() -/
def wPopSet (y i : Nat) : WS := fun ρ P => match ρ[i]? with
  | some (.own xs) => ∃ d, xs[xs.length - 1]? = some d ∧ P.nx ((ρ.set i (.own xs.dropLast)).set y (.d d))
  | _ => False
/-- x.append(y.pop(e)) -/
def wAppPop (i j : Nat) (e : WE) : WS := fun ρ P => match ρ[i]?, ρ[j]? with
  | some (.own xs), some (.own ys) => i ≠ j ∧ xs.length < sizeLine ∧ ys.length ≤ sizeLine ∧ e ρ fun r => match r with
    | .d (.int k) => 0 ≤ k ∧ k < ys.length ∧ ∀ d, ys[k.toNat]? = some d → P.nx ((ρ.set j (.own (ys.eraseIdx k.toNat))).set i (.own (xs ++ [d])))
    | _ => False
  | _, _ => False
def wExt (i : Nat) (e : WE) : WS := fun ρ P => match ρ[i]? with
  | some (.own xs) => e ρ fun r => match r with
    | .own ys => xs.length + ys.length ≤ sizeLine ∧ P.nx (ρ.set i (.own (xs ++ ys)))
    | _ => False
  | _ => False

section
variable {Γ : Gm} {ρ : List A} {σ : St} {F H F1 H1 F2 H2 : Hp} {v : V} {r : A}
theorem M.slot (m : M Γ F ρ σ H) {i : Nat} {a : A} (e : ρ[i]? = some a) : ∃ o, σ[i]? = some o ∧ Sl Γ F H o a := by
  have hl : i < σ.length := by rw [m.len]; exact (List.getElem?_eq_some_iff.mp e).1
  exact ⟨σ[i], List.getElem?_eq_getElem hl, m.sl i a _ e (List.getElem?_eq_getElem hl)⟩
/-- a slot is stored -/
theorem M.set (m : M Γ F ρ σ H) (s : Stp Γ.G F H F1 H1) (q : Res Γ ρ σ F H F1 H1 v r) (nb : ∀ j xs, r ≠ .bor j xs) (i : Nat) : M Γ F1 (ρ.set i r) (σ.set i (some v)) H1 := by
  have m1 := m.step s
  refine ⟨m1.st, m1.gi0, by simp [m1.len], fun j a o h1 h2 => ?_, fun j k p h1 h2 => ?_, fun j x h1 => ?_⟩
  rotate_left 2
  · by_cases hj : i = j
    · subst hj
      obtain ⟨z1, e1⟩ := List.getElem?_eq_some_iff.mp h1
      rw [List.getElem_set_self] at e1
      subst e1
      obtain ⟨Fs, r2, ss, n⟩ := q
      refine ⟨v, Fs, List.getElem?_set_self (by rw [m1.len]; simpa using z1), r2, ss, fun a qa => ?_⟩
      obtain ⟨n1, n2⟩ := n a qa
      refine ⟨n1, m.st.none_back n2, fun z => m.gi.box z n2, fun k hk => ?_⟩
      obtain ⟨⟨xs, g1⟩, g2⟩ := hk
      by_cases hik : i = k
      · subst hik
        rw [List.getElem?_set_self (by simpa using z1)] at g1
        cases g1
      · rw [List.getElem?_set_ne hik] at g1 g2
        obtain ⟨p, vs, e, h3, _⟩ := m.sl k _ _ g1 g2
        cases e
        rw [n2] at h3; cases h3
    · rw [List.getElem?_set_ne hj] at h1
      obtain ⟨v2, Fs, e, r2, ss, n⟩ := m.fr j x h1
      obtain ⟨v3, Fs3, e3, r3, ss3, n3⟩ := m1.fr j x h1
      rw [e] at e3; cases e3
      refine ⟨v2, Fs, by rw [List.getElem?_set_ne hj]; exact e, r2, fun a o qa => s.keep a o (ss a o qa) (n a (by rw [qa]; simp)).2.2.1, fun a qa => ?_⟩
      obtain ⟨n1, n2, n3, n4⟩ := n a qa
      have ha : ∃ o, H a = some o := by
        cases e2 : Fs a with
        | none => exact absurd e2 qa
        | some u => exact ⟨u, ss a u e2⟩
      obtain ⟨o, ha⟩ := ha
      refine ⟨?_, n2, n3, fun k hk => ?_⟩
      · cases e1 : F1 a with
        | none => rfl
        | some o2 =>
          rcases s.new a (by rw [e1]; simp) with z | z
          · exact absurd n1 z
          · rw [ha] at z; cases z
      · obtain ⟨⟨xs, g1⟩, g2⟩ := hk
        by_cases hik : i = k
        · subst hik
          obtain ⟨z1, e1⟩ := List.getElem?_eq_some_iff.mp g1
          obtain ⟨z2, e2⟩ := List.getElem?_eq_some_iff.mp g2
          rw [List.getElem_set_self] at e1 e2
          subst e1
          obtain ⟨p', vs, rfl, h3, _⟩ := q
          cases e2
          rw [ha] at h3; cases h3
        · rw [List.getElem?_set_ne hik] at g1 g2
          exact n4 k ⟨⟨xs, g1⟩, g2⟩
  · by_cases hj : i = j
    · subst hj
      obtain ⟨z1, e1⟩ := List.getElem?_eq_some_iff.mp h1
      obtain ⟨z2, e2⟩ := List.getElem?_eq_some_iff.mp h2
      rw [List.getElem_set_self] at e1 e2
      subst e1 e2
      cases r with
      | un => trivial
      | d x => exact ⟨v, rfl, q⟩
      | own xs =>
        obtain ⟨p, vs, rfl, h3, h4, h5, h6⟩ := q
        exact ⟨p, vs, rfl, h5, h6, h4, m.st.none_back h3, fun z => m.gi.box z h3⟩
      | bor j xs => exact (nb j xs rfl).elim
      | yard mm kk => exact ⟨v, rfl, q⟩
      | k x => exact ⟨v, rfl, q⟩
      | fr x => trivial
      | dct ks ds =>
        obtain ⟨p, kvs, rfl, h3, h4, h5, hk, h6⟩ := q
        exact ⟨p, kvs, rfl, h5, hk, h6, h4, m.st.none_back h3, fun z => m.gi.box z h3⟩
      | dtt ks =>
        obtain ⟨p, rfl, h3, h4, h5⟩ := q
        exact ⟨p, rfl, h5, h4, m.st.none_back h3, fun z => m.gi.box z h3⟩
      | lt ks =>
        obtain ⟨p, vs, rfl, h3, h4, h5⟩ := q
        exact ⟨p, vs, rfl, h4, h5⟩
      | ft ks =>
        obtain ⟨p, rfl, h⟩ := q
        exact ⟨p, rfl, h⟩
      | box =>
        obtain ⟨b, l, g, rfl⟩ := q
        exact ⟨b, l, g, rfl⟩
      | raw u =>
        have e : v = u := q
        subst e
        exact rfl
    · rw [List.getElem?_set_ne hj] at h1 h2
      exact m1.sl j a o h1 h2
  · have old : ∀ {j : Nat}, i ≠ j → ownAt (ρ.set i r) (σ.set i (some v)) j p → ownAt ρ σ j p := fun {j} hj ⟨⟨xs, h1⟩, h2⟩ => by
      rw [List.getElem?_set_ne hj] at h1 h2
      exact ⟨⟨xs, h1⟩, h2⟩
    have new : ∀ {k : Nat}, i ≠ k → ownAt (ρ.set i r) (σ.set i (some v)) i p → ownAt (ρ.set i r) (σ.set i (some v)) k p → False := fun {k} hk ⟨⟨xs, h1⟩, h2⟩ h3 => by
      obtain ⟨⟨ys, g1⟩, g2⟩ := old hk h3
      obtain ⟨z1, e1⟩ := List.getElem?_eq_some_iff.mp h1
      obtain ⟨z2, e2⟩ := List.getElem?_eq_some_iff.mp h2
      rw [List.getElem_set_self] at e1 e2
      subst e1
      obtain ⟨p', vs, rfl, h3, _⟩ := q
      cases e2
      obtain ⟨p2, ws, e, h4, _⟩ := m.sl k _ _ g1 g2
      cases e
      rw [h3] at h4; cases h4
    by_cases hj : i = j
    · by_cases hk : i = k
      · exact hj.symm.trans hk
      · subst hj
        exact (new hk h1 h2).elim
    · by_cases hk : i = k
      · subst hk
        exact (new hj h2 h1).elim
      · exact m.dj j k p (old hj h1) (old hk h2)
/-- an own list is changed -/
theorem M.mut (m : M Γ F ρ σ H) {i : Nat} {xs ys : List PyData} {p : Addr} {ws : List V} (e : ρ[i]? = some (.own xs)) (e2 : σ[i]? = some (some (.ref p))) (l : RpL F ws ys) : M Γ F (ρ.set i (.own ys)) σ (upd H p (.lst ws)) := by
  obtain ⟨p', vs, ep, h1, _, h3, h4, h5⟩ := m.sl i _ _ e e2
  cases ep
  have ne : ∀ {b : Addr} {o : HO}, F b = some o → b ≠ p := fun q => ne_of_none q h3
  have own_ : ∀ {j : Nat} {q : Addr}, ownAt (ρ.set i (.own ys)) σ j q → ownAt ρ σ j q := fun {j q} ⟨⟨zs, q1⟩, q2⟩ => by
    by_cases hj : i = j
    · subst hj; exact ⟨⟨xs, e⟩, q2⟩
    · rw [List.getElem?_set_ne hj] at q1
      exact ⟨⟨zs, q1⟩, q2⟩
  refine ⟨⟨m.st.ff, fun b o q => ?_, ?_, fun b o q nbx => ?_, m.st.new, m.st.box⟩, m.gi0, by simp [m.len], fun j a o g1 g2 => ?_, fun j k q g1 g2 => ?_, fun j x g1 => ?_⟩
  rotate_left 5
  · have g1' : ρ[j]? = some (.fr x) := by
      by_cases hj : i = j
      · subst hj
        obtain ⟨z1, e1⟩ := List.getElem?_eq_some_iff.mp g1
        rw [List.getElem_set_self] at e1
        cases e1
      · rwa [List.getElem?_set_ne hj] at g1
    obtain ⟨v2, Fs, ev, r2, ss, n⟩ := m.fr j x g1'
    refine ⟨v2, Fs, ev, r2, fun a o qa => ?_, fun a qa => ?_⟩
    · have na : a ≠ p := fun z => (n a (by rw [qa]; simp)).2.2.2 i (by rw [z]; exact ⟨⟨xs, e⟩, e2⟩)
      rw [upd_ne na]; exact ss a o qa
    · obtain ⟨n1, n2, n3, n4⟩ := n a qa
      exact ⟨n1, n2, n3, fun k hk => n4 k (own_ hk)⟩
  · rw [upd_ne (ne q)]; exact m.fh b o q
  · exact m.gi.upd h5
  · rw [upd_ne (ne_of_none q h4)]; exact m.st.keep b o q nbx
  · by_cases hj : i = j
    · subst hj
      obtain ⟨z1, e1⟩ := List.getElem?_eq_some_iff.mp g1
      rw [List.getElem_set_self] at e1
      subst e1
      rw [e2] at g2; cases g2
      exact ⟨p, ws, rfl, upd_same, l, h3, h4, h5⟩
    · rw [List.getElem?_set_ne hj] at g1
      have q := m.sl j a o g1 g2
      cases a with
      | own zs =>
        obtain ⟨p2, us, rfl, q1, q2, q3, q4, q5⟩ := q
        have n : p2 ≠ p := fun z => by
          subst z
          exact hj (m.dj i j p2 ⟨⟨xs, e⟩, e2⟩ ⟨⟨zs, g1⟩, g2⟩)
        exact ⟨p2, us, rfl, by rw [upd_ne n]; exact q1, q2, q3, q4, q5⟩
      | dct ks ds =>
        obtain ⟨p2, us, rfl, q1, q2, q3, q4, q5, q6⟩ := q
        have n : p2 ≠ p := fun z => by
          subst z
          rw [h1] at q1
          cases q1
        exact ⟨p2, us, rfl, by rw [upd_ne n]; exact q1, q2, q3, q4, q5, q6⟩
      | dtt ks =>
        obtain ⟨p2, rfl, q1, q4, q5, q6⟩ := q
        have n : p2 ≠ p := fun z => by
          subst z
          rw [h1] at q1
          cases q1
        exact ⟨p2, rfl, by rw [upd_ne n]; exact q1, q4, q5, q6⟩
      | lt ks =>
        obtain ⟨p2, vs, rfl, q1, q2⟩ := q
        exact ⟨p2, vs, rfl, q1, q2.up fun b k e => by
          have n : b ≠ p := fun z => by
            subst z
            rw [h1] at e
            cases e
          rw [upd_ne n]; exact e⟩
      | _ => exact q
  · exact m.dj j k q (own_ g1) (own_ g2)
/-- an own list is frozen -/
theorem M.frz0 (m : M Γ F ρ σ H) {i : Nat} {xs : List PyData} (e : ρ[i]? = some (.own xs)) : ∃ p vs, σ[i]? = some (some (.ref p)) ∧ H p = some (.lst vs) ∧ F p = none ∧ Same F (upd F p (.lst vs)) ∧ M Γ (upd F p (.lst vs)) (ρ.set i (.d (.list xs))) σ H := by
  obtain ⟨o, e2, q⟩ := m.slot e
  obtain ⟨p, vs, rfl, h1, h2, h3, h4, h5⟩ := q
  have k : Same F (upd F p (.lst vs)) := fun b u q => by rw [upd_ne (ne_of_none q h3)]; exact q
  refine ⟨p, vs, e2, h1, h3, k, ⟨⟨m.st.ff.trans k, fun b u q => ?_, m.gi, m.st.keep, fun b q => ?_, fun b hb => ?_⟩, m.gi0, by simp [m.len], fun j a o g1 g2 => ?_, fun j j' q g1 g2 => ?_, fun j x g1 => ?_⟩⟩
  rotate_left 5
  · have hj : i ≠ j := fun hj => by
      subst hj
      obtain ⟨z1, e1⟩ := List.getElem?_eq_some_iff.mp g1
      rw [List.getElem_set_self] at e1
      cases e1
    rw [List.getElem?_set_ne hj] at g1
    obtain ⟨v2, Fs, ev, r2, ss, n⟩ := m.fr j x g1
    refine ⟨v2, Fs, ev, r2, ss, fun a qa => ?_⟩
    obtain ⟨n1, n2, n3, n4⟩ := n a qa
    have na : a ≠ p := fun z => n4 i (by rw [z]; exact ⟨⟨xs, e⟩, e2⟩)
    refine ⟨by rw [upd_ne na]; exact n1, n2, n3, fun k hk => ?_⟩
    obtain ⟨⟨zs, q1⟩, q2⟩ := hk
    by_cases hik : i = k
    · subst hik
      obtain ⟨z1, e1⟩ := List.getElem?_eq_some_iff.mp q1
      rw [List.getElem_set_self] at e1
      cases e1
    · rw [List.getElem?_set_ne hik] at q1
      exact n4 k ⟨⟨zs, q1⟩, q2⟩
  · by_cases z : b = p
    · subst z; rw [upd_same] at q; cases q; exact h1
    · rw [upd_ne z] at q; exact m.fh b u q
  · by_cases z : b = p
    · subst z; exact .inr h4
    · rw [upd_ne z] at q; exact m.st.new b q
  · have n : b ≠ p := fun z => by subst z; exact h5 hb
    rw [upd_ne n]; exact m.st.box b hb
  · by_cases hj : i = j
    · subst hj
      obtain ⟨z1, e1⟩ := List.getElem?_eq_some_iff.mp g1
      rw [List.getElem_set_self] at e1
      subst e1
      rw [e2] at g2; cases g2
      exact ⟨_, rfl, Rp.lst upd_same (h2.up k)⟩
    · rw [List.getElem?_set_ne hj] at g1
      have q := m.sl j a o g1 g2
      cases a with
      | own zs =>
        obtain ⟨p2, us, rfl, q1, q2, q3, q4, q5⟩ := q
        have n : p2 ≠ p := fun z => by
          subst z
          exact hj (m.dj i j p2 ⟨⟨xs, e⟩, e2⟩ ⟨⟨zs, g1⟩, g2⟩)
        exact ⟨p2, us, rfl, q1, q2.up k, by rw [upd_ne n]; exact q3, q4, q5⟩
      | dct ks ds =>
        obtain ⟨p2, us, rfl, q1, q2, q3, q4, q5, q6⟩ := q
        have n : p2 ≠ p := fun z => by
          subst z
          rw [h1] at q1
          cases q1
        exact ⟨p2, us, rfl, q1, q2, q3.up k, by rw [upd_ne n]; exact q4, q5, q6⟩
      | dtt ks =>
        obtain ⟨p2, rfl, q1, q4, q5, q6⟩ := q
        have n : p2 ≠ p := fun z => by
          subst z
          rw [h1] at q1
          cases q1
        exact ⟨p2, rfl, q1, by rw [upd_ne n]; exact q4, q5, q6⟩
      | ft ks =>
        obtain ⟨p2, rfl, q⟩ := q
        exact ⟨p2, rfl, k _ _ q⟩
      | lt ks =>
        obtain ⟨p2, vs, rfl, q, t⟩ := q
        exact ⟨p2, vs, rfl, k _ _ q, t⟩
      | d x =>
        obtain ⟨v, e, q⟩ := q
        exact ⟨v, e, q.up k⟩
      | yard mm kk =>
        obtain ⟨v, e, q⟩ := q
        exact ⟨v, e, q.up k⟩
      | k x =>
        obtain ⟨v, e, q⟩ := q
        exact ⟨v, e, q.up (kn.up k)⟩
      | _ => exact q
  · have old : ∀ {j : Nat}, ownAt (ρ.set i (.d (.list xs))) σ j q → ownAt ρ σ j q := fun {j} ⟨⟨zs, q1⟩, q2⟩ => by
      by_cases hj : i = j
      · subst hj
        obtain ⟨z1, e1⟩ := List.getElem?_eq_some_iff.mp q1
        rw [List.getElem_set_self] at e1
        cases e1
      · rw [List.getElem?_set_ne hj] at q1
        exact ⟨⟨zs, q1⟩, q2⟩
    exact m.dj j j' q (old g1) (old g2)
theorem M.frz (m : M Γ F ρ σ H) {i : Nat} {xs : List PyData} (e : ρ[i]? = some (.own xs)) : ∃ F', Same F F' ∧ M Γ F' (ρ.set i (.d (.list xs))) σ H := by
  obtain ⟨p, vs, _, _, _, k, m'⟩ := m.frz0 e
  exact ⟨_, k, m'⟩
theorem unfr_get {ρ : List A} {i : Nat} {a : A} (h : (unfr ρ)[i]? = some a) : ∃ b, ρ[i]? = some b ∧ a = unfrA b := by
  unfold unfr at h
  rw [List.getElem?_map] at h
  obtain ⟨b, e, rfl⟩ := Option.map_eq_some_iff.mp h
  exact ⟨b, e, rfl⟩
theorem unfr_own {ρ : List A} {σ : St} {j : Nat} {q : Addr} : ownAt (unfr ρ) σ j q → ownAt ρ σ j q := fun ⟨⟨zs, q1⟩, q2⟩ => by
  obtain ⟨b, e, e2⟩ := unfr_get q1
  cases b with
  | fr x => cases e2
  | own ys => cases e2; exact ⟨⟨_, e⟩, q2⟩
  | _ => cases e2
/-- what stands by itself is forgotten -/
theorem M.unfr (m : M Γ F ρ σ H) : M Γ F (unfr ρ) σ H := by
  refine ⟨m.st, m.gi0, by rw [m.len]; simp [Yd.unfr], fun i a o h1 h2 => ?_, fun i j p h1 h2 => m.dj i j p (unfr_own h1) (unfr_own h2), fun i x h1 => ?_⟩
  · obtain ⟨b, e, rfl⟩ := unfr_get h1
    have q := m.sl i b o e h2
    cases b with
    | fr x => trivial
    | dct ks ds => trivial
    | dtt ks => trivial
    | lt ks => trivial
    | _ => exact q
  · obtain ⟨b, e, e2⟩ := unfr_get h1
    cases b <;> cases e2
/-- what stands by itself is frozen -/
def jn (F Fs : Hp) : Hp := fun a => match Fs a with
  | some o => some o
  | none => F a
theorem M.frzF (m : M Γ F ρ σ H) {i : Nat} {x : PyData} (e : ρ[i]? = some (.fr x)) : ∃ F', Same F F' ∧ M Γ F' ((Yd.unfr ρ).set i (.d x)) σ H := by
  obtain ⟨v, Fs, ev, r, ss, n⟩ := m.fr i x e
  have m1 := m.unfr
  have k : Same F (jn F Fs) := fun b u q => by
    unfold jn
    cases e2 : Fs b with
    | none => exact q
    | some o => rw [(n b (by rw [e2]; simp)).1] at q; cases q
  have k2 : Same Fs (jn F Fs) := fun b u q => by
    unfold jn
    rw [q]
  have hFs : ∀ b, jn F Fs b ≠ none → F b ≠ none ∨ Fs b ≠ none := fun b q => by
    unfold jn at q
    cases e2 : Fs b with
    | none => rw [e2] at q; exact .inl q
    | some o => exact .inr (by simp)
  refine ⟨jn F Fs, k, ⟨m.st.ff.trans k, fun b u q => ?_, m.gi, m.st.keep, fun b q => ?_, fun b hb => ?_⟩, m.gi0, by simp [m1.len], fun j a o g1 g2 => ?_, fun j j' q g1 g2 => ?_, fun j y g1 => ?_⟩
  · unfold jn at q
    cases e2 : Fs b with
    | none => rw [e2] at q; exact m.fh b u q
    | some o => rw [e2] at q; exact ss b u (by rw [e2]; exact q)
  · rcases hFs b q with z | z
    · exact m.st.new b z
    · exact .inr (n b z).2.1
  · unfold jn
    cases e2 : Fs b with
    | none => exact m.st.box b hb
    | some o => exact absurd hb (n b (by rw [e2]; simp)).2.2.1
  · by_cases hj : i = j
    · subst hj
      obtain ⟨z1, e1⟩ := List.getElem?_eq_some_iff.mp g1
      rw [List.getElem_set_self] at e1
      subst e1
      rw [ev] at g2; cases g2
      exact ⟨_, rfl, r.up k2⟩
    · rw [List.getElem?_set_ne hj] at g1
      have q := m1.sl j a o g1 g2
      cases a with
      | own zs =>
        obtain ⟨p2, us, rfl, q1, q2, q3, q4, q5⟩ := q
        refine ⟨p2, us, rfl, q1, q2.up k, ?_, q4, q5⟩
        cases e3 : jn F Fs p2 with
        | none => rfl
        | some o =>
          rcases hFs p2 (by rw [e3]; simp) with z | z
          · exact absurd q3 z
          · exact ((n p2 z).2.2.2 j (unfr_own ⟨⟨zs, g1⟩, g2⟩)).elim
      | dtt ks =>
        obtain ⟨b, _, e2⟩ := unfr_get g1
        cases b <;> cases e2
      | ft ks =>
        obtain ⟨p2, rfl, q⟩ := q
        exact ⟨p2, rfl, k _ _ q⟩
      | dct ks ds =>
        obtain ⟨b, _, e2⟩ := unfr_get g1
        cases b <;> cases e2
      | lt ks =>
        obtain ⟨b, _, e2⟩ := unfr_get g1
        cases b <;> cases e2
      | d x =>
        obtain ⟨v, e, q⟩ := q
        exact ⟨v, e, q.up k⟩
      | yard mm kk =>
        obtain ⟨v, e, q⟩ := q
        exact ⟨v, e, q.up k⟩
      | k x =>
        obtain ⟨v, e, q⟩ := q
        exact ⟨v, e, q.up (kn.up k)⟩
      | _ => exact q
  · have old : ∀ {j : Nat}, ownAt ((Yd.unfr ρ).set i (.d x)) σ j q → ownAt (Yd.unfr ρ) σ j q := fun {j} ⟨⟨zs, q1⟩, q2⟩ => by
      by_cases hj : i = j
      · subst hj
        obtain ⟨z1, e1⟩ := List.getElem?_eq_some_iff.mp q1
        rw [List.getElem_set_self] at e1
        cases e1
      · rw [List.getElem?_set_ne hj] at q1
        exact ⟨⟨zs, q1⟩, q2⟩
    exact m1.dj j j' q (old g1) (old g2)
  · by_cases hj : i = j
    · subst hj
      obtain ⟨z1, e1⟩ := List.getElem?_eq_some_iff.mp g1
      rw [List.getElem_set_self] at e1
      cases e1
    · rw [List.getElem?_set_ne hj] at g1
      obtain ⟨b, e, e2⟩ := unfr_get g1
      cases b <;> cases e2
end

section
variable {X : Cx} {Γ : Gm} {K : PySem.W.Frag} {t u : TS} {w w' : WS} {te tk : TE} {we wk : WE} {tt : TT} {wt : WT}
theorem ss_next : SndS Γ tNext wNext := fun ρ P F σ H D m h k => k.nx F σ H ρ (Same.refl _) m h
theorem ss_seq (h1 : SndS Γ t w) (h2 : SndS Γ u w') : SndS Γ (tSeq t u) (wSeq w w') := fun ρ P F σ H D m h k =>
  h1 ρ _ F σ H _ m h ⟨fun F' σ' H' ρ' e m' q => h2 ρ' P F' σ' H' D m' q (k.up e), k.rt, k.bk, k.ct⟩
theorem ss_break : SndS Γ tBreak wBreak := fun ρ P F σ H D m h k => k.bk F σ H ρ (Same.refl _) m h
theorem ss_cont : SndS Γ tCont wCont := fun ρ P F σ H D m h k => k.ct F σ H ρ (Same.refl _) m h
theorem ss_drop (h1 : SndE Γ te we) : SndS Γ (tDrop te) (wDrop we) := fun ρ P F σ H D m h k =>
  h1 ρ _ F σ H _ m h fun F1 H1 v r s q p => k.nx F1 σ H1 ρ s.ff (m.step s) p
theorem ss_never : SndS Γ tNever wNever := fun _ _ _ _ _ _ _ h _ => h.elim
theorem ss_retN : SndS Γ tRetN wRetN := fun ρ P F σ H D m h k => k.rt F H _ .non (Same.refl _) m.st Rp.non h
theorem Res.ret {ρ : List A} {σ : St} {F H F1 H1 : Hp} {v : V} {r : A} (m : M Γ F ρ σ H) (s : Stp Γ.G F H F1 H1) (q : Res Γ ρ σ F H F1 H1 v r) (hu : r ≠ .un) (hf : ∀ x, r ≠ .fr x) (hd : ∀ ks ds, r ≠ .dct ks ds) (ht : ∀ ks, r ≠ .dtt ks) : RetR Γ.G Γ.C Γ.H F1 H1 v (unb r) := by
  cases r with
  | un => exact (hu rfl).elim
  | d x => exact q
  | own xs =>
    obtain ⟨p, vs, e, h1, h2, h3, h4⟩ := q
    exact ⟨p, vs, e, m.st.none_back h1, h2, h3, h4⟩
  | bor i xs =>
    obtain ⟨g1, g2⟩ := q
    obtain ⟨p, vs, e, h1, h2, h3, h4, _⟩ := (m.step s).sl i _ _ g1 g2
    cases e
    exact ⟨p, vs, rfl, h4, h3, h1, h2⟩
  | yard mm kk => exact q
  | k x => exact q
  | fr x => exact (hf x rfl).elim
  | dct ks ds => exact (hd ks ds rfl).elim
  | dtt ks => exact (ht ks rfl).elim
  | ft ks => exact q
  | lt ks =>
    obtain ⟨p, vs, e, h1, h2⟩ := q
    exact ⟨p, vs, e, m.st.none_back h1, h2⟩
  | box => exact q
  | raw u => exact q
theorem ss_ret (h1 : SndE Γ te we) : SndS Γ (tRet te) (wRet we) := fun ρ P F σ H D m h k =>
  h1 ρ _ F σ H _ m h fun F1 H1 v r s q p => by
    split at p
    · exact p.elim
    · exact p.elim
    · exact p.elim
    · exact p.elim
    · rename_i hn hf hd ht
      exact k.rt F1 H1 v _ s.ff (m.st.trans m.gi0 s) (q.ret m s (fun e => hn e) (fun x e => hf x e) (fun a b e => hd a b e) fun a e => ht a e) p
theorem ss_if (h1 : SndT Γ tt wt) (h2 : SndS Γ t w) (h3 : SndS Γ u w') : SndS Γ (tIfS tt t u) (wIf wt w w') := fun ρ P F σ H D m h k =>
  h1 ρ _ F σ H _ m h fun F1 H1 b s p => by
    cases b with
    | true => exact iteT (h2 ρ P F1 σ H1 D (m.step s) (p.1 rfl) (k.up s.ff))
    | false => exact iteF (h3 ρ P F1 σ H1 D (m.step s) (p.2 rfl) (k.up s.ff))
theorem ss_set (i : Nat) (h1 : SndE Γ te we) : SndS Γ (tAsg te (gName i)) (wSet i we) := fun ρ P F σ H D m h k =>
  h1 ρ _ F σ H _ m h fun F1 H1 v r s q p => by
    split at p
    · exact p.elim
    · rename_i hn
      exact k.nx F1 _ H1 _ s.ff (m.set s q (fun j xs e => hn j xs e) i) p
theorem ss_fz (i : Nat) (h1 : SndS Γ t w) : SndS Γ t (wFz i w) := fun ρ P F σ H D m h k => by
  unfold wFz at h
  split at h
  · rename_i x e
    obtain ⟨F', e', m'⟩ := m.frzF e
    exact h1 _ P F' σ H D m' h (k.up e')
  · rename_i xs e
    obtain ⟨F', e', m'⟩ := m.frz e
    exact h1 _ P F' σ H D m' h (k.up e')
  · exact h1 ρ P F σ H D m h k
theorem ty_list {p : Addr} {xs : List V} {H : Hp} (h : H p = some (.lst xs)) : tyV K "list" (.ref p) H := .inl ⟨rfl, xs, SqL.of h⟩
/-- after a value: the own list at slot i as it stands, and the value as data -/
theorem own_at {ρ : List A} {σ : St} {F H F1 H1 : Hp} {v : V} {r : A} {d : PyData} {i : Nat} {xs : List PyData} {p : Addr} (m : M Γ F ρ σ H) (s : Stp Γ.G F H F1 H1) (q : Res Γ ρ σ F H F1 H1 v r) (e : ρ[i]? = some (.own xs)) (e2 : σ[i]? = some (some (.ref p))) (ed : toD r = some d) :
    ∃ F2 vs, Same F F2 ∧ M Γ F2 ρ σ H1 ∧ H1 p = some (.lst vs) ∧ RpL F2 vs xs ∧ Rp F2 v d := by
  obtain ⟨F2, k2, s2, a2⟩ := q.freeze m.gi (toD_fz ed) s (Same.refl _)
  have m2 := m.step s2
  obtain ⟨p', vs, ep, h1, l1, _⟩ := m2.sl i _ _ e e2
  cases ep
  exact ⟨F2, vs, s2.ff, m2, h1, l1, a2⟩
theorem ss_app (i : Nat) (h1 : SndE Γ te we) : SndS Γ (tDrop (tBM K "list" rAppend (tVar i) (tCons te tNil))) (wApp i we) := fun ρ P F σ H D m h k => by
  unfold wApp at h
  split at h
  · rename_i xs e
    obtain ⟨o, e2, q⟩ := m.slot e
    obtain ⟨p, vs, rfl, hp, _⟩ := id q
    refine ⟨_, e2, ty_list hp, ?_⟩
    refine h1 ρ _ F σ H _ m h fun F1 H1 v r s q hq => ?_
    split at hq
    · rename_i d ed
      obtain ⟨F2, ws, ff, m2, z1, l1, a2⟩ := own_at m s q e e2 ed
      exact ⟨p, ws, v, rfl, rfl, z1, by rw [l1.length]; exact hq.1, k.nx _ _ _ _ ff (m2.mut e e2 (l1.append (.one a2))) hq.2⟩
    · exact hq.elim
  · exact h.elim
theorem ixN_lt {n : Nat} {i : Int} {j : Nat} (h : ixN n i = some j) : j < n := (ixN_seq h).2.1
theorem ss_put (i : Nat) (hk : SndE Γ tk wk) (h1 : SndE Γ te we) : SndS Γ (tAsg te (gSub (tVar i) tk rSetL)) (wPut i wk we) := fun ρ P F σ H D m h k => by
  unfold wPut at h
  split at h
  · rename_i xs e
    refine h1 ρ _ F σ H _ m h fun F1 H1 v r s q hq => ?_
    split at hq
    · rename_i d ed
      obtain ⟨o, e2, q0⟩ := m.slot e
      obtain ⟨p, vs, rfl, hp, _⟩ := id q0
      obtain ⟨F2, ws, ff, m2, z1, l1, a2⟩ := own_at m s q e e2 ed
      refine ⟨_, e2, ?_⟩
      refine hk ρ _ F2 σ H1 _ m2 hq fun F3 H3 kv rk s3 q3 hq3 => ?_
      split at hq3
      · rename_i n
        cases (show Rp F3 kv (.int n) from q3)
        obtain ⟨j, ej, hn⟩ := hq3
        have m3 := m2.step s3
        obtain ⟨p3, ws3, ep, z3, l3, _⟩ := m3.sl i _ _ e e2
        cases ep
        exact ⟨p, ws3, n, j, rfl, rfl, z3, by rw [l3.length]; exact ej, k.nx _ _ _ _ (ff.trans s3.ff) (m3.mut e e2 (l3.set j (a2.up s3.ff))) hn⟩
      · exact hq3.elim
    · exact hq.elim
  · exact h.elim
theorem ss_clear (i : Nat) : SndS Γ (tDrop (tBM0 K "list" rClear (tVar i))) (wClear i) := fun ρ P F σ H D m h k => by
  unfold wClear at h
  split at h
  · rename_i xs e
    obtain ⟨o, e2, q⟩ := m.slot e
    obtain ⟨p, vs, rfl, hp, _⟩ := id q
    exact ⟨_, e2, ty_list hp, p, vs, rfl, rfl, hp, k.nx _ _ _ _ (Same.refl _) (m.mut e e2 .nil) h⟩
  · exact h.elim
theorem RpL.get_last {F : Hp} {vs : List V} {ds : List PyData} (l : RpL F vs ds) {d : PyData} (e : ds[ds.length - 1]? = some d) : ∃ v, vs[vs.length - 1]? = some v ∧ Rp F v d := by
  obtain ⟨v, e1, e2⟩ := l.get e
  exact ⟨v, by rw [l.length]; exact e1, e2⟩
theorem ss_popSet (y i : Nat) : SndS Γ (tAsg (tBM0 K "list" rPop (tVar i)) (gName y)) (wPopSet y i) := fun ρ P F σ H D m h k => by
  unfold wPopSet at h
  split at h
  · rename_i xs e
    obtain ⟨o, e2, q⟩ := m.slot e
    obtain ⟨p, vs, rfl, hp, l, _⟩ := id q
    obtain ⟨d, ed, hn⟩ := h
    obtain ⟨v, ev, rv⟩ := l.get_last ed
    have m2 := m.mut e e2 l.dropLast
    refine ⟨_, e2, ty_list hp, p, vs, v, rfl, rfl, hp, ev, ?_⟩
    exact k.nx _ _ _ _ (Same.refl _) (m2.set m2.stp (r := .d d) rv (fun _ _ z => nomatch z) y) hn
  · exact h.elim
theorem seqIx {n : Nat} {k : Int} (h0 : 0 ≤ k) (h1 : k < n) : seqIndex? k n = some k.toNat := PySem.StrLaws.seqIndex_nonneg h0 h1
theorem ss_appPop (i j : Nat) (h1 : SndE Γ te we) : SndS Γ (tDrop (tBM K "list" rAppend (tVar i) (tCons (tBM K "list" rPopAt (tVar j) (tCons te tNil)) tNil))) (wAppPop i j we) := fun ρ P F σ H D m h k => by
  unfold wAppPop at h
  split at h
  · rename_i xs ys ei ej
    obtain ⟨o, ei2, qi⟩ := m.slot ei
    obtain ⟨p, vs, rfl, hp, _⟩ := id qi
    obtain ⟨o, ej2, qj⟩ := m.slot ej
    obtain ⟨p', vs', rfl, hp', _⟩ := id qj
    obtain ⟨nij, zx, zy, h⟩ := h
    refine ⟨_, ei2, ty_list hp, ?_⟩
    refine ⟨_, ej2, ty_list hp', ?_⟩
    refine h1 ρ _ F σ H _ m h fun F1 H1 v r s q hq => ?_
    split at hq
    · rename_i n
      cases (show Rp F1 v (.int n) from q)
      obtain ⟨n0, n1, hq⟩ := hq
      have m1 := m.step s
      obtain ⟨p2, us, ep, z2, l2, _⟩ := m1.sl j _ _ ej ej2
      cases ep
      obtain ⟨d, ed⟩ : ∃ d, ys[n.toNat]? = some d := ⟨ys[n.toNat]'(by omega), List.getElem?_eq_getElem (by omega)⟩
      obtain ⟨v, ev, rv⟩ := l2.get ed
      have m2 := m1.mut ej ej2 (l2.eraseIdx n.toNat)
      have ei' : (ρ.set j (.own (ys.eraseIdx n.toNat)))[i]? = some (.own xs) := by rw [List.getElem?_set_ne nij.symm]; exact ei
      obtain ⟨p3, ws, ep, z3, l3, _⟩ := m2.sl i _ _ ei' ei2
      cases ep
      have big : (2 : Int) ^ 63 > 16777216 := by decide
      have sz : sizeLine = 16777216 := sizeLine_eq
      refine ⟨p', us, n, n.toNat, v, rfl, rfl, z2, by omega, by omega, by rw [l2.length]; exact seqIx n0 n1, ev, ?_⟩
      exact ⟨p, ws, v, rfl, rfl, z3, by rw [l3.length]; exact zx, k.nx _ _ _ _ s.ff (m2.mut ei' ei2 (l3.append (.one rv))) (hq d ed)⟩
    · exact hq.elim
  · exact h.elim
theorem ss_ext (i : Nat) (h1 : SndE Γ te we) : SndS Γ (tDrop (tBM K "list" rExtend (tVar i) (tCons te tNil))) (wExt i we) := fun ρ P F σ H D m h k => by
  unfold wExt at h
  split at h
  · rename_i xs e
    obtain ⟨o, e2, q⟩ := m.slot e
    obtain ⟨p, vs, rfl, hp, _⟩ := id q
    refine ⟨_, e2, ty_list hp, ?_⟩
    refine h1 ρ _ F σ H _ m h fun F1 H1 v r s q hq => ?_
    split at hq
    · rename_i ys
      have m1 := m.step s
      obtain ⟨p1, ws, ep, z1, l1, _⟩ := m1.sl i _ _ e e2
      cases ep
      obtain ⟨pb, us, rfl, g1, g2, g3, g4⟩ := q
      exact ⟨p, pb, ws, us, rfl, rfl, z1, g3, by rw [l1.length, g4.length]; exact hq.1, k.nx _ _ _ _ s.ff (m1.mut e e2 (l1.append g4)) hq.2⟩
    · exact hq.elim
  · exact h.elim
end

/-! ### targets -/
abbrev WG := PyData → List A → (List A → Prop) → Prop
def SndG (Γ : Gm) (g : TG) (w : WG) : Prop := ∀ (d : PyData) (ρ : List A) (Q : List A → Prop) (F : Hp) (σ : St) (H : Hp) (v : V) (K : St → Hp → Prop), M Γ F ρ σ H → Rp F v d → w d ρ Q → (∀ ρ' σ', M Γ F ρ' σ' H → Q ρ' → K σ' H) → g v σ H K
def SndGs (Γ : Gm) (g : TGs) (w : List PyData → List A → (List A → Prop) → Prop) : Prop := ∀ (ds : List PyData) (ρ : List A) (Q : List A → Prop) (F : Hp) (σ : St) (H : Hp) (vs : List V) (K : St → Hp → Prop), M Γ F ρ σ H → RpL F vs ds → w ds ρ Q → (∀ ρ' σ', M Γ F ρ' σ' H → Q ρ' → K σ' H) → g vs σ H K
structure PDG (X : Cx) (Γ : Gm) (e : Expr) (t : TG) (w : WG) : Prop where
  pg : PG X e t
  sd : SndG Γ t w
structure PDGs (X : Cx) (Γ : Gm) (es : List Expr) (t : TGs) (w : List PyData → List A → (List A → Prop) → Prop) : Prop where
  pg : PGs X es t
  sd : SndGs Γ t w
def gwN (i : Nat) : WG := fun d ρ Q => Q (ρ.set i (.d d))
def gwNil : List PyData → List A → (List A → Prop) → Prop := fun ds ρ Q => match ds with
  | [] => Q ρ
  | _ => False
def gwCons (a : WG) (b : List PyData → List A → (List A → Prop) → Prop) : List PyData → List A → (List A → Prop) → Prop := fun ds ρ Q => match ds with
  | d :: r => a d ρ fun ρ' => b r ρ' Q
  | [] => False
def gwT (n : Nat) (b : List PyData → List A → (List A → Prop) → Prop) : WG := fun d ρ Q => match d with
  | .tuple ds => ds.length = n ∧ b ds ρ Q
  | _ => False
def wAsg (e : WE) (g : WG) : WS := fun ρ P => e ρ fun r => match toD r with
  | some d => g d ρ P.nx
  | none => False
section
variable {X : Cx} {Γ : Gm} {K : PySem.W.Frag} {te : TE} {we : WE} {g : TG} {wg : WG} {gs : TGs} {wgs : List PyData → List A → (List A → Prop) → Prop}
theorem M.setD {F : Hp} {ρ : List A} {σ : St} {H : Hp} {v : V} {d : PyData} (m : M Γ F ρ σ H) (r : Rp F v d) (i : Nat) : M Γ F (ρ.set i (.d d)) (σ.set i (some v)) H :=
  m.set m.stp (r := .d d) r (fun _ _ z => nomatch z) i
theorem sg_name (i : Nat) : SndG Γ (gName i) (gwN i) := fun d ρ Q F σ H v K m r h k => k _ _ (m.setD r i) h
theorem sg_nil : SndGs Γ gNil gwNil := fun ds ρ Q F σ H vs K m r h k => by
  cases ds with
  | nil => cases r; exact ⟨rfl, k ρ σ m h⟩
  | cons _ _ => exact h.elim
theorem sg_cons (h1 : SndG Γ g wg) (h2 : SndGs Γ gs wgs) : SndGs Γ (gCons g gs) (gwCons wg wgs) := fun ds ρ Q F σ H vs K m r h k => by
  cases ds with
  | nil => exact h.elim
  | cons d ds =>
    cases r with
    | cons r1 r2 => exact ⟨_, _, rfl, h1 d ρ _ F σ H _ _ m r1 h fun ρ' σ' m' h' => h2 ds ρ' Q F σ' H _ K m' r2 h' k⟩
theorem sg_tup {n : Nat} (h : SndGs Γ gs wgs) : SndG Γ (gTup K n gs) (gwT n wgs) := fun d ρ Q F σ H v K' m r hh k => by
  unfold gwT at hh
  split at hh
  · rename_i ds
    cases r with
    | tup ha hl => exact ⟨_, _, rfl, SqT.of (m.fh _ _ ha), by rw [hl.length]; exact hh.1, h ds ρ Q F σ H _ K' m hl hh.2 k⟩
  · exact hh.elim
theorem ss_asg (h1 : SndE Γ te we) (h2 : SndG Γ g wg) : SndS Γ (tAsg te g) (wAsg we wg) := fun ρ P F σ H D m h k =>
  h1 ρ _ F σ H _ m h fun F1 H1 v r s q p => by
    split at p
    · rename_i d ed
      obtain ⟨F2, k2, s2, a2⟩ := q.freeze m.gi (toD_fz ed) s (Same.refl _)
      exact h2 d ρ _ F2 σ H1 v _ (m.step s2) a2 p fun ρ' σ' m' h' => k.nx F2 σ' H1 ρ' s2.ff m' h'
    · exact p.elim
end

/-! ### what is walked -/
def ItOk (Γ : Gm) (J : It) (items : List PyData) (F : Hp) : Prop := ∀ (F' H' : Hp), Same F F' → Same F' H' → gInv Γ.G H' → (∀ a, isBox Γ.G a → F' a = none) → ∀ i,
  (items.length ≤ i → J.stop i H') ∧ (∀ d, items[i]? = some d → J.go i H' ∧ ∀ x H'', J.yld i H' x H'' → ∃ F'', Stp Γ.G F' H' F'' H'' ∧ Rp F'' x d)
abbrev WI := List A → (List PyData → Prop) → Prop
def SndI (Γ : Gm) (t : TI) (w : WI) : Prop := ∀ (ρ : List A) (Q : List PyData → Prop) (F : Hp) (σ : St) (H : Hp) (R : It → Hp → Prop), M Γ F ρ σ H → w ρ Q →
  (∀ F' H' J items, Stp Γ.G F H F' H' → ItOk Γ J items F' → Q items → R J H') → t σ H R
structure PDI (X : Cx) (Γ : Gm) (tg iter : Expr) (t : TI) (w : WI) : Prop where
  pi : PI X tg iter t
  sd : SndI Γ t w
/-- lo, lo + 1, .. (n of them) -/
def rgD (lo : Int) (n : Nat) : List PyData := (List.range n).map fun i => PyData.int (lo + (i : Nat))
def wRange1 (a : WA) : WI := fun ρ Q => a ρ fun rs => match rs with
  | [.d (.int j)] => -(2 ^ 62) ≤ j ∧ j < 2 ^ 62 ∧ Q (rgD 0 j.toNat)
  | _ => False
def wRange2 (a : WA) : WI := fun ρ Q => a ρ fun rs => match rs with
  | [.d (.int i), .d (.int j)] => (-(2 ^ 62) ≤ i ∧ i < 2 ^ 62 ∧ -(2 ^ 62) ≤ j ∧ j < 2 ^ 62) ∧ Q (rgD i (j - i).toNat)
  | _ => False
/-- over a list: it is frozen -/
def wList (e : WE) : WI := fun ρ Q => e ρ fun r => match r with
  | .d (.list ds) => Q ds
  | .own ds => Q ds
  | _ => False
def wTupI (e : WE) : WI := fun ρ Q => e ρ fun r => match r with
  | .d (.tuple ds) => Q ds
  | _ => False
def enD (ds : List PyData) : List PyData := ds.mapIdx fun i d => .tuple [.int (i : Nat), d]
def wEnum (a : WA) : WI := fun ρ Q => a ρ fun rs => match rs with
  | [.d (.list ds)] => Q (enD ds)
  | [.own ds] => Q (enD ds)
  | _ => False
def wRev (a : WA) : WI := fun ρ Q => a ρ fun rs => match rs with
  | [.d (.list ds)] => Q ds.reverse
  | [.own ds] => Q ds.reverse
  | _ => False
def wFor (wi : WI) (g : WG) (b : WS) : WS := fun ρ P => wi ρ fun items => ∃ I : Nat → List A → Prop, I 0 ρ ∧ (∀ i d ρ', items[i]? = some d → I i ρ' → g d ρ' fun ρ2 => b ρ2 { P with nx := I (i + 1), ct := I (i + 1), bk := P.nx }) ∧ ∀ ρ', I items.length ρ' → P.nx ρ'
def wWhile (t : WT) (b : WS) : WS := fun ρ P => ∃ I : Nat → List A → Prop, (∃ m, I m ρ) ∧ ∀ m ρ', I m ρ' → t ρ' fun c => (c = true → b ρ' { P with nx := fun ρ2 => ∃ m', m' < m ∧ I m' ρ2, ct := fun ρ2 => ∃ m', m' < m ∧ I m' ρ2, bk := P.nx }) ∧ (c = false → P.nx ρ')
section
variable {X : Cx} {Γ : Gm} {K : PySem.W.Frag} {te : TE} {we : WE} {ta : TA} {wa : WA} {tt : TT} {wt : WT} {ti : TI} {wi : WI} {g : TG} {wg : WG} {tb : TS} {wb : WS}
theorem itok_range {F : Hp} (lo : Int) (n : Nat) : ItOk Γ (Itr lo n) (rgD lo n) F := fun F' H' s s' gi bx i => by
  refine ⟨fun h => ?_, fun d e => ?_⟩
  · show n ≤ i
    simpa [rgD] using h
  · unfold rgD at e
    rw [List.getElem?_map] at e
    obtain ⟨j, ej, rfl⟩ := Option.map_eq_some_iff.mp e
    obtain ⟨hj, e2⟩ := List.getElem?_eq_some_iff.mp ej
    simp at hj e2
    subst e2
    refine ⟨hj, fun x H'' y => ?_⟩
    obtain ⟨rfl, rfl⟩ := y
    exact ⟨F', Stp.refl s' gi bx, Rp.int _⟩
theorem si_range1 (h : SndA Γ ta wa) : SndI Γ (iRng1 ta) (wRange1 wa) := fun ρ Q F σ H R m q k =>
  h ρ _ F σ H _ m q fun F1 H1 vs rs s r p => by
    split at p
    · cases r with
      | cons r1 t => cases t with
        | nil =>
          cases (show Rp F1 _ (.int _) from r1)
          exact ⟨_, rfl, p.1, p.2.1, k F1 H1 _ _ s (itok_range _ _) p.2.2⟩
    · exact p.elim
theorem si_range2 (h : SndA Γ ta wa) : SndI Γ (iRng2 ta) (wRange2 wa) := fun ρ Q F σ H R m q k =>
  h ρ _ F σ H _ m q fun F1 H1 vs rs s r p => by
    split at p
    · cases r with
      | cons r1 t => cases t with
        | cons r2 t => cases t with
          | nil =>
            cases (show Rp F1 _ (.int _) from r1)
            cases (show Rp F1 _ (.int _) from r2)
            exact ⟨_, _, rfl, p.1, k F1 H1 _ _ s (itok_range _ _) p.2⟩
    · exact p.elim
theorem SqL.inj1 {H : Hp} {a : Addr} {xs ys : List V} (h : H a = some (.lst xs)) (h' : H a = some (.lst ys)) : xs = ys := by
  rw [h] at h'; cases h'; rfl
theorem itok_list {F : Hp} {a : Addr} {vs : List V} {ds : List PyData} (h : F a = some (.lst vs)) (l : RpL F vs ds) : ItOk Γ (Itl K a) ds F := fun F' H' s s' gi bx i => by
  have h' : H' a = some (.lst vs) := s' _ _ (s _ _ h)
  refine ⟨fun hi => ⟨vs, SqL.of h', by rw [l.length]; exact hi⟩, fun d e => ?_⟩
  obtain ⟨v, ev, rv⟩ := l.get e
  refine ⟨⟨vs, v, SqL.of h', ev⟩, fun x H'' y => ?_⟩
  obtain ⟨rfl, y⟩ := y
  have e2 := y vs (SqL.of h')
  rw [ev] at e2; cases e2
  exact ⟨F', Stp.refl s' gi bx, rv.up s⟩
theorem itok_tup {F : Hp} {a : Addr} {vs : List V} {ds : List PyData} (h : F a = some (.tup vs)) (l : RpL F vs ds) : ItOk Γ (Itt K a) ds F := fun F' H' s s' gi bx i => by
  have h' : H' a = some (.tup vs) := s' _ _ (s _ _ h)
  refine ⟨fun hi => ⟨vs, SqT.of h', by rw [l.length]; exact hi⟩, fun d e => ?_⟩
  obtain ⟨v, ev, rv⟩ := l.get e
  refine ⟨⟨vs, v, SqT.of h', ev⟩, fun x H'' y => ?_⟩
  obtain ⟨rfl, y⟩ := y
  have e2 := y vs (SqT.of h')
  rw [ev] at e2; cases e2
  exact ⟨F', Stp.refl s' gi bx, rv.up s⟩
theorem si_list (h : SndE Γ te we) : SndI Γ (iList K te) (wList we) := fun ρ Q F σ H R m q k =>
  h ρ _ F σ H _ m q fun F1 H1 v r s q1 p => by
    have fin : ∀ ds, toD r = some (.list ds) → Q ds → ∃ a, v = .ref a ∧ (∃ xs, SqL K H1 a xs) ∧ R (Itl K a) H1 := fun ds ed p => by
      obtain ⟨F2, k2, s2, a2⟩ := q1.freeze m.gi (toD_fz ed) s (Same.refl _)
      cases (show Rp F2 v (.list ds) from a2) with
      | lst ha hl => exact ⟨_, rfl, ⟨_, SqL.of (s2.fh _ _ ha)⟩, k F2 H1 _ ds s2 (itok_list ha hl) p⟩
    split at p
    · exact fin _ rfl p
    · exact fin _ rfl p
    · exact p.elim
theorem si_tup (h : SndE Γ te we) : SndI Γ (iTup K te) (wTupI we) := fun ρ Q F σ H R m q k =>
  h ρ _ F σ H _ m q fun F1 H1 v r s q1 p => by
    split at p
    · rename_i ds
      cases (show Rp F1 v (.tuple ds) from q1) with
      | tup ha hl => exact ⟨_, rfl, ⟨_, SqT.of (s.fh _ _ ha)⟩, k F1 H1 _ ds s (itok_tup ha hl) p⟩
    · exact p.elim
theorem ss_for (hi : SndI Γ ti wi) (hg : SndG Γ g wg) (hb : SndS Γ tb wb) : SndS Γ (tFor ti g tb) (wFor wi wg wb) := fun ρ P F σ H D m h k =>
  hi ρ _ F σ H _ m h fun F1 H1 J items s ok hI => by
    obtain ⟨I, i0, turn, done⟩ := hI
    refine ⟨fun i mm σ' H' => mm = items.length - i ∧ i ≤ items.length ∧ ∃ F' ρ', Same F1 F' ∧ M Γ F' ρ' σ' H' ∧ I i ρ', ⟨_, rfl, Nat.zero_le _, F1, ρ, Same.refl _, m.step s, i0⟩, ?_⟩
    rintro i mm σ' H' ⟨rfl, hi, F', ρ', ss, m', iv⟩
    have o := ok F' H' ss m'.fh m'.gi m'.st.box i
    by_cases hlt : i < items.length
    · obtain ⟨go, yl⟩ := o.2 items[i] (List.getElem?_eq_getElem hlt)
      refine .inr ⟨go, fun σ2 H2 => ∃ F2 ρ2, Same F1 F2 ∧ M Γ F2 ρ2 σ2 H2 ∧ I (i + 1) ρ2, fun σ2 H2 ⟨F2, ρ2, s2, m2, iv2⟩ => ⟨_, (by omega : items.length - (i + 1) < items.length - i), rfl, hlt, F2, ρ2, s2, m2, iv2⟩, fun x H'' y => ?_⟩
      obtain ⟨F'', st, rx⟩ := yl x H'' y
      refine hg items[i] ρ' _ F'' σ' H'' x _ (m'.step st) rx (turn i _ ρ' (List.getElem?_eq_getElem hlt) iv) fun ρ2 σ2 m2 hb2 => ?_
      have up : Same F1 F'' := ss.trans st.ff
      refine hb ρ2 _ F'' σ2 H'' _ m2 hb2 ⟨fun F3 σ3 H3 ρ3 e3 m3 q3 => ⟨F3, ρ3, up.trans e3, m3, q3⟩, fun F3 H3 v r e3 => k.rt F3 H3 v r ((s.ff.trans up).trans e3), fun F3 σ3 H3 ρ3 e3 m3 q3 => k.nx F3 σ3 H3 ρ3 ((s.ff.trans up).trans e3) m3 q3, fun F3 σ3 H3 ρ3 e3 m3 q3 => ⟨F3, ρ3, up.trans e3, m3, q3⟩⟩
    · have e : i = items.length := by omega
      subst e
      exact .inl ⟨o.1 (Nat.le_refl _), k.nx F' σ' H' ρ' (s.ff.trans ss) m' (done ρ' iv)⟩
theorem ss_while (ht : SndT Γ tt wt) (hb : SndS Γ tb wb) : SndS Γ (tWhile tt tb) (wWhile wt wb) := fun ρ P F σ H D m h k => by
  obtain ⟨I, ⟨m0, i0⟩, turn⟩ := h
  refine ⟨fun n σ' H' => ∃ F' ρ', Same F F' ∧ M Γ F' ρ' σ' H' ∧ I n ρ', ⟨m0, F, ρ, Same.refl _, m, i0⟩, ?_⟩
  rintro n σ' H' ⟨F', ρ', ss, m', iv⟩
  refine ht ρ' _ F' σ' H' _ m' (turn n ρ' iv) fun F1 H1 b s p => ?_
  have up : Same F F1 := ss.trans s.ff
  cases b with
  | true =>
    refine iteT ⟨fun σ2 H2 => ∃ n', n' < n ∧ ∃ F2 ρ2, Same F F2 ∧ M Γ F2 ρ2 σ2 H2 ∧ I n' ρ2, fun σ2 H2 h2 => h2, ?_⟩
    refine hb ρ' _ F1 σ' H1 _ (m'.step s) (p.1 rfl) ⟨fun F3 σ3 H3 ρ3 e3 m3 q3 => ?_, fun F3 H3 v r e3 => k.rt F3 H3 v r (up.trans e3), fun F3 σ3 H3 ρ3 e3 m3 q3 => k.nx F3 σ3 H3 ρ3 (up.trans e3) m3 q3, fun F3 σ3 H3 ρ3 e3 m3 q3 => ?_⟩
    · obtain ⟨n', l, q⟩ := q3
      exact ⟨n', l, F3, ρ3, up.trans e3, m3, q⟩
    · obtain ⟨n', l, q⟩ := q3
      exact ⟨n', l, F3, ρ3, up.trans e3, m3, q⟩
  | false => exact iteF (k.nx F1 σ' H1 ρ' up (m'.step s) (p.2 rfl))
end
end Yd

/-! YdE: comprehensions, enumerate, reversed, slices, list(range), calls of defs by promises over abstract values. -/
namespace Yd
open PySem L2

def wipeA (ρ : List A) : List Nat → List A
  | [] => ρ
  | v :: vs => (wipeA ρ vs).set v .un
theorem wipeA_length (ρ : List A) : ∀ vs : List Nat, (wipeA ρ vs).length = ρ.length
  | [] => rfl
  | v :: vs => by unfold wipeA; rw [List.length_set, wipeA_length ρ vs]
/-- [e for g in wi if wt]: I by the turn and what is made so far -/
def wLc (wi : WI) (g : WG) (wt : WT) (we : WE) (vs : List Nat) : WE := fun ρ Q => wi ρ fun items => ∃ I : Nat → List PyData → Prop, I 0 [] ∧
  (∀ i d acc, items[i]? = some d → I i acc → g d (wipeA ρ vs) fun ρ2 => wt ρ2 fun b => (b = true → we ρ2 fun r => match toD r with
    | some y => acc.length < sizeLine ∧ I (i + 1) (acc ++ [y])
    | none => False) ∧ (b = false → I (i + 1) acc)) ∧ ∀ acc, I items.length acc → Q (.own acc)
def wYes : WT := fun _ Q => Q true
/-- a target that stores within vs alone -/
def GW (vs : List Nat) (g : TG) : Prop := ∀ (v : V) (σ : St) (H : Hp) (K : St → Hp → Prop), g v σ H K → g v σ H fun σ' H' => K σ' H' ∧ wipe σ' vs = wipe σ vs
def GWs (vs : List Nat) (g : TGs) : Prop := ∀ (xs : List V) (σ : St) (H : Hp) (K : St → Hp → Prop), g xs σ H K → g xs σ H fun σ' H' => K σ' H' ∧ wipe σ' vs = wipe σ vs
theorem wipe_set_in (σ : St) (i : Nat) (x : Option V) : ∀ vs : List Nat, (i ∈ vs → wipe (σ.set i x) vs = wipe σ vs) ∧ (i ∉ vs → wipe (σ.set i x) vs = (wipe σ vs).set i x)
  | [] => ⟨fun h => (by cases h), fun _ => rfl⟩
  | v :: vs => by
    have ih := wipe_set_in σ i x vs
    constructor
    · intro h
      unfold wipe
      by_cases hi : i ∈ vs
      · rw [ih.1 hi]
      · have e : i = v := by
          rcases List.mem_cons.mp h with z | z
          · exact z
          · exact absurd z hi
        subst e
        rw [ih.2 hi, List.set_set]
    · intro h
      unfold wipe
      have h1 : i ∉ vs := fun z => h (List.mem_cons_of_mem _ z)
      have h2 : i ≠ v := fun z => h (by rw [z]; exact List.mem_cons_self)
      rw [ih.2 h1, List.set_comm _ _ h2]
theorem wipe_wipe (σ : St) (us : List Nat) : ∀ vs : List Nat, (∀ v ∈ vs, v ∈ us) → wipe (wipe σ vs) us = wipe σ us
  | [], _ => rfl
  | v :: vs, h => by
    show wipe ((wipe σ vs).set v none) us = _
    rw [(wipe_set_in _ v none us).1 (h v List.mem_cons_self)]
    exact wipe_wipe σ us vs fun w hw => h w (List.mem_cons_of_mem _ hw)
theorem gw_name {vs : List Nat} {i : Nat} (h : i ∈ vs) : GW vs (gName i) := fun v σ H K q => ⟨q, (wipe_set_in σ i (some v) vs).1 h⟩
theorem gw_nil {vs : List Nat} : GWs vs gNil := fun xs σ H K q => ⟨q.1, q.2, rfl⟩
theorem gw_cons {vs : List Nat} {g : TG} {gs : TGs} (h1 : GW vs g) (h2 : GWs vs gs) (mono : ∀ (v : V) (σ : St) (H : Hp) (K K' : St → Hp → Prop), (∀ σ' H', K σ' H' → K' σ' H') → g v σ H K → g v σ H K') (monos : ∀ (xs : List V) (σ : St) (H : Hp) (K K' : St → Hp → Prop), (∀ σ' H', K σ' H' → K' σ' H') → gs xs σ H K → gs xs σ H K') : GWs vs (gCons g gs) := fun xs σ H K q => by
  obtain ⟨v, r, e, q⟩ := q
  refine ⟨v, r, e, mono v σ H _ _ (fun σ' H' z => ?_) (h1 v σ H _ q)⟩
  exact monos r σ' H' _ _ (fun σ2 H2 y => ⟨y.1, y.2.trans z.2⟩) (h2 r σ' H' _ z.1)
theorem gw_tup {K0 : PySem.W.Frag} {vs : List Nat} {n : Nat} {gs : TGs} (h : GWs vs gs) : GW vs (gTup K0 n gs) := fun v σ H K q => by
  obtain ⟨a, xs, e1, e2, e3, q⟩ := q
  exact ⟨a, xs, e1, e2, e3, h xs σ H K q⟩
theorem mono_name {i : Nat} : ∀ (v : V) (σ : St) (H : Hp) (K K' : St → Hp → Prop), (∀ σ' H', K σ' H' → K' σ' H') → gName i v σ H K → gName i v σ H K' := fun _ _ _ _ _ h q => h _ _ q
theorem mono_nil : ∀ (v : List V) (σ : St) (H : Hp) (K K' : St → Hp → Prop), (∀ σ' H', K σ' H' → K' σ' H') → gNil v σ H K → gNil v σ H K' := fun _ _ _ _ _ h q => ⟨q.1, h _ _ q.2⟩
theorem mono_cons {g : TG} {gs : TGs} (h1 : ∀ (v : V) (σ : St) (H : Hp) (K K' : St → Hp → Prop), (∀ σ' H', K σ' H' → K' σ' H') → g v σ H K → g v σ H K') (h2 : ∀ (xs : List V) (σ : St) (H : Hp) (K K' : St → Hp → Prop), (∀ σ' H', K σ' H' → K' σ' H') → gs xs σ H K → gs xs σ H K') :
    ∀ (v : List V) (σ : St) (H : Hp) (K K' : St → Hp → Prop), (∀ σ' H', K σ' H' → K' σ' H') → gCons g gs v σ H K → gCons g gs v σ H K' := fun _ _ _ _ _ h ⟨v, r, e, q⟩ => ⟨v, r, e, h1 _ _ _ _ _ (fun σ' H' z => h2 _ _ _ _ _ h z) q⟩

section
variable {Γ : Gm} {ρ : List A} {σ : St} {F H F1 H1 F' H' : Hp}
theorem M.wipe (m : M Γ F ρ σ H) : ∀ vs : List Nat, M Γ F (wipeA ρ vs) (L2.wipe σ vs) H
  | [] => m
  | v :: vs => by
    have m1 := M.wipe m vs
    show M Γ F ((wipeA ρ vs).set v .un) ((L2.wipe σ vs).set v none) H
    refine ⟨m1.st, m1.gi0, by simp [m1.len], fun i a o h1 h2 => ?_, fun i j p h1 h2 => ?_, fun i x h1 => ?_⟩
    rotate_left 2
    · have hi : v ≠ i := fun hi => by
        subst hi
        obtain ⟨z1, e1⟩ := List.getElem?_eq_some_iff.mp h1
        rw [List.getElem_set_self] at e1
        cases e1
      rw [List.getElem?_set_ne hi] at h1
      obtain ⟨v2, Fs, ev, r2, ss, n⟩ := m1.fr i x h1
      refine ⟨v2, Fs, by rw [List.getElem?_set_ne hi]; exact ev, r2, ss, fun a qa => ?_⟩
      obtain ⟨n1, n2, n3, n4⟩ := n a qa
      refine ⟨n1, n2, n3, fun k hk => ?_⟩
      obtain ⟨⟨zs, q1⟩, q2⟩ := hk
      by_cases hik : v = k
      · subst hik
        obtain ⟨z1, e1⟩ := List.getElem?_eq_some_iff.mp q1
        rw [List.getElem_set_self] at e1
        cases e1
      · rw [List.getElem?_set_ne hik] at q1 q2
        exact n4 k ⟨⟨zs, q1⟩, q2⟩
    · by_cases hi : v = i
      · subst hi
        obtain ⟨z1, e1⟩ := List.getElem?_eq_some_iff.mp h1
        rw [List.getElem_set_self] at e1
        subst e1
        trivial
      · rw [List.getElem?_set_ne hi] at h1 h2
        exact m1.sl i a o h1 h2
    · have old : ∀ {j : Nat}, ownAt ((wipeA ρ vs).set v .un) ((L2.wipe σ vs).set v none) j p → ownAt (wipeA ρ vs) (L2.wipe σ vs) j p := fun {j} ⟨⟨zs, q1⟩, q2⟩ => by
        by_cases hj : v = j
        · subst hj
          obtain ⟨z1, e1⟩ := List.getElem?_eq_some_iff.mp q1
          rw [List.getElem_set_self] at e1
          cases e1
        · rw [List.getElem?_set_ne hj] at q1 q2
          exact ⟨⟨zs, q1⟩, q2⟩
      exact m1.dj i j p (old h1) (old h2)
theorem Stp.put {G : Gh} (s : Stp G F H F' H') {D : Addr} {o : HO} (h0 : H D = none) (hf : F' D = none) (nb : ¬ isBox G D) : Stp G F H F' (upd H' D o) := by
  refine ⟨s.ff, fun b u q => ?_, ?_, fun b u q n => ?_, s.new, s.box⟩
  · rw [upd_ne (ne_of_none q hf)]; exact s.fh b u q
  · exact s.gi.upd nb
  · rw [upd_ne (ne_of_none q h0)]; exact s.keep b u q n
theorem Stp.none_keep {G : Gh} (s : Stp G F H F' H') {D : Addr} {o : HO} (h : H D = some o) (hf : F D = none) : F' D = none := by
  cases e : F' D with
  | none => rfl
  | some u =>
    rcases s.new D (by rw [e]; simp) with z | z
    · exact absurd hf z
    · rw [h] at z; cases z
theorem sd_lc {ti : TI} {wi : WI} {g : TG} {wg : WG} {tt : TT} {wt : WT} {te : TE} {we : WE} {vs : List Nat} (hi : SndI Γ ti wi) (hg : SndG Γ g wg) (hv : GW vs g) (ht : SndT Γ tt wt) (he : SndE Γ te we) : SndE Γ (tLc ti g tt te vs) (wLc wi wg wt we vs) := fun ρ Q F σ H K m h k =>
  hi ρ _ F σ H _ m h fun F1 H1 J items s ok hI D hD => by
    obtain ⟨I, i0, turn, done⟩ := hI
    have hD0 : H D = none := s.none_back hD
    have nb : ¬ isBox Γ.G D := fun z => m.gi.box z hD0
    have sD : Stp Γ.G F H F1 (upd H1 D (.lst [])) := s.put hD0 (s.fh.free hD) nb
    refine ⟨fun i mm H' => mm = items.length - i ∧ i ≤ items.length ∧ ∃ F' acc av, Same F1 F' ∧ Stp Γ.G F H F' H' ∧ H' D = some (.lst av) ∧ RpL F' av acc ∧ F' D = none ∧ I i acc,
      ⟨_, rfl, Nat.zero_le _, F1, [], [], Same.refl _, sD, upd_same, .nil, s.fh.free hD, i0⟩, ?_⟩
    rintro i mm H' ⟨rfl, hi, F', acc, av, ss, st, hd, hl, fd, iv⟩
    have m' := m.step st
    have o := ok F' H' ss st.fh st.gi st.box i
    by_cases hlt : i < items.length
    · obtain ⟨go, yl⟩ := o.2 items[i] (List.getElem?_eq_getElem hlt)
      refine .inr ⟨go, fun H2 => ∃ F2 acc2 av2, Same F1 F2 ∧ Stp Γ.G F H F2 H2 ∧ H2 D = some (.lst av2) ∧ RpL F2 av2 acc2 ∧ F2 D = none ∧ I (i + 1) acc2, fun H2 ⟨F2, a2, v2, q⟩ => ⟨_, (by omega : items.length - (i + 1) < items.length - i), rfl, hlt, F2, a2, v2, q⟩, fun x H'' y => ?_⟩
      obtain ⟨F'', st2, rx⟩ := yl x H'' y
      have m2 := (m'.step st2).wipe vs
      have hd2 : H'' D = some (.lst av) := st2.keep D _ hd nb
      have fd2 : F'' D = none := st2.none_keep hd fd
      have st12 := st.trans m.gi st2
      have hgo := hg items[i] (wipeA ρ vs) _ F'' (L2.wipe σ vs) H'' x (fun σ2 H2 => tt σ2 H2 fun b H3 => if b = true then te σ2 H3 fun y H4 => ∃ acc, H4 D = some (.lst acc) ∧ acc.length < sizeLine ∧ (∃ F2 acc2 av2, Same F1 F2 ∧ Stp Γ.G F H F2 (upd H4 D (.lst (acc ++ [y]))) ∧ (upd H4 D (.lst (acc ++ [y]))) D = some (.lst av2) ∧ RpL F2 av2 acc2 ∧ F2 D = none ∧ I (i + 1) acc2)
          else ∃ F2 acc2 av2, Same F1 F2 ∧ Stp Γ.G F H F2 H3 ∧ H3 D = some (.lst av2) ∧ RpL F2 av2 acc2 ∧ F2 D = none ∧ I (i + 1) acc2) m2 rx (turn i _ acc (List.getElem?_eq_getElem hlt) iv) fun ρ2 σ2 m3 hb2 => ?_
      · have := hv x (L2.wipe σ vs) H'' _ hgo
        refine cast ?_ this
        congr 1
        funext σ2 H2
        rw [wipe_wipe σ vs vs fun _ z => z]
        exact propext ⟨fun z => ⟨z.2, z.1⟩, fun z => ⟨z.2, z.1⟩⟩
      · refine ht ρ2 _ F'' σ2 H'' _ m3 hb2 fun F3 H3 b s3 p3 => ?_
        have hd3 : H3 D = some (.lst av) := s3.keep D _ hd2 nb
        have fd3 : F3 D = none := s3.none_keep hd2 fd2
        have st3 := st12.trans m.gi s3
        have up3 : Same F1 F3 := (ss.trans st2.ff).trans s3.ff
        cases b with
        | true =>
          refine iteT (he ρ2 _ F3 σ2 H3 _ (m3.step s3) (p3.1 rfl) fun F4 H4 v r s4 q4 p4 => ?_)
          split at p4
          · rename_i yd ed
            obtain ⟨F5, k5, s5, a5⟩ := q4.freeze s3.gi (toD_fz ed) s4 (Same.refl _)
            have hd5 : H4 D = some (.lst av) := s5.keep D _ hd3 nb
            have fd5 : F5 D = none := s5.none_keep hd3 fd3
            have st5 := st3.trans m.gi s5
            exact ⟨av, hd5, by rw [hl.length]; exact p4.1, F5, acc ++ [yd], av ++ [v], up3.trans s5.ff, st5.put hD0 fd5 nb, upd_same, (hl.up (((st2.ff.trans s3.ff)).trans s5.ff)).append (.one a5), fd5, p4.2⟩
          · exact p4.elim
        | false => exact iteF ⟨F3, acc, av, up3, st3, hd3, hl.up (st2.ff.trans s3.ff), fd3, p3.2 rfl⟩
    · have e : i = items.length := by omega
      subst e
      have f0 : F D = none := m.fh.free hD0
      exact .inl ⟨o.1 (Nat.le_refl _), k F' H' (.ref D) (.own acc) st ⟨D, av, rfl, hD0, fd, hd, hl⟩ (done acc iv)⟩
theorem st_yes : SndT Γ tYes wYes := fun ρ Q F σ H K m h k => k F H true m.stp h

/-! ### enumerate, reversed -/
theorem itok_enum {K : PySem.W.Frag} {F : Hp} {a : Addr} {vs : List V} {ds : List PyData} (h : F a = some (.lst vs)) (l : RpL F vs ds) : ItOk Γ (Ite K a) (enD ds) F := fun F' H' s s' gi bx i => by
  have h' : H' a = some (.lst vs) := s' _ _ (s _ _ h)
  refine ⟨fun hi => ⟨vs, SqL.of h', by rw [l.length]; simpa [enD] using hi⟩, fun d e => ?_⟩
  unfold enD at e
  rw [List.getElem?_mapIdx] at e
  obtain ⟨d0, e0, rfl⟩ := Option.map_eq_some_iff.mp e
  obtain ⟨v, ev, rv⟩ := l.get e0
  refine ⟨⟨vs, v, SqL.of h', ev⟩, fun x H'' y => ?_⟩
  obtain ⟨T, x0, rfl, hT, rfl, y⟩ := y
  have e2 := y vs (SqL.of h')
  rw [ev] at e2; cases e2
  have st := Stp.new1 (o := .tup [.int (i : Nat), v]) s' gi bx hT
  exact ⟨_, st, Rp.tup upd_same (.cons (Rp.int _) (.one ((rv.up s).up st.ff)))⟩
theorem itok_rev {K : PySem.W.Frag} {F : Hp} {a : Addr} {vs : List V} {ds : List PyData} (h : F a = some (.lst vs)) (l : RpL F vs ds) : ItOk Γ (Itv K a vs.length) ds.reverse F := fun F' H' s s' gi bx i => by
  have h' : H' a = some (.lst vs) := s' _ _ (s _ _ h)
  refine ⟨fun hi => by show vs.length ≤ i; rw [l.length]; simpa using hi, fun d e => ?_⟩
  obtain ⟨hl, _⟩ := List.getElem?_eq_some_iff.mp e
  rw [List.length_reverse] at hl
  rw [List.getElem?_reverse hl] at e
  obtain ⟨v, ev, rv⟩ := l.get e
  rw [← l.length] at ev hl
  refine ⟨⟨hl, vs, v, SqL.of h', ev⟩, fun x H'' y => ?_⟩
  obtain ⟨rfl, y⟩ := y
  have e2 := y vs (SqL.of h')
  rw [ev] at e2; cases e2
  exact ⟨F', Stp.refl s' gi bx, rv.up s⟩
theorem listArg {ta : TA} {wa : WA} {K : PySem.W.Frag} {ρ : List A} {F H : Hp} {F1 H1 : Hp} {vs : List V} {r : A} {ds : List PyData} (m : M Γ F ρ σ H) (s : Stp Γ.G F H F1 H1) (q : ResL Γ ρ σ F H F1 H1 vs [r]) (e : toD r = some (.list ds)) :
    ∃ a ws F2, vs = [.ref a] ∧ F2 a = some (.lst ws) ∧ RpL F2 ws ds ∧ Stp Γ.G F H F2 H1 := by
  cases q with
  | cons q1 t => cases t with
    | nil =>
      obtain ⟨F2, k2, s2, a2⟩ := q1.freeze m.gi (toD_fz e) s (Same.refl _)
      cases (show Rp F2 _ (.list ds) from a2) with
      | lst ha hl => exact ⟨_, _, F2, rfl, ha, hl, s2⟩
theorem si_enum {K : PySem.W.Frag} {ta : TA} {wa : WA} (h : SndA Γ ta wa) : SndI Γ (iEnum K ta) (wEnum wa) := fun ρ Q F σ H R m q k =>
  h ρ _ F σ H _ m q fun F1 H1 vs rs s r p => by
    split at p
    · obtain ⟨a, ws, F2, rfl, ha, hl, s2⟩ := listArg (ta := ta) (wa := wa) (K := K) m s r rfl
      exact ⟨a, ws, rfl, SqL.of (s2.fh _ _ ha), k F2 H1 _ _ s2 (itok_enum ha hl) p⟩
    · obtain ⟨a, ws, F2, rfl, ha, hl, s2⟩ := listArg (ta := ta) (wa := wa) (K := K) m s r rfl
      exact ⟨a, ws, rfl, SqL.of (s2.fh _ _ ha), k F2 H1 _ _ s2 (itok_enum ha hl) p⟩
    · exact p.elim
theorem si_rev {K : PySem.W.Frag} {ta : TA} {wa : WA} (h : SndA Γ ta wa) : SndI Γ (iRev K ta) (wRev wa) := fun ρ Q F σ H R m q k =>
  h ρ _ F σ H _ m q fun F1 H1 vs rs s r p => by
    split at p
    · obtain ⟨a, ws, F2, rfl, ha, hl, s2⟩ := listArg (ta := ta) (wa := wa) (K := K) m s r rfl
      exact ⟨a, ws, rfl, SqL.of (s2.fh _ _ ha), k F2 H1 _ _ s2 (itok_rev ha hl) p⟩
    · obtain ⟨a, ws, F2, rfl, ha, hl, s2⟩ := listArg (ta := ta) (wa := wa) (K := K) m s r rfl
      exact ⟨a, ws, rfl, SqL.of (s2.fh _ _ ha), k F2 H1 _ _ s2 (itok_rev ha hl) p⟩
    · exact p.elim
end

/-! ### slices, list(range) -/
abbrev WO := List A → (Option Int → Prop) → Prop
def SndO (Γ : Gm) (t : TO) (w : WO) : Prop := ∀ (ρ : List A) (Q : Option Int → Prop) (F : Hp) (σ : St) (H : Hp) (K : Option Int → Hp → Prop), M Γ F ρ σ H → w ρ Q → (∀ F' H' o, Stp Γ.G F H F' H' → Q o → K o H') → t σ H K
structure PDO (X : Cx) (Γ : Gm) (e : Option Expr) (t : TO) (w : WO) : Prop where
  po : PO X e t
  sd : SndO Γ t w
def wNoPart : WO := fun _ Q => Q none
def wPart (e : WE) : WO := fun ρ Q => e ρ fun r => match r with
  | .d (.int i) => Q (some i)
  | _ => False
def wSl (e : WE) (lo hi : WO) : WE := fun ρ Q => e ρ fun r => lo ρ fun l => hi ρ fun h => slA r l h Q
def wLstRg (e : List A → (Int → Int → Prop) → Prop) : WE := fun ρ Q => e ρ fun a b => RgOk a b ∧ Q (.own (rgD a (b - a).toNat))
def wRg1 (e : WE) : List A → (Int → Int → Prop) → Prop := fun ρ Q => e ρ fun r => match r with
  | .d (.int n) => Q 0 n
  | _ => False
def wRg2 (e1 e2 : WE) : List A → (Int → Int → Prop) → Prop := fun ρ Q => e1 ρ fun r => e2 ρ fun q => match r, q with
  | .d (.int i), .d (.int j) => Q i j
  | _, _ => False
def SndRg (Γ : Gm) (t : St → Hp → (Int → Int → Hp → Prop) → Prop) (w : List A → (Int → Int → Prop) → Prop) : Prop := ∀ (ρ : List A) (Q : Int → Int → Prop) (F : Hp) (σ : St) (H : Hp) (K : Int → Int → Hp → Prop), M Γ F ρ σ H → w ρ Q → (∀ F' H' a b, Stp Γ.G F H F' H' → Q a b → K a b H') → t σ H K
section
variable {X : Cx} {Γ : Gm} {K : PySem.W.Frag} {te t1 t2 : TE} {we w1 w2 : WE} {tl th : TO} {wl wh : WO}
theorem so_none : SndO Γ tNoPart wNoPart := fun ρ Q F σ H K m h k => k F H none m.stp h
theorem so_some (h : SndE Γ te we) : SndO Γ (tPart te) (wPart we) := fun ρ Q F σ H K m q k =>
  h ρ _ F σ H _ m q fun F1 H1 v r s q1 p => by
    split at p
    · cases (show Rp F1 v (.int _) from q1)
      exact ⟨_, rfl, k F1 H1 _ s p⟩
    · exact p.elim
theorem sd_sl (h : SndE Γ te we) (hl : SndO Γ tl wl) (hh : SndO Γ th wh) : SndE Γ (tSl (fun x lo hi H Q => rSlL K x lo hi H Q ∨ rSlT K x lo hi H Q) te tl th) (wSl we wl wh) := fun ρ Q F σ H K0 m q k =>
  h ρ _ F σ H _ m q fun F1 H1 v r s1 q1 p1 => hl ρ _ F1 σ H1 _ (m.step s1) p1 fun F2 H2 lo s2 p2 => hh ρ _ F2 σ H2 _ ((m.step s1).step s2) p2 fun F3 H3 hi s3 p3 => by
    have s12 := s1.trans m.gi s2
    have s := s12.trans m.gi s3
    have m3 := m.step s
    have q3 := (q1.step m.gi s1 s2).step m.gi s12 s3
    unfold slA at p3
    split at p3
    · rename_i xs
      obtain ⟨p, vs, rfl, f1, h1, l1⟩ := q3.tupl m3
      refine .inr ⟨p, vs, rfl, SqT.of h1, by rw [l1.length]; exact p3.1, fun t ht => ?_⟩
      have s4 := Stp.new1 (o := .tup (cutV vs lo hi)) s.fh s.gi s.box ht
      exact k _ _ _ (.tup _) (s.trans m.gi s4) (Rp.tup upd_same ((l1.cutV lo hi).up s4.ff)) p3.2
    · split at p3
      · rename_i xs e
        obtain ⟨p, vs, rfl, h1, l1⟩ := q3.list m3 e
        refine .inl ⟨p, vs, rfl, SqL.of h1, fun t ht => ?_⟩
        have s4 := Stp.new0 (o := .lst (cutV vs lo hi)) s.fh s.gi s.box ht
        exact k _ _ _ (.own _) (s.trans m.gi s4) ⟨t, _, rfl, s.none_back ht, s.fh.free ht, upd_same, l1.cutV lo hi⟩ p3
      · exact p3.elim
theorem sg_rg1 (h : SndE Γ te we) : SndRg Γ (tRg1 te) (wRg1 we) := fun ρ Q F σ H K m q k =>
  h ρ _ F σ H _ m q fun F1 H1 v r s q1 p => by
    split at p
    · cases (show Rp F1 v (.int _) from q1)
      exact ⟨_, rfl, k F1 H1 _ _ s p⟩
    · exact p.elim
theorem sg_rg2 (h : SndE Γ t1 w1) (h2 : SndE Γ t2 w2) : SndRg Γ (tRg2 t1 t2) (wRg2 w1 w2) := fun ρ Q F σ H K m q k =>
  h ρ _ F σ H _ m q fun F1 H1 v r s q1 p => h2 ρ _ F1 σ H1 _ (m.step s) p fun F2 H2 v2 r2 s2 q2 p2 => by
    split at p2
    · cases (show Rp F1 v (.int _) from q1)
      cases (show Rp F2 v2 (.int _) from q2)
      exact ⟨_, _, rfl, rfl, k F2 H2 _ _ (s.trans m.gi s2) p2⟩
    · exact p2.elim
theorem rp_rg {F : Hp} (a b : Int) : RpL F (rgV a b) (rgD a (b - a).toNat) := by
  have e1 : rgV a b = ((List.range (b - a).toNat).map fun i => a + ((i : Nat) : Int)).map V.int := by unfold rgV; rw [List.map_map]; rfl
  have e2 : rgD a (b - a).toNat = ((List.range (b - a).toNat).map fun i => a + ((i : Nat) : Int)).map PyData.int := by unfold rgD; rw [List.map_map]; rfl
  rw [e1, e2]
  exact RpL.ints _
theorem sd_lstRg {t : St → Hp → (Int → Int → Hp → Prop) → Prop} {w : List A → (Int → Int → Prop) → Prop} (h : SndRg Γ t w) : SndE Γ (tLstRg t) (wLstRg w) := fun ρ Q F σ H K m q k =>
  h ρ _ F σ H _ m q fun F1 H1 a b s p => by
    refine ⟨p.1, fun x hx => ?_⟩
    have s2 := Stp.new0 (o := .lst (rgV a b)) s.fh s.gi s.box hx
    exact k _ _ _ (.own _) (s.trans m.gi s2) ⟨x, _, rfl, s.none_back hx, s.fh.free hx, upd_same, rp_rg a b⟩ p.2
end

/-! ### promises of defs -/
abbrev Spc := List A → (A → Prop) → Prop
/-- a promise over abstract values: it makes new things, draws from the box, and changes nothing else -/
def spA (C : Addr) (spec : Spc) : Sp := fun vs H Q _ => ∃ (G : Gh) (F : Hp) (as : List A) (P : A → Prop), Same F H ∧ gInv G H ∧ (∀ a, isBox G a → F a = none) ∧ ArgsR G C F vs as ∧ spec as P ∧
  ∀ F' H' v r, Stp G F H F' H' → RetR G C H F' H' v r → P r → Q v H'
def wCall (spec : Spc) (wa : WA) : WE := fun ρ Q => wa ρ fun rs => match fzs rs with
  | some as => spec as Q
  | none => False
theorem ret_res {Γ : Gm} {ρ : List A} {σ : St} {F H F1 H1 F2 H2 : Hp} {v : V} {r : A} (s : Stp Γ.G F H F1 H1) (q : RetR Γ.G Γ.C H1 F2 H2 v r) : Res Γ ρ σ F H F2 H2 v r := by
  cases r with
  | un => exact q.elim
  | bor _ _ => exact q.elim
  | fr _ => exact q.elim
  | dct _ _ => exact q.elim
  | dtt _ => exact q.elim
  | own xs =>
    obtain ⟨p, vs, e, h1, h2, h3, h4⟩ := q
    exact ⟨p, vs, e, s.none_back h1, h2, h3, h4⟩
  | lt ks =>
    obtain ⟨p, vs, e, h1, h2⟩ := q
    exact ⟨p, vs, e, s.none_back h1, h2⟩
  | _ => exact q
section
variable {X : Cx} {Γ : Gm} {K : PySem.W.Frag} {ta : TA} {wa : WA} {te : TE} {we : WE} {spec : Spc} {E : XK}
theorem sd_call (h : SndA Γ ta wa) : SndE Γ (tCall (spA Γ.C spec) [] E ta) (wCall spec wa) := fun ρ Q F σ H K m q k =>
  h ρ _ F σ H _ m q fun F1 H1 vs rs s r p => by
    split at p
    · rename_i as e
      obtain ⟨F2, k2, s2, a2⟩ := r.freeze m.gi e s (Same.refl _)
      refine ⟨Γ.G, F2, as, Q, s2.fh, s2.gi, s2.box, by rw [List.append_nil]; exact a2, p, fun F' H' v r' st q' hq => ?_⟩
      exact k F' H' v r' (s2.trans m.gi st) (ret_res s2 q') hq
    · exact p.elim
end
theorem spA_len {C : Addr} {spec : Spc} {n : Nat} (hl : ∀ as P, spec as P → as.length = n) {vs : List V} {H : Hp} {Q : VK} {E : XK} (h : spA C spec vs H Q E) : vs.length = n := by
  obtain ⟨G, F, as, P, _, _, _, a, s, _⟩ := h
  rw [a.length]
  exact hl as P s
def startA (n : Nat) (as : List A) : List A := as ++ List.replicate (n - as.length) .un
theorem start_m {G : Gh} {C : Addr} {F H : Hp} {vs : List V} {as : List A} {N : List Str} (fh : Same F H) (gi : gInv G H) (bx : ∀ a, isBox G a → F a = none) (r : ArgsR G C F vs as) : M ⟨G, C, F, H⟩ F (startA N.length as) (start N vs) H := by
  have hl := r.length
  have at_ : ∀ (i : Nat) (a : A), as[i]? = some a → ∃ v, vs[i]? = some v ∧ ArgR G C F v a := by
    clear hl
    intro i a h
    induction r generalizing i with
    | nil => simp at h
    | cons r1 t ih =>
      cases i with
      | zero => simp at h; subst h; exact ⟨_, rfl, r1⟩
      | succ i => exact ih i (by simpa using h)
  have slot : ∀ (i : Nat) (a : A) (o : Option V), (startA N.length as)[i]? = some a → (start N vs)[i]? = some o → (∃ v, o = some v ∧ ArgR G C F v a) ∨ a = .un := by
    intro i a o h1 h2
    unfold startA at h1
    unfold L2.start at h2
    by_cases hi : i < as.length
    · rw [List.getElem?_append_left hi] at h1
      rw [List.getElem?_append_left (by simpa [hl] using hi), List.getElem?_map] at h2
      obtain ⟨v, ev, rv⟩ := at_ i a h1
      rw [ev] at h2
      exact .inl ⟨v, (Option.some.inj h2).symm, rv⟩
    · rw [List.getElem?_append_right (by omega), List.getElem?_replicate] at h1
      split at h1
      · exact .inr (Option.some.inj h1).symm
      · cases h1
  refine ⟨Stp.refl fh gi bx, gi, ?_, fun i a o h1 h2 => ?_, fun i j p h1 h2 => ?_, fun i x h1 => ?_⟩
  rotate_left 3
  · obtain ⟨o, ho⟩ : ∃ o, (start N vs)[i]? = some o := by
      have hl' : (start N vs).length = (startA N.length as).length := by
        unfold L2.start startA
        rw [List.length_append, List.length_append, List.length_map, List.length_replicate, List.length_replicate, hl]
      exact ⟨_, List.getElem?_eq_getElem (by rw [hl']; exact (List.getElem?_eq_some_iff.mp h1).1)⟩
    rcases slot i _ _ h1 ho with ⟨v, _, q⟩ | z
    · exact q.elim
    · cases z
  · unfold L2.start startA
    rw [List.length_append, List.length_append, List.length_map, List.length_replicate, List.length_replicate, hl]
  · rcases slot i a o h1 h2 with ⟨v, rfl, q⟩ | rfl
    · cases a with
      | un => trivial
      | d x => exact ⟨v, rfl, q⟩
      | own xs => exact q.elim
      | bor _ _ => exact q.elim
      | yard mm kk => exact ⟨v, rfl, q⟩
      | k x => exact ⟨v, rfl, q⟩
      | fr x => exact q.elim
      | dct _ _ => exact q.elim
      | dtt _ => exact q.elim
      | lt _ => exact q.elim
      | ft ks =>
        obtain ⟨p, rfl, q⟩ := q
        exact ⟨p, rfl, q⟩
      | box =>
        obtain ⟨b, l, e, rfl⟩ := q
        exact ⟨b, l, e, rfl⟩
      | raw u =>
        have e : v = u := q
        subst e
        exact rfl
    · trivial
  · obtain ⟨⟨xs, e1⟩, e2⟩ := h1
    rcases slot i _ _ e1 e2 with ⟨v, _, q⟩ | z
    · exact q.elim
    · cases z
/-- THE RULE for a def's body: its derivation, and its transformer at the arguments -/
theorem body_of {X : Cx} {C : Addr} {spec : Spc} {body : List Stmt} {N : List Str} {vs : List V} {H : Hp} {Q : VK} {E : XK} (h : spA C spec vs H Q E)
    (d : ∀ (G : Gh) (F : Hp) (as : List A) (P : A → Prop), spec as P → ∃ t w, PDSs X ⟨G, C, F, H⟩ body t w ∧ w (startA N.length as) { nx := fun _ => P .non, rt := P }) :
    ∃ t, PSs X body t ∧ t { nx := fun _ H' => Q .non H', rt := Q } (start N vs) H := by
  obtain ⟨G, F, as, P, fh, gi, bx, a, sp, k⟩ := h
  obtain ⟨t, w, pd, hw⟩ := d G F as P sp
  refine ⟨t, pd.ps, ?_⟩
  have m := start_m (N := N) fh gi bx a
  exact pd.sd _ _ F _ H _ m hw ⟨fun F' σ' H' ρ' s m' q => k F' H' .non .non m'.st Rp.non q, fun F' H' v r s st q p => k F' H' v r st q p, fun _ _ _ _ _ _ z => z.elim, fun _ _ _ _ _ _ z => z.elim⟩
end Yd

/-! YdF: the rules for syntax: a derivation term of them gives a def's body its transformer. -/
namespace Yd
open PySem L2 PyProof.Rows

theorem room64 {k : Nat} {A : Around} (r : Room k A) : A.units + 64 < cLine := by have := r.un; omega
theorem room65 {k : Nat} {A : Around} (r : Room k A) : A.units + 65 < cLine := by have := r.un; omega
section
variable {X : Cx} {Γ : Gm} {e a b c o : Expr} {es : List Expr} {te ta tb tc to t1 t2 : TE} {tA : TA} {tt tu : TT} {we wa wb wc wo w1 w2 : WE} {wA : WA} {wt wu : WT} {pos p p2 pos2 apos : Pos} {rest : List Expr}
theorem pd_var (i : Nat) {x : Str} (hN : X.N[i]? = some x := by rfl) (hv : Vis X.env.scope x := by first | exact Or.inl rfl | exact Or.inr (Or.inl rfl) | exact Or.inr (Or.inr rfl)) (hd : (x == ("__debug__" : Str)) = false := by decide)
    (hcd : (x == ("__classdict__" : Str)) = false := by decide) : PD X Γ (.Name x pos) (tVar i) (wName i) := ⟨pe_var hN hv hd hcd, sd_name i⟩
theorem pd_int {i : Int} {j} : PD X Γ (.Constant (.int i) j pos) (tC (.int i)) (wC (.int i)) := ⟨pe_int, sd_c fun _ => .int i⟩
theorem pd_str {i : Str} {j} : PD X Γ (.Constant (.str i) j pos) (tC (.str i)) (wC (.str i)) := ⟨pe_str, sd_c fun _ => .str i⟩
theorem pd_bl {i : Bool} {j} : PD X Γ (.Constant (.bool i) j pos) (tC (.bl i)) (wC (.bl i)) := ⟨pe_bl, sd_c fun _ => .bl i⟩
theorem pd_non {j} : PD X Γ (.Constant .none j pos) (tC .non) (wC .non) := ⟨pe_non, sd_c fun _ => .non⟩
/-- a module's constant int -/
theorem pd_gint {x : Str} {i : Int} (hm : ∃ tk, X.mg x = some (.int i tk)) (hg : Gl X x := by rfl) (hd : (x == ("__debug__" : Str)) = false := by decide) : PD X Γ (.Name x pos) (tC (.int i)) (wC (.int i)) := by
  obtain ⟨tk, hm⟩ := hm
  exact ⟨pe_glob hg hm ⟨_, rfl⟩ hd, sd_c fun _ => .int i⟩
theorem pd_add {K : PySem.W.Frag} (ha : PD X Γ a ta wa) (hb : PD X Γ b tb wb) (hK : X.K = K := by rfl) : PD X Γ (.BinOp a .Add b pos) (tOp (fun x y H Q => rI0 (fun i j => .int (i + j)) x y H Q ∨ (∃ i j, x = .str i ∧ y = .str j ∧ i.length + j.length ≤ sizeLine ∧ Q (.str (i ++ j)) H) ∨ rCatT K x y H Q ∨ rCat x y H Q) ta tb) (wOp addA wa wb) := by
  subst hK
  exact ⟨pe_op (op_add.or (op_add_str.or (op_catT.or op_cat))) ha.pe hb.pe, sd_op snd_add ha.sd hb.sd⟩
def pd_sub (ha : PD X Γ a ta wa) (hb : PD X Γ b tb wb) :=
  (⟨pe_op op_sub ha.pe hb.pe, sd_op snd_sub ha.sd hb.sd⟩ : PD X Γ (.BinOp a .Sub b pos) (tOp _ ta tb) (wOp subA wa wb))
def pd_mul (ha : PD X Γ a ta wa) (hb : PD X Γ b tb wb) :=
  (⟨pe_op (op_mul.or op_rep) ha.pe hb.pe, sd_op snd_mul ha.sd hb.sd⟩ : PD X Γ (.BinOp a .Mult b pos) (tOp _ ta tb) (wOp mulA wa wb))
def pd_fdiv (ha : PD X Γ a ta wa) (hb : PD X Γ b tb wb) :=
  (⟨pe_op op_fdiv ha.pe hb.pe, sd_op snd_fdiv ha.sd hb.sd⟩ : PD X Γ (.BinOp a .FloorDiv b pos) (tOp _ ta tb) (wOp fdivA wa wb))
def pd_mod (ha : PD X Γ a ta wa) (hb : PD X Γ b tb wb) :=
  (⟨pe_op op_mod ha.pe hb.pe, sd_op snd_mod ha.sd hb.sd⟩ : PD X Γ (.BinOp a .Mod b pos) (tOp _ ta tb) (wOp modA wa wb))
def pd_neg (ha : PD X Γ a ta wa) :=
  (⟨pe_un un_neg ha.pe, sd_un snd_neg ha.sd⟩ : PD X Γ (.UnaryOp .USub a pos) (tUn _ ta) (wUn negA wa))
/-! comparisons: as values (pd_), as tests (pt_) -/
theorem pd_cmp {op : CmpOp} {r : R2} {f : A → A → (A → Prop) → Prop} (ho : OpR X (compareOp op) r) (hr : SndR Γ r f) (hm : behindInMarks op b = false) (ha : PD X Γ a ta wa) (hb : PD X Γ b tb wb) : PD X Γ (.Compare a [op] [b] pos) (tOp r ta tb) (wOp f wa wb) := ⟨pe_cmpR ho ha.pe hb.pe hm, sd_op hr ha.sd hb.sd⟩
theorem pdt_cmp {op : CmpOp} {r : R2} {f : A → A → (A → Prop) → Prop} (ho : OpR X (compareOp op) r) (hr : SndR Γ r f) (hm : behindInMarks op b = false) (ha : PD X Γ a ta wa) (hb : PD X Γ b tb wb) : PDT X Γ (.Compare a [op] [b] pos) (tTest (tOp r ta tb)) (wTest (wOp f wa wb)) := ⟨pt_cmpR ho ha.pe hb.pe hm, sd_test (sd_op hr ha.sd hb.sd)⟩
def pd_lt (ha : PD X Γ a ta wa) (hb : PD X Γ b tb wb) :=
  (pd_cmp op_lt snd_cmp (nomark _) ha hb : PD X Γ (.Compare a [.Lt] [b] pos) _ (wOp ltA wa wb))
def pd_le (ha : PD X Γ a ta wa) (hb : PD X Γ b tb wb) :=
  (pd_cmp op_le snd_cmp (nomark _) ha hb : PD X Γ (.Compare a [.LtE] [b] pos) _ (wOp leA wa wb))
def pd_gt (ha : PD X Γ a ta wa) (hb : PD X Γ b tb wb) :=
  (pd_cmp op_gt snd_cmp (nomark _) ha hb : PD X Γ (.Compare a [.Gt] [b] pos) _ (wOp gtA wa wb))
def pd_ge (ha : PD X Γ a ta wa) (hb : PD X Γ b tb wb) :=
  (pd_cmp op_ge snd_cmp (nomark _) ha hb : PD X Γ (.Compare a [.GtE] [b] pos) _ (wOp geA wa wb))
theorem pd_eq {K : PySem.W.Frag} {k : Nat} (hr : Room k X.A) (ha : PD X Γ a ta wa) (hb : PD X Γ b tb wb) (hK : X.K = K := by rfl) : PD X Γ (.Compare a [.Eq] [b] pos) (tOp (fun x y H Q => rEqD K x y H Q ∨ rEq x y H Q) ta tb) (wOp eqA wa wb) := by
  subst hK
  exact pd_cmp ((op_eqD (room64 hr)).or op_eq) (snd_eq (K := X.K)) (nomark _) ha hb
theorem pd_ne {K : PySem.W.Frag} {k : Nat} (hr : Room k X.A) (ha : PD X Γ a ta wa) (hb : PD X Γ b tb wb) (hK : X.K = K := by rfl) : PD X Γ (.Compare a [.NotEq] [b] pos) (tOp (fun x y H Q => rNeD K x y H Q ∨ rNe x y H Q) ta tb) (wOp neA wa wb) := by
  subst hK
  exact pd_cmp ((op_neD (room64 hr)).or op_ne) (snd_ne (K := X.K)) (nomark _) ha hb
def pd_is (ha : PD X Γ a ta wa) (hb : PD X Γ b tb wb) :=
  (pd_cmp op_isN snd_is (nomark _) ha hb : PD X Γ (.Compare a [.Is] [b] pos) _ (wOp isA wa wb))
def pd_isnot (ha : PD X Γ a ta wa) (hb : PD X Γ b tb wb) :=
  (pd_cmp op_notN snd_not (nomark _) ha hb : PD X Γ (.Compare a [.IsNot] [b] pos) _ (wOp notA wa wb))
theorem pd_in {K : PySem.W.Frag} {k : Nat} (hr : Room k X.A) (ha : PD X Γ a ta wa) (hb : PD X Γ b tb wb) (hm : behindInMarks .In b = false := by rfl) (hK : X.K = K := by rfl) : PD X Γ (.Compare a [.In] [b] pos) (tOp (fun x y H Q => rInD K x y H Q ∨ rIn K false x y H Q) ta tb) (wOp (inA false) wa wb) := by
  subst hK
  exact pd_cmp ((op_inD (room65 hr)).or op_in_seq) (snd_in (K := X.K)) hm ha hb
theorem pd_nin {K : PySem.W.Frag} {k : Nat} (hr : Room k X.A) (ha : PD X Γ a ta wa) (hb : PD X Γ b tb wb) (hm : behindInMarks .NotIn b = false := by rfl) (hK : X.K = K := by rfl) : PD X Γ (.Compare a [.NotIn] [b] pos) (tOp (fun x y H Q => rNotInD K x y H Q ∨ rIn K true x y H Q) ta tb) (wOp (inA true) wa wb) := by
  subst hK
  exact pd_cmp ((op_notInD (room65 hr)).or op_notIn_seq) (snd_nin (K := X.K)) hm ha hb
def pt_lt (ha : PD X Γ a ta wa) (hb : PD X Γ b tb wb) :=
  (pdt_cmp op_lt snd_cmp (nomark _) ha hb : PDT X Γ (.Compare a [.Lt] [b] pos) _ (wTest (wOp ltA wa wb)))
def pt_le (ha : PD X Γ a ta wa) (hb : PD X Γ b tb wb) :=
  (pdt_cmp op_le snd_cmp (nomark _) ha hb : PDT X Γ (.Compare a [.LtE] [b] pos) _ (wTest (wOp leA wa wb)))
def pt_gt (ha : PD X Γ a ta wa) (hb : PD X Γ b tb wb) :=
  (pdt_cmp op_gt snd_cmp (nomark _) ha hb : PDT X Γ (.Compare a [.Gt] [b] pos) _ (wTest (wOp gtA wa wb)))
def pt_ge (ha : PD X Γ a ta wa) (hb : PD X Γ b tb wb) :=
  (pdt_cmp op_ge snd_cmp (nomark _) ha hb : PDT X Γ (.Compare a [.GtE] [b] pos) _ (wTest (wOp geA wa wb)))
theorem pt_eq {K : PySem.W.Frag} {k : Nat} (hr : Room k X.A) (ha : PD X Γ a ta wa) (hb : PD X Γ b tb wb) (hK : X.K = K := by rfl) : PDT X Γ (.Compare a [.Eq] [b] pos) (tTest (tOp (fun x y H Q => rEqD K x y H Q ∨ rEq x y H Q) ta tb)) (wTest (wOp eqA wa wb)) := by
  subst hK
  exact pdt_cmp ((op_eqD (room64 hr)).or op_eq) (snd_eq (K := X.K)) (nomark _) ha hb
theorem pt_ne {K : PySem.W.Frag} {k : Nat} (hr : Room k X.A) (ha : PD X Γ a ta wa) (hb : PD X Γ b tb wb) (hK : X.K = K := by rfl) : PDT X Γ (.Compare a [.NotEq] [b] pos) (tTest (tOp (fun x y H Q => rNeD K x y H Q ∨ rNe x y H Q) ta tb)) (wTest (wOp neA wa wb)) := by
  subst hK
  exact pdt_cmp ((op_neD (room64 hr)).or op_ne) (snd_ne (K := X.K)) (nomark _) ha hb
def pt_is (ha : PD X Γ a ta wa) (hb : PD X Γ b tb wb) :=
  (pdt_cmp op_isN snd_is (nomark _) ha hb : PDT X Γ (.Compare a [.Is] [b] pos) _ (wTest (wOp isA wa wb)))
def pt_isnot (ha : PD X Γ a ta wa) (hb : PD X Γ b tb wb) :=
  (pdt_cmp op_notN snd_not (nomark _) ha hb : PDT X Γ (.Compare a [.IsNot] [b] pos) _ (wTest (wOp notA wa wb)))
theorem pt_in {K : PySem.W.Frag} {k : Nat} (hr : Room k X.A) (ha : PD X Γ a ta wa) (hb : PD X Γ b tb wb) (hm : behindInMarks .In b = false := by rfl) (hK : X.K = K := by rfl) : PDT X Γ (.Compare a [.In] [b] pos) (tTest (tOp (fun x y H Q => rInD K x y H Q ∨ rIn K false x y H Q) ta tb)) (wTest (wOp (inA false) wa wb)) := by
  subst hK
  exact pdt_cmp ((op_inD (room65 hr)).or op_in_seq) (snd_in (K := X.K)) hm ha hb
theorem pt_nin {K : PySem.W.Frag} {k : Nat} (hr : Room k X.A) (ha : PD X Γ a ta wa) (hb : PD X Γ b tb wb) (hm : behindInMarks .NotIn b = false := by rfl) (hK : X.K = K := by rfl) : PDT X Γ (.Compare a [.NotIn] [b] pos) (tTest (tOp (fun x y H Q => rNotInD K x y H Q ∨ rIn K true x y H Q) ta tb)) (wTest (wOp (inA true) wa wb)) := by
  subst hK
  exact pdt_cmp ((op_notInD (room65 hr)).or op_notIn_seq) (snd_nin (K := X.K)) hm ha hb
/-! chains of two int comparisons -/
structure CmpR (X : Cx) (Γ : Gm) (op : CmpOp) (r : R2) (f : A → A → (A → Prop) → Prop) : Prop where
  op : OpR X (compareOp op) r
  sd : SndR Γ r f
def c_lt := (⟨op_lt, snd_cmp⟩ : CmpR X Γ .Lt _ ltA)
def c_le := (⟨op_le, snd_cmp⟩ : CmpR X Γ .LtE _ leA)
def c_gt := (⟨op_gt, snd_cmp⟩ : CmpR X Γ .Gt _ gtA)
def c_ge := (⟨op_ge, snd_cmp⟩ : CmpR X Γ .GtE _ geA)
theorem pd_chain {op op' : CmpOp} {r r' : R2} {f g : A → A → (A → Prop) → Prop} (h1 : CmpR X Γ op r f) (h2 : CmpR X Γ op' r' g) (ha : PD X Γ a ta wa) (hb : PD X Γ b tb wb) (hc : PD X Γ c tc wc)
    (hm : lastMarks [op, op'] [b, c] = false := by with_unfolding_all rfl) : PD X Γ (.Compare a [op, op'] [b, c] pos) (tChain r r' ta tb tc) (wChain f g wa wb wc) := ⟨pe_chain h1.op h2.op ha.pe hb.pe hc.pe hm, sd_chain h1.sd h2.sd ha.sd hb.sd hc.sd⟩
theorem pt_chain2 {op op' : CmpOp} {r r' : R2} {f g : A → A → (A → Prop) → Prop} (h1 : CmpR X Γ op r f) (h2 : CmpR X Γ op' r' g) (ha : PD X Γ a ta wa) (hb : PD X Γ b tb wb) (hc : PD X Γ c tc wc)
    (hm : lastMarks [op, op'] [b, c] = false := by with_unfolding_all rfl) : PDT X Γ (.Compare a [op, op'] [b, c] pos) (tTest (tChain r r' ta tb tc)) (wTest (wChain f g wa wb wc)) := ⟨pt_chain h1.op h2.op ha.pe hb.pe hc.pe hm, sd_test (sd_chain h1.sd h2.sd ha.sd hb.sd hc.sd)⟩
/-! truth -/
theorem pt_v (h : PD X Γ e te we) (he : ∀ whole, isTrue e X.env whole = (do let v ← whole; standAt e.pos; holding [v] (truthy v)) := by intro _; rfl) : PDT X Γ e (tB te) (wTest we) := ⟨pt_val h.pe he, sd_tB h.sd⟩
theorem pt_notA (h : PDT X Γ a tt wt) : PDT X Γ (.UnaryOp .Not a pos) (tNot tt) (wNot wt) := ⟨pt_not h.pt, sd_not h.sd⟩
theorem pw_and1A (h : PDT X Γ a tt wt) : PDW X Γ (.BoolOp .And [a] pos) tt wt := ⟨pw_and1 h.pt, h.sd⟩
theorem pw_or1A (h : PDT X Γ a tt wt) : PDW X Γ (.BoolOp .Or [a] pos) tt wt := ⟨pw_or1 h.pt, h.sd⟩
theorem pw_andA (h : PDT X Γ a tt wt) (h2 : PDW X Γ (.BoolOp .And (b :: rest) pos) tu wu) : PDW X Γ (.BoolOp .And (a :: b :: rest) pos) (tAnd tt tu) (wAnd wt wu) := ⟨pw_and h.pt h2.pw, sd_and h.sd h2.sd⟩
theorem pw_orA (h : PDT X Γ a tt wt) (h2 : PDW X Γ (.BoolOp .Or (b :: rest) pos) tu wu) : PDW X Γ (.BoolOp .Or (a :: b :: rest) pos) (tOr tt tu) (wOr wt wu) := ⟨pw_or h.pt h2.pw, sd_or h.sd h2.sd⟩
theorem PDW.t (h : PDW X Γ e tt wt) : PDT X Γ e tt wt := ⟨h.pw.pt, h.sd⟩
theorem pd_one {op} (h : PD X Γ a ta wa) : PD X Γ (.BoolOp op [a] pos) ta wa := ⟨pe_one h.pe, h.sd⟩
theorem pd_and (h : PD X Γ a ta wa) (h2 : PD X Γ (.BoolOp .And (b :: rest) pos) tb wb) : PD X Γ (.BoolOp .And (a :: b :: rest) pos) (tAndV ta tb) (wAndV wa wb) := ⟨pe_and h.pe h2.pe, sd_andV h.sd h2.sd⟩
theorem pd_or (h : PD X Γ a ta wa) (h2 : PD X Γ (.BoolOp .Or (b :: rest) pos) tb wb) : PD X Γ (.BoolOp .Or (a :: b :: rest) pos) (tOrV ta tb) (wOrV wa wb) := ⟨pe_or h.pe h2.pe, sd_orV h.sd h2.sd⟩
theorem pd_not (h : PD X Γ a ta wa) : PD X Γ (.UnaryOp .Not a pos) (tNotV ta) (wNotV wa) := ⟨pe_not h.pe, sd_notV h.sd⟩
theorem pd_if (h : PDT X Γ c tt wt) (ha : PD X Γ a ta wa) (hb : PD X Γ b tb wb) : PD X Γ (.IfExp c a b pos) (tIf tt ta tb) (wIfE wt wa wb) := ⟨pe_ifExp h.pt ha.pe hb.pe, sd_if h.sd ha.sd hb.sd⟩
/-! displays, subscripts, slices -/
theorem pda_nil : PDA X Γ [] tNil wNil := ⟨pa_nil, sd_nil⟩
theorem pda_cons (h : PD X Γ e te we) (h2 : PDA X Γ es tA wA) (hs : starEach (e :: es) X.env = (false, eval e X.env) :: starEach es X.env := by rfl) : PDA X Γ (e :: es) (tCons te tA) (wCons we wA) := ⟨pa_cons h.pe h2.pa hs, sd_cons h.sd h2.sd⟩
theorem pd_tup {k} (h : PDA X Γ es tA wA) : PD X Γ (.Tuple es k pos) (tTup tA) (wTupD wA) := ⟨pe_tup h.pa, sd_tup h.sd⟩
theorem pd_lst (h : PDA X Γ es tA wA) : PD X Γ (.List es pos) (tLst tA) (wLstD wA) := ⟨pe_lst h.pa, sd_lst h.sd⟩
theorem pd_ix {K : PySem.W.Frag} (ha : PD X Γ a ta wa) (hb : PD X Γ b tb wb) (hs : PlainIx b := by exact fun _ _ => rfl) (hK : X.K = K := by rfl) : PD X Γ (.Subscript a b pos) (tOp (rIx K) ta tb) (wOp ixA wa wb) := by
  subst hK
  exact ⟨pe_ix ix_seq ha.pe hb.pe hs, sd_op snd_ix ha.sd hb.sd⟩
theorem po_noneA : PDO X Γ none tNoPart wNoPart := ⟨po_none, so_none⟩
theorem po_someA (h : PD X Γ e te we) : PDO X Γ (some e) (tPart te) (wPart we) := ⟨po_some h.pe, so_some h.sd⟩
theorem pd_sl {K : PySem.W.Frag} {lo hi : Option Expr} {tl th : TO} {wl wh : WO} (h : PD X Γ e te we) (hl : PDO X Γ lo tl wl) (hh : PDO X Γ hi th wh) (hK : X.K = K := by rfl) : PD X Γ (.Subscript e (.Slice lo hi none p2) pos) (tSl (fun x lo hi H Q => rSlL K x lo hi H Q ∨ rSlT K x lo hi H Q) te tl th) (wSl we wl wh) := by
  subst hK
  exact ⟨pe_slice (sl_list.or sl_tup) h.pe hl.po hh.po, sd_sl h.sd hl.sd hh.sd⟩
/-! built-ins by name -/
theorem pd_cb {x : Str} {id : String} {r : List V → Hp → VK → Prop} {f : List A → (A → Prop) → Prop} (hc : CallR X (.builtin id) r) (hr : SndC Γ r f) (hm : X.mg x = none) (hv : bootBuiltins x = some (.builtin id)) (ha : PDA X Γ (e :: es) tA wA) (hg : Gl X x := by rfl) (hn : x ≠ "__name__" := by decide) (hdb : (x == ("__debug__" : Str)) = false := by decide)
    (he : starEach (e :: es) X.env = (false, eval e X.env) :: starEach es X.env := by rfl) (hpl : (backTo pos (starEach es X.env)).any (·.1) = false := by rfl) : PD X Γ (.Call (.Name x p) (e :: es) [] pos) (tCB r tA) (wCB f wA) := ⟨pe_callB hc hg hm hv ha.pa hn hdb he hpl, sd_cb hr ha.sd⟩
theorem pd_ct {x : Str} {id : String} {r : List V → Hp → VK → Prop} {f : List A → (A → Prop) → Prop} (hc : CallR X (.type id) r) (hr : SndC Γ r f) (hm : X.mg x = none) (hv : bootBuiltins x = some (.type id)) (ha : PDA X Γ (e :: es) tA wA) (hg : Gl X x := by rfl) (hn : x ≠ "__name__" := by decide) (hdb : (x == ("__debug__" : Str)) = false := by decide)
    (he : starEach (e :: es) X.env = (false, eval e X.env) :: starEach es X.env := by rfl) (hpl : (backTo pos (starEach es X.env)).any (·.1) = false := by rfl) : PD X Γ (.Call (.Name x p) (e :: es) [] pos) (tCB r tA) (wCB f wA) := ⟨pe_callTy hc hg hm hv ha.pa hn hdb he hpl, sd_cb hr ha.sd⟩
theorem boot_list' : bootBuiltins "list" = some (.type "list") := by decide +kernel
theorem boot_tuple' : bootBuiltins "tuple" = some (.type "tuple") := by decide +kernel
theorem boot_int' : bootBuiltins "int" = some (.type "int") := by decide +kernel
theorem boot_sorted' : bootBuiltins "sorted" = some (.builtin "sorted") := by decide +kernel
theorem boot_min' : bootBuiltins "min" = some (.builtin "min") := by decide +kernel
theorem boot_max' : bootBuiltins "max" = some (.builtin "max") := by decide +kernel
theorem pd_len {K : PySem.W.Frag} (hm : X.mg "len" = none) (ha : PDA X Γ (e :: es) tA wA) (hg : Gl X "len" := by rfl) (he : starEach (e :: es) X.env = (false, eval e X.env) :: starEach es X.env := by rfl) (hpl : (backTo pos (starEach es X.env)).any (·.1) = false := by rfl) (hK : X.K = K := by rfl) : PD X Γ (.Call (.Name "len" p) (e :: es) [] pos) (tCB (fun xs H Q => ∃ x n, xs = [x] ∧ LenV K x H n ∧ Q (.int n) H) tA) (wCB lenA wA) := by
  subst hK
  exact pd_cb call_len snd_len hm PySem.boot_len ha hg (by decide) (by decide) he hpl
theorem pd_list {K : PySem.W.Frag} (hm : X.mg "list" = none) (ha : PDA X Γ (e :: es) tA wA) (hg : Gl X "list" := by rfl) (he : starEach (e :: es) X.env = (false, eval e X.env) :: starEach es X.env := by rfl) (hpl : (backTo pos (starEach es X.env)).any (·.1) = false := by rfl) (hK : X.K = K := by rfl) : PD X Γ (.Call (.Name "list" p) (e :: es) [] pos) (tCB (fun xs H Q => ∃ p ys, xs = [.ref p] ∧ (SqL K H p ys ∨ SqT K H p ys) ∧ ∀ l, H l = none → Q (.ref l) (upd H l (.lst ys))) tA) (wCB listA wA) := by
  subst hK
  exact pd_ct call_list_of snd_list hm boot_list' ha hg (by decide) (by decide) he hpl
theorem pd_tuple {K : PySem.W.Frag} (hm : X.mg "tuple" = none) (ha : PDA X Γ (e :: es) tA wA) (hg : Gl X "tuple" := by rfl) (he : starEach (e :: es) X.env = (false, eval e X.env) :: starEach es X.env := by rfl) (hpl : (backTo pos (starEach es X.env)).any (·.1) = false := by rfl) (hK : X.K = K := by rfl) : PD X Γ (.Call (.Name "tuple" p) (e :: es) [] pos) (tCB (fun xs H Q => ∃ p ys, xs = [.ref p] ∧ ((SqL K H p ys ∧ ∀ l, H l = none → Q (.ref l) (upd H l (.tup ys))) ∨ (SqT K H p ys ∧ Q (.ref p) H))) tA) (wCB tupleA wA) := by
  subst hK
  exact pd_ct call_tuple_of snd_tuple hm boot_tuple' ha hg (by decide) (by decide) he hpl
def pd_toint (hm : X.mg "int" = none) (ha : PDA X Γ (e :: es) tA wA) (hg : Gl X "int" := by rfl) (he : starEach (e :: es) X.env = (false, eval e X.env) :: starEach es X.env := by rfl) (hpl : (backTo pos (starEach es X.env)).any (·.1) = false := by rfl) :=
  (pd_ct call_int1 snd_int hm boot_int' ha hg (by decide) (by decide) he hpl : PD X Γ (.Call (.Name "int" p) (e :: es) [] pos) _ (wCB intA wA))
def pd_min2 (hc : X.calm = true) (hm : X.mg "min" = none) (ha : PDA X Γ (e :: es) tA wA) (hg : Gl X "min" := by rfl) (he : starEach (e :: es) X.env = (false, eval e X.env) :: starEach es X.env := by rfl) (hpl : (backTo pos (starEach es X.env)).any (·.1) = false := by rfl) :=
  (pd_cb (call_min2 hc) snd_min hm boot_min' ha hg (by decide) (by decide) he hpl : PD X Γ (.Call (.Name "min" p) (e :: es) [] pos) _ (wCB minA wA))
def pd_max2 (hc : X.calm = true) (hm : X.mg "max" = none) (ha : PDA X Γ (e :: es) tA wA) (hg : Gl X "max" := by rfl) (he : starEach (e :: es) X.env = (false, eval e X.env) :: starEach es X.env := by rfl) (hpl : (backTo pos (starEach es X.env)).any (·.1) = false := by rfl) :=
  (pd_cb (call_max2 hc) snd_max hm boot_max' ha hg (by decide) (by decide) he hpl : PD X Γ (.Call (.Name "max" p) (e :: es) [] pos) _ (wCB maxA wA))
theorem pd_sort {K : PySem.W.Frag} (hm : X.mg "sorted" = none) (ha : PDA X Γ (e :: es) tA wA) (hg : Gl X "sorted" := by rfl) (he : starEach (e :: es) X.env = (false, eval e X.env) :: starEach es X.env := by rfl) (hpl : (backTo pos (starEach es X.env)).any (·.1) = false := by rfl) (hK : X.K = K := by rfl) : PD X Γ (.Call (.Name "sorted" p) (e :: es) [] pos) (tCB (rSorted K) tA) (wCB sortA wA) := by
  subst hK
  exact pd_cb cr_sorted (snd_sort (K := X.K)) hm boot_sorted' ha hg (by decide) (by decide) he hpl
/-! list(range(..)) -/
structure PDR (X : Cx) (Γ : Gm) (e : Expr) (t : L2.St → Hp → (Int → Int → Hp → Prop) → Prop) (w : List A → (Int → Int → Prop) → Prop) : Prop where
  pr : PRg X e t
  sd : SndRg Γ t w
theorem pr_1 (hm : X.mg "range" = none) (ha : PD X Γ a ta wa) (hg : Gl X "range" := by rfl) (na : starEach [a] X.env = (false, eval a X.env) :: starEach [] X.env := by rfl) : PDR X Γ (.Call (.Name "range" p) [a] [] pos) (tRg1 ta) (wRg1 wa) := ⟨prg_1 hg hm ha.pe na, sg_rg1 ha.sd⟩
theorem pr_2 (hm : X.mg "range" = none) (ha : PD X Γ a ta wa) (hb : PD X Γ b tb wb) (hg : Gl X "range" := by rfl) (na : starEach [a, b] X.env = (false, eval a X.env) :: starEach [b] X.env := by rfl)
    (nb : starEach [b] X.env = (false, eval b X.env) :: starEach [] X.env := by rfl) (hp : (backTo pos (starEach [b] X.env)).any (·.1) = false := by rfl) : PDR X Γ (.Call (.Name "range" p) [a, b] [] pos) (tRg2 ta tb) (wRg2 wa wb) := ⟨prg_2 hg hm ha.pe hb.pe na nb hp, sg_rg2 ha.sd hb.sd⟩
theorem pd_lstRg {t : L2.St → Hp → (Int → Int → Hp → Prop) → Prop} {w : List A → (Int → Int → Prop) → Prop} (hm : X.mg "list" = none) (h : PDR X Γ e t w) (hc : X.calm = true := by rfl) (hg : Gl X "list" := by rfl) (na : starEach [e] X.env = (false, eval e X.env) :: starEach [] X.env := by rfl) :
    PD X Γ (.Call (.Name "list" p) [e] [] pos) (tLstRg t) (wLstRg w) := ⟨pe_listRg hc hg hm h.pr na, sd_lstRg h.sd⟩
/-! calls of defs -/
end
structure Cal (P : Program) (w : World) (K : PySem.W.Frag) (mg : Str → Option Value) (base : Heap) (C : Addr) (x : Str) (k : Nat) (spec : Spc) : Prop where
  ex : ∃ (f : Addr) (fd : FuncData) (ps : List Str), FnOk P w K mg base CX0 k f fd ps (spA C spec) ∧ mg x = some (.ref f) ∧ PySem.W.keepIn K (.ref f) = true ∧ Binds K fd ps []
theorem Cal.mono {P : Program} {w : World} {K : PySem.W.Frag} {mg : Str → Option Value} {base : Heap} {C : Addr} {x : Str} {j k : Nat} {spec : Spc} (c : Cal P w K mg base C x j spec) (h : j ≤ k) : Cal P w K mg base C x k spec := by
  obtain ⟨f, fd, ps, F, r⟩ := c
  exact ⟨f, fd, ps, F.mono h, r⟩
section
variable {X : Cx} {Γ : Gm} {e a b c o : Expr} {es : List Expr} {te ta tb tc to : TE} {tA : TA} {tt tu : TT} {we wa wb wc wo : WE} {wA : WA} {wt wu : WT} {pos p p2 apos : Pos}
theorem pd_call {x : Str} {k j : Nat} {spec : Spc} (cl : Cal X.prog X.w X.K X.mg X.base Γ.C x k spec) (hr : Room j X.A) (hk : k ≤ j) (ha : PDA X Γ (e :: es) tA wA) (hg : Gl X x := by rfl) (hdb : (x == ("__debug__" : Str)) = false := by decide)
    (he : starEach (e :: es) X.env = (false, eval e X.env) :: starEach es X.env := by rfl) (hpl : (backTo pos (starEach es X.env)).any (·.1) = false := by rfl) :
    PD X Γ (.Call (.Name x p) (e :: es) [] pos) (tCall (spA Γ.C spec) [] E0 tA) (wCall spec wA) := by
  obtain ⟨f, fd, ps, F, hm, kp, bd⟩ := cl
  exact ⟨pe_call F (hr.mono hk) hg hm kp bd .nil pass0 ha.pa hdb he hpl, sd_call ha.sd⟩
/-! fields and methods of a yard -/
def wMarked (e : WE) : WE := fun ρ Q => e ρ fun r => match r with
  | .yard m _ => Q (.k (.tuple (m.map PyData.int)))
  | _ => False
def wKinds (e : WE) : WE := fun ρ Q => e ρ fun r => match r with
  | .yard _ k => Q (.k (.list (kd k)))
  | _ => False
def wMeth (spec : Spc) (e : WE) (wa : WA) : WE := fun ρ Q => e ρ fun r => match r with
  | .yard m k => wa ρ fun rs => match fzs rs with
    | some as => spec (.yard m k :: as) Q
    | none => False
  | _ => False
theorem nKM : ¬ (("kinds" : Str) = "marked") := by decide +kernel
theorem nMK : ¬ (("marked" : Str) = "kinds") := by decide +kernel
theorem yf_marked (t q : Addr) : (yf t q).lookup ("marked" : Str) = some (.ref t) := by
  unfold yf
  rw [lookup_putF, if_neg nMK, lookup_putF, if_pos rfl]
theorem yf_kinds (t q : Addr) : (yf t q).lookup ("kinds" : Str) = some (.ref q) := by
  unfold yf
  rw [lookup_putF, if_pos rfl]
theorem yf_no (t q : Addr) {m : Str} (h1 : ¬ m = "kinds") (h2 : ¬ m = "marked") : (yf t q).lookup m = none := by
  unfold yf
  rw [lookup_putF, if_neg h1, lookup_putF, if_neg h2]
  rfl
theorem sd_marked {K : PySem.W.Frag} (cl : Cls K Γ.C) (n : NoAttr K Γ.C "marked") (h : SndE Γ te we) : SndE Γ (tFld K te "marked") (wMarked we) := fun ρ Q F σ H K0 m q k =>
  h ρ _ F σ H _ m q fun F1 H1 v r s q1 p => by
    split at p
    · obtain ⟨a, dx, t, qq, rfl, h1, h2, h3⟩ := (show YardAt Γ.G Γ.C F1 v _ _ from q1)
      exact ⟨a, Γ.C, dx, _, _, rfl, kn.same s.fh s.gi _ _ h1, cl, n, yf_marked t qq, k F1 H1 _ (.k _) s h2 p⟩
    · exact p.elim
theorem sd_kinds {K : PySem.W.Frag} (cl : Cls K Γ.C) (n : NoAttr K Γ.C "kinds") (h : SndE Γ te we) : SndE Γ (tFld K te "kinds") (wKinds we) := fun ρ Q F σ H K0 m q k =>
  h ρ _ F σ H _ m q fun F1 H1 v r s q1 p => by
    split at p
    · obtain ⟨a, dx, t, qq, rfl, h1, h2, h3⟩ := (show YardAt Γ.G Γ.C F1 v _ _ from q1)
      exact ⟨a, Γ.C, dx, _, _, rfl, kn.same s.fh s.gi _ _ h1, cl, n, yf_kinds t qq, k F1 H1 _ (.k _) s h3 p⟩
    · exact p.elim
theorem pd_marked {K : PySem.W.Frag} (cl : Cls X.K Γ.C) (n : NoAttr X.K Γ.C "marked") (h : PD X Γ e te we) (hb : attributeBase e "marked" X.env (eval e X.env) = eval e X.env := by rfl) (hK : X.K = K := by rfl) : PD X Γ (.Attribute e "marked" pos) (tFld K te "marked") (wMarked we) := by
  subst hK
  exact ⟨pe_fld h.pe hb, sd_marked cl n h.sd⟩
theorem pd_kinds {K : PySem.W.Frag} (cl : Cls X.K Γ.C) (n : NoAttr X.K Γ.C "kinds") (h : PD X Γ e te we) (hb : attributeBase e "kinds" X.env (eval e X.env) = eval e X.env := by rfl) (hK : X.K = K := by rfl) : PD X Γ (.Attribute e "kinds" pos) (tFld K te "kinds") (wKinds we) := by
  subst hK
  exact ⟨pe_fld h.pe hb, sd_kinds cl n h.sd⟩
structure CalM (P : Program) (w : World) (K : PySem.W.Frag) (mg : Str → Option Value) (base : Heap) (C : Addr) (m : Str) (k : Nat) (spec : Spc) : Prop where
  ex : ∃ (f : Addr) (fd : FuncData) (ps : List Str), FnOk P w K mg base CX0 k f fd ps (spA C spec) ∧ Meth K C m f ∧ Binds K fd ps [] ∧ Cls K C
theorem sd_meth {m : Str} {spec : Spc} {E : XK} (h : SndE Γ te we) (ha : SndA Γ tA wA) (n1 : ¬ m = "kinds") (n2 : ¬ m = "marked") : SndE Γ (tMeth Γ.C m (spA Γ.C spec) [] E te tA) (wMeth spec we wA) := fun ρ Q F σ H K0 mm q k =>
  h ρ _ F σ H _ mm q fun F1 H1 v r s q1 p => by
    split at p
    · rename_i ym yk
      obtain ⟨a, dx, t, qq, rfl, h1, h2, h3⟩ := (show YardAt Γ.G Γ.C F1 v _ _ from q1)
      refine ⟨a, dx, _, rfl, kn.same s.fh s.gi _ _ h1, yf_no t qq n1 n2, ?_⟩
      refine ha ρ _ F1 σ H1 _ (mm.step s) p fun F2 H2 vs rs s2 r2 p2 => ?_
      split at p2
      · rename_i as e
        obtain ⟨F3, k3, s3, a3⟩ := r2.freeze (mm.step s).gi e s2 (Same.refl _)
        have s13 := s.trans mm.gi s3
        refine ⟨Γ.G, F3, .yard ym yk :: as, Q, s3.fh, s3.gi, s3.box, .cons (show ArgR Γ.G Γ.C F3 (.ref a) (.yard ym yk) from YardAt.up ⟨a, dx, t, qq, rfl, h1, h2, h3⟩ s3.ff) (by rw [List.append_nil]; exact a3), p2, fun F' H' v r' st q' hq => ?_⟩
        exact k F' H' v r' (s13.trans mm.gi st) (ret_res s13 q') hq
      · exact p2.elim
    · exact p.elim
theorem pd_meth0 {m : Str} {k j : Nat} {spec : Spc} {pl : Sem Bool} (cl : CalM X.prog X.w X.K X.mg X.base Γ.C m k spec) (hr : Room j X.A) (hk : k ≤ j) (ho : PD X Γ o to wo) (n1 : ¬ m = "kinds" := by decide +kernel) (n2 : ¬ m = "marked" := by decide +kernel)
    (ht : eval (.Call (.Attribute o m apos) [] [] pos) X.env = (do
      let ov ← eval o X.env
      standAt apos.atName
      let (f, first) ← holding [ov] (getMethod ov m pl)
      callWith pos f first (backTo pos (starEach [] X.env)) (backToKw pos (keywordEach [] X.env))) := by rfl) :
    PD X Γ (.Call (.Attribute o m apos) [] [] pos) (tMeth Γ.C m (spA Γ.C spec) [] E0 to tNil) (wMeth spec wo wNil) := by
  obtain ⟨f, fd, ps, F, hm, bd, c⟩ := cl
  exact ⟨pe_meth0 ho.pe c hm F (hr.mono hk) bd .nil pass0 ht, sd_meth ho.sd sd_nil n1 n2⟩
theorem pd_meth1 {m : Str} {k j : Nat} {spec : Spc} {pl : Sem Bool} (cl : CalM X.prog X.w X.K X.mg X.base Γ.C m k spec) (hr : Room j X.A) (hk : k ≤ j) (ho : PD X Γ o to wo) (ha : PDA X Γ (e :: es) tA wA) (n1 : ¬ m = "kinds" := by decide +kernel) (n2 : ¬ m = "marked" := by decide +kernel)
    (hst : starEach (e :: es) X.env = (false, eval e X.env) :: starEach es X.env := by rfl) (hpl : (backTo pos (starEach es X.env)).any (·.1) = false := by rfl)
    (ht : eval (.Call (.Attribute o m apos) (e :: es) [] pos) X.env = (do
      let ov ← eval o X.env
      standAt apos.atName
      let (f, first) ← holding [ov] (getMethod ov m pl)
      callWith pos f first (backTo pos (starEach (e :: es) X.env)) (backToKw pos (keywordEach [] X.env))) := by rfl) :
    PD X Γ (.Call (.Attribute o m apos) (e :: es) [] pos) (tMeth Γ.C m (spA Γ.C spec) [] E0 to tA) (wMeth spec wo wA) := by
  obtain ⟨f, fd, ps, F, hm, bd, c⟩ := cl
  exact ⟨pe_meth ho.pe c hm F (hr.mono hk) bd .nil pass0 ha.pa hst hpl ht, sd_meth ho.sd ha.sd n1 n2⟩
end

/-! a new yard: what __init__ promises -/
abbrev SpI := List A → (List Int → List (List Int) → Prop) → Prop
structure Mde (G : Gh) (C : Addr) (F H F' H' : Hp) (x dx : Addr) (m : List Int) (k : List (List Int)) : Prop where
  ff : Same F F'
  fh : Same F' H'
  gi : gInv G H'
  keep : ∀ a o, H a = some o → a ≠ x → a ≠ dx → ¬ isBox G a → H' a = some o
  new : ∀ a, F' a ≠ none → F a ≠ none ∨ H a = none ∨ a = x ∨ a = dx
  box : ∀ a, isBox G a → F' a = none
  yd : YardAt G C F' (.ref x) m k
def spI (C : Addr) (spec : SpI) : Sp := fun vs H Q _ => ∃ (G : Gh) (F : Hp) (as : List A) (x dx : Addr) (ws : List V) (P : List Int → List (List Int) → Prop), vs = .ref x :: ws ∧ H x = some (.ins C dx []) ∧ H dx = some (.own x) ∧ dx ≠ x ∧ F x = none ∧ F dx = none ∧ ¬ isBox G x ∧ ¬ isBox G dx ∧
  Same F H ∧ gInv G H ∧ (∀ a, isBox G a → F a = none) ∧ ArgsR G C F ws as ∧ spec as P ∧ ∀ m k F' H', P m k → Mde G C F H F' H' x dx m k → Q .non H'
structure CalI (P : Program) (w : World) (K : PySem.W.Frag) (mg : Str → Option Value) (base : Heap) (C : Addr) (k : Nat) (spec : SpI) : Prop where
  ex : ∃ (f : Addr) (fd : FuncData) (ps : List Str), FnOk P w K mg base CX0 k f fd ps (spI C spec) ∧ Mk K C f ∧ mg "Yard" = some (.ref C) ∧ Binds K fd ps []
def wMake (spec : SpI) (wa : WA) : WE := fun ρ Q => wa ρ fun rs => match fzs rs with
  | some as => spec as fun m k => Q (.yard m k)
  | none => False
section
variable {X : Cx} {Γ : Gm} {e : Expr} {es : List Expr} {tA : TA} {wA : WA} {pos p : Pos}
theorem sd_make {spec : SpI} {E : XK} (ha : SndA Γ tA wA) : SndE Γ (tMake Γ.C (spI Γ.C spec) [] E tA) (wMake spec wA) := fun ρ Q F σ H K0 mm q k =>
  ha ρ _ F σ H _ mm q fun F1 H1 vs rs s r p => by
    split at p
    · rename_i as e
      intro x dx nx nd ne
      obtain ⟨F3, k3, s3, a3⟩ := r.freeze mm.gi e s (Same.refl _)
      have fx := s3.fh.free nx
      have fd := s3.fh.free nd
      have bx : ¬ isBox Γ.G x := fun z => s3.gi.box z nx
      have bd : ¬ isBox Γ.G dx := fun z => s3.gi.box z nd
      have s4 : Stp Γ.G F H F3 (upd H1 dx (.own x)) := s3.put (s3.none_back nd) fd bd
      have s5 : Stp Γ.G F H F3 (upd (upd H1 dx (.own x)) x (.ins Γ.C dx [])) := s4.put (s3.none_back nx) fx bx
      refine ⟨Γ.G, F3, as, x, dx, vs, _, by rw [List.append_nil], upd_same, by rw [upd_ne ne, upd_same], ne, fx, fd, bx, bd, s5.fh, s5.gi, s5.box, a3, p, fun m kk F' H' hp md => ⟨rfl, ?_⟩⟩
      refine k F' H' _ (.yard m kk) ⟨s3.ff.trans md.ff, md.fh, md.gi, fun b o h n => ?_, fun b h => ?_, md.box⟩ md.yd hp
      · have h1 := s3.keep b o h n
        have n1 : b ≠ x := ne_of_none h1 nx
        have n2 : b ≠ dx := ne_of_none h1 nd
        exact md.keep b o (by rw [upd_ne n1, upd_ne n2]; exact h1) n1 n2 n
      · rcases md.new b h with z | z | z | z
        · exact s3.new b z
        · by_cases h1 : b = x
          · subst h1; rw [upd_same] at z; cases z
          · rw [upd_ne h1] at z
            by_cases h2 : b = dx
            · subst h2; rw [upd_same] at z; cases z
            · rw [upd_ne h2] at z
              exact .inr (s3.none_back z)
        · subst z; exact .inr (s3.none_back nx)
        · subst z; exact .inr (s3.none_back nd)
    · exact p.elim
theorem pd_make {k j : Nat} {spec : SpI} (cl : CalI X.prog X.w X.K X.mg X.base Γ.C k spec) (hr : Room j X.A) (hk : k + 1 ≤ j) (ha : PDA X Γ (e :: es) tA wA) (hg : Gl X "Yard" := by rfl) (hdb : (("Yard" : Str) == ("__debug__" : Str)) = false := by decide)
    (he : starEach (e :: es) X.env = (false, eval e X.env) :: starEach es X.env := by rfl) (hpl : (backTo pos (starEach es X.env)).any (·.1) = false := by rfl) :
    PD X Γ (.Call (.Name "Yard" p) (e :: es) [] pos) (tMake Γ.C (spI Γ.C spec) [] E0 tA) (wMake spec wA) := by
  obtain ⟨f, fd, ps, F, hm, mg, bd⟩ := cl
  exact ⟨pe_make hm F (hr.mono hk) hg mg bd .nil pass0 ha.pa hdb he hpl, sd_make ha.sd⟩
end

/-! ### statements -/
section
variable {X : Cx} {Γ : Gm} {e a b c o : Expr} {es : List Expr} {te tk ta tb : TE} {we wk wa wb : WE} {tA : TA} {wA : WA} {tt : TT} {wt : WT} {ts tu : TS} {ws wu : WS} {pos p p1 p2 pos2 apos : Pos} {st : Stmt} {rest body orelse : List Stmt} {g : TG} {wg : WG} {tg iter : Expr} {ti : TI} {wi : WI} {x : Str}
theorem pss_nilA : PDSs X Γ [] tNext wNext := ⟨pss_nil, ss_next⟩
theorem pss_consA (h1 : PDS X Γ st ts ws) (h2 : PDSs X Γ rest tu wu) : PDSs X Γ (st :: rest) (tSeq ts tu) (wSeq ws wu) := ⟨pss_cons h1.ps h2.ps, ss_seq h1.sd h2.sd⟩
theorem pss_oneA (h1 : PDS X Γ st ts ws) : PDSs X Γ [st] ts ws := ⟨pss_one h1.ps, h1.sd⟩
theorem ps_docA {i : Str} {j} : PDS X Γ (.Expr (.Constant (.str i) j p) pos) tNext wNext := ⟨ps_doc, ss_next⟩
theorem ps_passA : PDS X Γ (.Pass pos) tNext wNext := ⟨ps_pass, ss_next⟩
theorem ps_exprA (h : PD X Γ e te we) (hs : swapsWith e none pos.line X.env = pure false := by rfl) : PDS X Γ (.Expr e pos) (tDrop te) (wDrop we) := ⟨ps_expr h.pe hs, ss_drop h.sd⟩
theorem ps_retA (h : PD X Γ e te we) : PDS X Γ (.Return (some e) pos) (tRet te) (wRet we) := ⟨ps_ret h.pe, ss_ret h.sd⟩
theorem ps_retNA : PDS X Γ (.Return none pos) tRetN wRetN := ⟨ps_retN, ss_retN⟩
theorem ps_ifA (hc : PDT X Γ c tt wt) (ha : PDSs X Γ body ts ws) (hb : PDSs X Γ orelse tu wu) : PDS X Γ (.If c body orelse pos) (tIfS tt ts tu) (wIf wt ws wu) := ⟨ps_if hc.pt ha.ps hb.ps, ss_if hc.sd ha.sd hb.sd⟩
theorem ps_neverA : PDS X Γ st tNever wNever := ⟨ps_never, ss_never⟩
theorem ps_setA {i : Nat} (hN : X.N.Nodup) (he : PD X Γ e te we) (hi : X.N[i]? = some x := by rfl) (hx : Loc X.env.scope x := by first | exact Or.inl rfl | exact Or.inr rfl) (hs : swapsWith e (some (.Name x p)) pos.line X.env = pure false := by rfl) (hf : X.fn x = true ∨ X.env.scope.names.lookup x = some .local := by first | exact .inl rfl | exact .inr rfl) :
    PDS X Γ (.Assign [.Name x p] e pos) (tAsg te (gName i)) (wSet i we) := ⟨ps_set hN hi hx he.pe hs hf, ss_set i he.sd⟩
theorem ps_fz (i : Nat) (h : PDS X Γ st ts ws) : PDS X Γ st ts (wFz i ws) := ⟨h.ps, ss_fz i h.sd⟩
def ps_appA {i : Nat} (hv : PD X Γ o (tVar i) (wName i)) (he : PD X Γ e te we) (hs : swapsWith (.Call (.Attribute o "append" apos) [e] [] p) none pos.line X.env = pure false := by rfl)
    (hbase : attributeBase o "append" X.env (eval o X.env) = eval o X.env := by rfl)
    (hfew : ((backTo p (starEach [e] X.env)).all (fun x => !x.1) && (backToKw p (keywordEach [] X.env)).all (fun x => x.1.isSome)
      && decide ([e].length + ([] : List Keyword).length + (if ([] : List Keyword).isEmpty then 0 else 1) < 30)) = true := by rfl)
    (hline : (apos.endLine == p.line) = true := by rfl) (hs2 : starEach [e] X.env = (false, eval e X.env) :: starEach [] X.env := by rfl) (hplain : (backTo p (starEach [] X.env)).any (·.1) = false := by rfl) :=
  (⟨ps_expr (pe_bm PySem.F.plainAttrs_list PySem.F.slot_list_append PySem.F.type_list_append mt_append hv.pe (pa_cons he.pe pa_nil hs2) hbase hfew hline hs2 hplain) hs, ss_app i he.sd⟩ : PDS X Γ (.Expr (.Call (.Attribute o "append" apos) [e] [] p) pos) _ (wApp i we))
def ps_clearA {i : Nat} (hv : PD X Γ o (tVar i) (wName i)) (hs : swapsWith (.Call (.Attribute o "clear" apos) [] [] p) none pos.line X.env = pure false := by rfl)
    (hbase : attributeBase o "clear" X.env (eval o X.env) = eval o X.env := by rfl) (hline : (apos.endLine == p.line) = true := by rfl) :=
  (⟨ps_expr (pe_bm0 PySem.F.plainAttrs_list PySem.F.slot_list_clear PySem.F.type_list_clear mt_clear hv.pe hbase hline) hs, ss_clear i⟩ : PDS X Γ (.Expr (.Call (.Attribute o "clear" apos) [] [] p) pos) _ (wClear i))
def ps_extA {i : Nat} (hv : PD X Γ o (tVar i) (wName i)) (he : PD X Γ e te we) (hs : swapsWith (.Call (.Attribute o "extend" apos) [e] [] p) none pos.line X.env = pure false := by rfl)
    (hbase : attributeBase o "extend" X.env (eval o X.env) = eval o X.env := by rfl)
    (hfew : ((backTo p (starEach [e] X.env)).all (fun x => !x.1) && (backToKw p (keywordEach [] X.env)).all (fun x => x.1.isSome)
      && decide ([e].length + ([] : List Keyword).length + (if ([] : List Keyword).isEmpty then 0 else 1) < 30)) = true := by rfl)
    (hline : (apos.endLine == p.line) = true := by rfl) (hs2 : starEach [e] X.env = (false, eval e X.env) :: starEach [] X.env := by rfl) (hplain : (backTo p (starEach [] X.env)).any (·.1) = false := by rfl) :=
  (⟨ps_expr (pe_bm PySem.F.plainAttrs_list PySem.F.slot_list_extend PySem.F.type_list_extend mt_extend hv.pe (pa_cons he.pe pa_nil hs2) hbase hfew hline hs2 hplain) hs, ss_ext i he.sd⟩ : PDS X Γ (.Expr (.Call (.Attribute o "extend" apos) [e] [] p) pos) _ (wExt i we))
def ps_appPopA {o2 : Expr} {i j : Nat} {bpos p5 : Pos} (hv : PD X Γ o (tVar i) (wName i)) (hv2 : PD X Γ o2 (tVar j) (wName j)) (he : PD X Γ e te we) (hs : swapsWith (.Call (.Attribute o "append" apos) [.Call (.Attribute o2 "pop" bpos) [e] [] p5] [] p) none pos.line X.env = pure false := by rfl)
    (hbase : attributeBase o "append" X.env (eval o X.env) = eval o X.env := by rfl)
    (hfew : ((backTo p (starEach [.Call (.Attribute o2 "pop" bpos) [e] [] p5] X.env)).all (fun x => !x.1) && (backToKw p (keywordEach [] X.env)).all (fun x => x.1.isSome)
      && decide ([Expr.Call (.Attribute o2 "pop" bpos) [e] [] p5].length + ([] : List Keyword).length + (if ([] : List Keyword).isEmpty then 0 else 1) < 30)) = true := by rfl)
    (hline : (apos.endLine == p.line) = true := by rfl) (hs2 : starEach [.Call (.Attribute o2 "pop" bpos) [e] [] p5] X.env = (false, eval (.Call (.Attribute o2 "pop" bpos) [e] [] p5) X.env) :: starEach [] X.env := by rfl) (hplain : (backTo p (starEach [] X.env)).any (·.1) = false := by rfl)
    (hbase2 : attributeBase o2 "pop" X.env (eval o2 X.env) = eval o2 X.env := by rfl)
    (hfew2 : ((backTo p5 (starEach [e] X.env)).all (fun x => !x.1) && (backToKw p5 (keywordEach [] X.env)).all (fun x => x.1.isSome)
      && decide ([e].length + ([] : List Keyword).length + (if ([] : List Keyword).isEmpty then 0 else 1) < 30)) = true := by rfl)
    (hline2 : (bpos.endLine == p5.line) = true := by rfl) (hs3 : starEach [e] X.env = (false, eval e X.env) :: starEach [] X.env := by rfl) (hplain2 : (backTo p5 (starEach [] X.env)).any (·.1) = false := by rfl) :=
  (⟨ps_expr (pe_bm PySem.F.plainAttrs_list PySem.F.slot_list_append PySem.F.type_list_append mt_append hv.pe (pa_cons (pe_bm PySem.F.plainAttrs_list PySem.F.slot_list_pop PySem.F.type_list_pop mt_popAt hv2.pe (pa_cons he.pe pa_nil hs3) hbase2 hfew2 hline2 hs3 hplain2) pa_nil hs2) hbase hfew hline hs2 hplain) hs, ss_appPop i j he.sd⟩ : PDS X Γ (.Expr (.Call (.Attribute o "append" apos) [.Call (.Attribute o2 "pop" bpos) [e] [] p5] [] p) pos) _ (wAppPop i j we))
def ps_putA {i : Nat} (hv : PD X Γ o (tVar i) (wName i)) (hk : PD X Γ a tk wk) (he : PD X Γ e te we)
    (ha : ∀ v, assign (.Subscript o a p) X.env v = (do
      let ov ← holding [v] (eval o X.env)
      let iv ← holding [v, ov] (eval a X.env)
      standAt p
      holding [v, ov, iv] (setItem ov iv v)
      release [v, ov, iv] []) := by intro _; rfl) (hs : swapsWithSole [.Subscript o a p] e pos.line X.env = pure false := by rfl) (hw : swappedStores [.Subscript o a p] e X.env = pure none := by rfl)
    (h1 : (assignEach [.Subscript o a p] X.env).map (·.2) = [assign (.Subscript o a p) X.env] := by rfl) :=
  (⟨ps_asg he.pe (pg_sub hv.pe hk.pe set_list ha) hs hw h1, ss_put i hk.sd he.sd⟩ : PDS X Γ (.Assign [.Subscript o a p] e pos) _ (wPut i wk we))
def ps_popSetA {y i : Nat} (hN : X.N.Nodup) (hv : PD X Γ o (tVar i) (wName i)) (hi : X.N[y]? = some x := by rfl) (hx : Loc X.env.scope x := by first | exact Or.inl rfl | exact Or.inr rfl) (hs : swapsWith (.Call (.Attribute o "pop" apos) [] [] p2) (some (.Name x p)) pos.line X.env = pure false := by rfl) (hf : X.fn x = true ∨ X.env.scope.names.lookup x = some .local := by first | exact .inl rfl | exact .inr rfl)
    (hbase : attributeBase o "pop" X.env (eval o X.env) = eval o X.env := by rfl) (hline : (apos.endLine == p2.line) = true := by rfl) :=
  (⟨ps_set hN hi hx (pe_bm0 PySem.F.plainAttrs_list PySem.F.slot_list_pop PySem.F.type_list_pop mt_pop hv.pe hbase hline) hs hf, ss_popSet y i⟩ : PDS X Γ (.Assign [.Name x p] (.Call (.Attribute o "pop" apos) [] [] p2) pos) _ (wPopSet y i))
theorem ps_asgA (he : PD X Γ e te we) (hg : PDG X Γ tg g wg) (hs : swapsWithSole [tg] e pos.line X.env = pure false := by rfl) (hw : swappedStores [tg] e X.env = pure none := by rfl)
    (h1 : (assignEach [tg] X.env).map (·.2) = [assign tg X.env] := by rfl) : PDS X Γ (.Assign [tg] e pos) (tAsg te g) (wAsg we wg) := ⟨ps_asg he.pe hg.pg hs hw h1, ss_asg he.sd hg.sd⟩
theorem pg_nameA (i : Nat) (hN : X.N.Nodup) (hi : X.N[i]? = some x := by rfl) (hx : Loc X.env.scope x := by first | exact Or.inl rfl | exact Or.inr rfl) (hf : X.fn x = true ∨ X.env.scope.names.lookup x = some .local := by first | exact .inl rfl | exact .inr rfl) : PDG X Γ (.Name x pos) (gName i) (gwN i) := ⟨pg_name hN hi hx hf, sg_name i⟩
theorem pgs_nilA : PDGs X Γ [] gNil gwNil := ⟨pgs_nil, sg_nil⟩
theorem pgs_consA {gs : TGs} {wgs : List PyData → List A → (List A → Prop) → Prop} (h1 : PDG X Γ e g wg) (h2 : PDGs X Γ es gs wgs) (hs : (assignEach (e :: es) X.env).map (·.2) = assign e X.env :: (assignEach es X.env).map (·.2) := by rfl) : PDGs X Γ (e :: es) (gCons g gs) (gwCons wg wgs) := ⟨pgs_cons h1.pg h2.pg hs, sg_cons h1.sd h2.sd⟩
theorem pg_tupA {K : PySem.W.Frag} {gs : TGs} {k : Nat} {wgs : List PyData → List A → (List A → Prop) → Prop} {n : Nat} (h : PDGs X Γ es gs wgs) (hc : X.calm = true := by rfl) (hn : (assignEach es X.env).length = n := by rfl) (hst : (assignEach es X.env).findIdx? (·.1) = none := by rfl) (hK : X.K = K := by rfl) : PDG X Γ (.Tuple es k pos) (gTup K n gs) (gwT n wgs) := by
  subst hK
  exact ⟨pg_tup hc h.pg hn hst, sg_tup h.sd⟩
theorem pi_range1A (hm : X.mg "range" = none) (ha : PDA X Γ [a] tA wA) (hg : Gl X "range" := by rfl) (hs : starEach [a] X.env = [(false, eval a X.env)] := by rfl) : PDI X Γ tg (.Call (.Name "range" p) [a] [] pos) (iRng1 tA) (wRange1 wA) := ⟨pi_range1 hg hm ha.pa hs, si_range1 ha.sd⟩
theorem pi_range2A (hm : X.mg "range" = none) (ha : PDA X Γ [a, b] tA wA) (hg : Gl X "range" := by rfl) (hs : starEach [a, b] X.env = [(false, eval a X.env), (false, eval b X.env)] := by rfl) (hs2 : starEach [b] X.env = [(false, eval b X.env)] := by rfl) : PDI X Γ tg (.Call (.Name "range" p) [a, b] [] pos) (iRng2 tA) (wRange2 wA) := ⟨pi_range2 hg hm ha.pa hs hs2, si_range2 ha.sd⟩
theorem pi_listA {K : PySem.W.Frag} (h : PD X Γ e te we) (hK : X.K = K := by rfl) : PDI X Γ tg e (iList K te) (wList we) := by
  subst hK
  exact ⟨pi_list h.pe, si_list h.sd⟩
theorem pi_tupA {K : PySem.W.Frag} (h : PD X Γ e te we) (hK : X.K = K := by rfl) : PDI X Γ tg e (iTup K te) (wTupI we) := by
  subst hK
  exact ⟨pi_tup h.pe, si_tup h.sd⟩
theorem pi_enumA {K : PySem.W.Frag} {elts : List Expr} {kk : Nat} {tpos : Pos} (hm : X.mg "enumerate" = none) (ha : PDA X Γ [a] tA wA) (hg : Gl X "enumerate" := by rfl) (hs : starEach [a] X.env = [(false, eval a X.env)] := by rfl) (hK : X.K = K := by rfl) : PDI X Γ (.Tuple elts kk tpos) (.Call (.Name "enumerate" p) [a] [] pos) (iEnum K tA) (wEnum wA) := by
  subst hK
  exact ⟨pi_enum hg hm ha.pa hs, si_enum ha.sd⟩
theorem pi_revA {K : PySem.W.Frag} (hm : X.mg "reversed" = none) (ha : PDA X Γ [a] tA wA) (hg : Gl X "reversed" := by rfl) (hs : starEach [a] X.env = [(false, eval a X.env)] := by rfl) (hK : X.K = K := by rfl) : PDI X Γ tg (.Call (.Name "reversed" p) [a] [] pos) (iRev K tA) (wRev wA) := by
  subst hK
  exact ⟨pi_reversed hg hm ha.pa hs, si_rev ha.sd⟩
theorem ps_forA (hi : PDI X Γ tg iter ti wi) (hg : PDG X Γ tg g wg) (hb : PDSs X Γ body ts ws) (hp : PassesOwn (model X.prog X.w) X.A X.env X.xe) (hc : X.calm = true := by rfl) (hs : ∀ x, foldedSetIterable iter X.env x = pure x := by intro _; rfl) :
    PDS X Γ (.For tg iter body [] pos) (tFor ti g ts) (wFor wi wg ws) := ⟨ps_for hp hc hi.pi hg.pg hb.ps hs, ss_for hi.sd hg.sd hb.sd⟩
theorem ps_whileA (hc : PDT X Γ c tt wt) (hb : PDSs X Γ body ts ws) (hp : PassesOwn (model X.prog X.w) X.A X.env X.xe) : PDS X Γ (.While c body [] pos) (tWhile tt ts) (wWhile wt ws) := ⟨ps_while hp hc.pt hb.ps, ss_while hc.sd hb.sd⟩
/-! comprehensions -/
structure PDTs (X : Cx) (Γ : Gm) (ifs : List Expr) (t : TT) (w : WT) : Prop where
  pt : PTs X ifs t
  sd : SndT Γ t w
theorem pts_nilA : PDTs X Γ [] tYes wYes := ⟨pts_nil, st_yes⟩
theorem pts_oneA (h : PDT X Γ c tt wt) : PDTs X Γ [c] tt wt := ⟨pts_one h.pt, h.sd⟩
theorem pd_lc {elt tg iter : Expr} {ifs : List Expr} {scope : Scope} (own : List (Str × Nat)) (hN : X.N.Nodup) (hi : PDI X Γ tg iter ti wi) (ok : BlkOk X.N X.env.scope scope own)
    (hg : ∀ (s : Shared) (H : Hp) (C : Addr) (cl : List (Str × Addr)) (fp : List Addr), PDG (X.blk s H scope (compEnvC scope cl C X.env) fp) Γ tg g wg) (ht : ∀ (s : Shared) (H : Hp) (C : Addr) (cl : List (Str × Addr)) (fp : List Addr), PDTs (X.blk s H scope (compEnvC scope cl C X.env) fp) Γ ifs tt wt)
    (he : ∀ (s : Shared) (H : Hp) (C : Addr) (cl : List (Str × Addr)) (fp : List Addr), PD (X.blk s H scope (compEnvC scope cl C X.env) fp) Γ elt te we) (hv : GW (own.map (·.2)) g) (hc : X.calm = true := by rfl) (hs : ∀ x, foldedSetIterable iter X.env x = pure x := by intro _; rfl) :
    PD X Γ (.ListComp elt [⟨tg, iter, ifs, 0⟩] scope pos) (tLc ti g tt te (own.map (·.2))) (wLc wi wg wt we (own.map (·.2))) :=
  ⟨pe_lc hc hN hi.pi ok (fun s H C cl fp => (hg s H C cl fp).pg) (fun s H C cl fp => (ht s H C cl fp).pt) (fun s H C cl fp => (he s H C cl fp).pe) hs,
    sd_lc hi.sd (hg ⟨⟨#[], {}⟩, #[], {}, 0, {}⟩ (fun _ => none) 0 [] []).sd hv (ht ⟨⟨#[], {}⟩, #[], {}, 0, {}⟩ (fun _ => none) 0 [] []).sd (he ⟨⟨#[], {}⟩, #[], {}, 0, {}⟩ (fun _ => none) 0 [] []).sd⟩
theorem ps_setLcA {i : Nat} {y : Str} {py : Pos} {elt tg iter : Expr} {ifs : List Expr} {scope : Scope} (own : List (Str × Nat)) (hN : X.N.Nodup) (hi : PDI X Γ tg iter ti wi) (ok : BlkOk X.N X.env.scope scope own)
    (hg : ∀ (s : Shared) (H : Hp) (C : Addr) (cl : List (Str × Addr)) (fp : List Addr), PDG (X.blk s H scope (compEnvC scope cl C X.env) fp) Γ tg g wg) (ht : ∀ (s : Shared) (H : Hp) (C : Addr) (cl : List (Str × Addr)) (fp : List Addr), PDTs (X.blk s H scope (compEnvC scope cl C X.env) fp) Γ ifs tt wt)
    (he : ∀ (s : Shared) (H : Hp) (C : Addr) (cl : List (Str × Addr)) (fp : List Addr), PD (X.blk s H scope (compEnvC scope cl C X.env) fp) Γ elt te we) (hv : GW (own.map (·.2)) g)
    (hsw : swapsWith (.ListComp elt [⟨tg, iter, ifs, 0⟩] scope pos) (some (.Name y py)) p.line X.env = pure true) (hyl : X.env.scope.names.lookup y = some .local := by rfl) (hy : X.N[i]? = some y := by rfl) (hc : X.calm = true := by rfl) (hs : ∀ x, foldedSetIterable iter X.env x = pure x := by intro _; rfl) :
    PDS X Γ (.Assign [.Name y py] (.ListComp elt [⟨tg, iter, ifs, 0⟩] scope pos) p) (tAsg (tLc ti g tt te (own.map (·.2))) (gName i)) (wSet i (wLc wi wg wt we (own.map (·.2)))) :=
  ⟨ps_setLc hc hN hy hyl hsw hi.pi ok (fun s H C cl fp => (hg s H C cl fp).pg) (fun s H C cl fp => (ht s H C cl fp).pt) (fun s H C cl fp => (he s H C cl fp).pe) hs,
    ss_set i (sd_lc hi.sd (hg ⟨⟨#[], {}⟩, #[], {}, 0, {}⟩ (fun _ => none) 0 [] []).sd hv (ht ⟨⟨#[], {}⟩, #[], {}, 0, {}⟩ (fun _ => none) 0 [] []).sd (he ⟨⟨#[], {}⟩, #[], {}, 0, {}⟩ (fun _ => none) 0 [] []).sd)⟩
end
end Yd

/-! YdG: reading a list that is still one's own within a test; a def of the text and its promise. -/
namespace Yd
open PySem L2

/-- within a test an own list may be lent: it is one's own again behind -/
def wBorT (i : Nat) (w : WT) : WT := fun ρ Q => match ρ[i]? with
  | some (.fr x) => w ((unfr ρ).set i (.d x)) Q
  | some (.own xs) => w (ρ.set i (.d (.list xs))) Q
  | _ => w ρ Q
def scalA : A → Bool
  | .d .none => true
  | .d (.bool _) => true
  | .d (.int _) => true
  | .d (.str _) => true
  | _ => false
def wBor (i : Nat) (w : WE) : WE := fun ρ Q => match ρ[i]? with
  | some (.fr x) => w ((unfr ρ).set i (.d x)) fun r => scalA r = true ∧ Q r
  | some (.own xs) => w (ρ.set i (.d (.list xs))) fun r => scalA r = true ∧ Q r
  | _ => w ρ Q
theorem Stp.lend {G : Gh} {F H F1 F' H' : Hp} (g : gInv G H) (e : Same F F1) (fb : ∀ a, isBox G a → F a = none) (s : Stp G F1 H F' H') : Stp G F H F H' :=
  ⟨Same.refl _, (e.trans s.ff).trans s.fh, s.gi, s.keep, fun _ h => .inl h, fb⟩
theorem st_bor {Γ : Gm} {t : TT} {w : WT} (i : Nat) (h : SndT Γ t w) : SndT Γ t (wBorT i w) := fun ρ Q F σ H K m q k => by
  unfold wBorT at q
  split at q
  · rename_i x e
    obtain ⟨F1, e1, m1⟩ := m.frzF e
    exact h _ Q F1 σ H K m1 q fun F' H' b s p => k F H' b (s.lend m.gi e1 m.st.box) p
  · rename_i xs e
    obtain ⟨F1, e1, m1⟩ := m.frz e
    exact h _ Q F1 σ H K m1 q fun F' H' b s p => k F H' b (s.lend m.gi e1 m.st.box) p
  · exact h ρ Q F σ H K m q k
theorem scal_res {Γ : Gm} {ρ ρ' : List A} {σ : St} {F F1 F2 H F' H' : Hp} {v : V} {r : A} (sc : scalA r = true) (rr : Res Γ ρ' σ F1 H F' H' v r) : Res Γ ρ σ F H F2 H' v r := by
  unfold scalA at sc
  split at sc
  · cases (show Rp F' v .none from rr); exact Rp.non
  · cases (show Rp F' v (.bool _) from rr); exact Rp.bl _
  · cases (show Rp F' v (.int _) from rr); exact Rp.int _
  · cases (show Rp F' v (.str _) from rr); exact Rp.str _
  · cases sc
theorem sd_bor {Γ : Gm} {t : TE} {w : WE} (i : Nat) (h : SndE Γ t w) : SndE Γ t (wBor i w) := fun ρ Q F σ H K m q k => by
  unfold wBor at q
  split at q
  · rename_i x e
    obtain ⟨F1, e1, m1⟩ := m.frzF e
    exact h _ _ F1 σ H K m1 q fun F' H' v r s rr p => k F H' v r (s.lend m.gi e1 m.st.box) (scal_res p.1 rr) p.2
  · rename_i xs e
    obtain ⟨F1, e1, m1⟩ := m.frz e
    exact h _ _ F1 σ H K m1 q fun F' H' v r s rr p => k F H' v r (s.lend m.gi e1 m.st.box) (scal_res p.1 rr) p.2
  · exact h ρ Q F σ H K m q k
theorem pt_bor {X : Cx} {Γ : Gm} {e : Expr} {t : TT} {w : WT} (i : Nat) (h : PDT X Γ e t w) : PDT X Γ e t (wBorT i w) := ⟨h.pt, st_bor i h.sd⟩
theorem pd_bor {X : Cx} {Γ : Gm} {e : Expr} {t : TE} {w : WE} (i : Nat) (h : PD X Γ e t w) : PD X Γ e t (wBor i w) := ⟨h.pe, sd_bor i h.sd⟩

/-! what a call makes out of what is known stands by itself -/
def frOk : A → Bool
  | .yard _ _ => true
  | .k _ => true
  | .d .none => true
  | .d (.bool _) => true
  | .d (.int _) => true
  | .d (.str _) => true
  | _ => false
def frR (r : A) (Q : A → Prop) : Prop := match r with
  | .d x => Q (.fr x)
  | .own xs => Q (.fr (.list xs))
  | _ => False
def wCallF (spec : Spc) (wa : WA) : WE := fun ρ Q => wa ρ fun rs => match fzs rs with
  | some as => as.all frOk = true ∧ spec as fun r => frR r Q
  | none => False
theorem kn_alone (G : Gh) (F : Hp) : kn ⟨G.b, kn G F⟩ (fun _ => none) = kn G F := by
  funext a
  show (match kn G F a with
    | some o => some o
    | none => none) = kn G F a
  cases kn G F a <;> rfl
theorem kn_dj {G : Gh} {F : Hp} (d : bDj G) (b : ∀ a, isBox G a → F a = none) : bDj ⟨G.b, kn G F⟩ := by
  unfold bDj at d ⊢
  obtain ⟨Gb, R⟩ := G
  cases Gb with
  | none => trivial
  | some p =>
    obtain ⟨x, y⟩ := p
    obtain ⟨d1, d2⟩ := d
    have d1 : R x = none := d1
    have d2 : R y = none := d2
    refine ⟨?_, ?_⟩
    · show kn _ F x = none
      unfold kn
      show (match R x with
        | some o => some o
        | none => F x) = none
      rw [d1]
      exact b x (.inl (.inl rfl))
    · show kn _ F y = none
      unfold kn
      show (match R y with
        | some o => some o
        | none => F y) = none
      rw [d2]
      exact b y (.inl (.inr rfl))
theorem ArgsR.alone {G : Gh} {C : Addr} {F : Hp} : ∀ {vs : List V} {as : List A}, ArgsR G C F vs as → as.all frOk = true → ArgsR ⟨G.b, kn G F⟩ C (fun _ => none) vs as
  | _, _, .nil, _ => .nil
  | _, _, .cons (r := r) h t, e => by
    rw [List.all_cons, Bool.and_eq_true] at e
    refine .cons ?_ (t.alone e.2)
    have sc := e.1
    cases r with
    | yard m k =>
      show YardAt _ _ _ _ _ _
      unfold YardAt
      rw [kn_alone]
      exact h
    | k x =>
      show Rp (kn _ _) _ _
      rw [kn_alone]
      exact h
    | d x =>
      have h : Rp F _ x := h
      show Rp _ _ x
      cases x with
      | none => cases h; exact .non
      | bool b => cases h; exact .bl b
      | int i => cases h; exact .int i
      | str s => cases h; exact .str s
      | list _ => cases sc
      | tuple _ => cases sc
      | dict _ => cases sc
    | _ => cases sc
theorem sd_callF {Γ : Gm} {ta : TA} {wa : WA} {spec : Spc} {E : XK} (h : SndA Γ ta wa) : SndE Γ (tCall (spA Γ.C spec) [] E ta) (wCallF spec wa) := fun ρ Q F σ H K m q k =>
  h ρ _ F σ H _ m q fun F1 H1 vs rs s r p => by
    split at p
    · rename_i as e
      obtain ⟨F2, k2, s2, a2⟩ := r.freeze m.gi e s (Same.refl _)
      refine ⟨⟨Γ.G.b, kn Γ.G F2⟩, fun _ => none, as, _, (fun _ _ e => nomatch e), ⟨s2.gi.1, kn.same s2.fh s2.gi, kn_dj s2.gi.2.2 s2.box⟩, fun _ _ => rfl, by rw [List.append_nil]; exact a2.alone p.1, p.2, fun F' H' v r' st q' hq => ?_⟩
      have kF : Same F2 (kn Γ.G F2) := kn.of s2.box
      have kR : Same Γ.G.R (kn Γ.G F2) := fun a o e => by unfold kn; rw [e]
      have st' : Stp Γ.G F2 H1 F2 H' := by
        refine ⟨Same.refl _, fun a o e => st.gi.2.1 a o (kF a o e), ⟨st.gi.1, fun a o e => st.gi.2.1 a o (kR a o e), s2.gi.2.2⟩, fun a o e n => ?_, fun a h => .inl h, s2.box⟩
        cases e2 : kn Γ.G F2 a with
        | some u =>
          have := kn.same s2.fh s2.gi a u e2
          rw [e] at this
          cases this
          exact st.gi.2.1 a o e2
        | none =>
          refine st.keep a o e fun z => ?_
          rcases z with z | z
          · exact n (.inl z)
          · exact z e2
      have nF : ∀ a, F' a ≠ none → F2 a = none ∧ H a = none := fun a h => by
        constructor
        · cases e2 : F2 a with
          | none => rfl
          | some o => exact absurd (st.box a (.inr (by show kn Γ.G F2 a ≠ none; rw [kF a o e2]; simp))) h
        · rcases st.new a h with z | z
          · exact absurd rfl z
          · exact s2.none_back z
      have s3 := s2.trans m.gi st'
      cases r' with
      | d x => exact k F2 H' v (.fr x) s3 ⟨F', q', st.fh, nF⟩ hq
      | own xs =>
        obtain ⟨p, ws, rfl, h1, h2, h3, h4⟩ := q'
        refine k F2 H' _ (.fr (.list xs)) s3 ⟨upd F' p (.lst ws), .lst upd_same (h4.up fun b u e => ?_), fun b u e => ?_, fun b e => ?_⟩ hq
        · rw [upd_ne (fun z => by rw [z, h2] at e; cases e)]; exact e
        · by_cases z : b = p
          · subst z; rw [upd_same] at e; cases e; exact h3
          · rw [upd_ne z] at e; exact st.fh b u e
        · by_cases z : b = p
          · subst z; exact ⟨s2.fh.free h1, s2.none_back h1⟩
          · rw [upd_ne z] at e; exact nF b e
      | _ => exact hq.elim
    · exact p.elim
theorem pd_callF {X : Cx} {Γ : Gm} {e : Expr} {es : List Expr} {tA : TA} {wA : WA} {pos p : Pos} {x : Str} {k j : Nat} {spec : Spc} (cl : Cal X.prog X.w X.K X.mg X.base Γ.C x k spec) (hr : Room j X.A) (hk : k ≤ j) (ha : PDA X Γ (e :: es) tA wA) (hg : Gl X x := by rfl) (hdb : (x == ("__debug__" : Str)) = false := by decide)
    (he : starEach (e :: es) X.env = (false, eval e X.env) :: starEach es X.env := by rfl) (hpl : (backTo pos (starEach es X.env)).any (·.1) = false := by rfl) :
    PD X Γ (.Call (.Name x p) (e :: es) [] pos) (tCall (spA Γ.C spec) [] E0 tA) (wCallF spec wA) := by
  obtain ⟨f, fd, ps, F, hm, kp, bd⟩ := cl
  exact ⟨pe_call F (hr.mono hk) hg hm kp bd .nil pass0 ha.pa hdb he hpl, sd_callF ha.sd⟩

/-- a def of the text behind the top -/
structure Dfn (K : PySem.W.Frag) (mg : Str → Option Value) (x : Str) (st : Stmt) (ps : List Str) : Prop where
  ex : ∃ (f : Addr) (fd : FuncData), Fun K x x st f fd ∧ mg x = some (.ref f) ∧ Binds K fd ps []
/-- a method of the class at C -/
structure Mfn (K : PySem.W.Frag) (C : Addr) (m qual : Str) (st : Stmt) (ps : List Str) : Prop where
  ex : ∃ (f : Addr) (fd : FuncData), Fun K m qual st f fd ∧ Meth K C m f ∧ Binds K fd ps []
section
open PySem.Spec PyProof.Rows
variable {P : Program} {w : World} {K : PySem.W.Frag} {mg : Str → Option Value} {base : Heap} {C : Addr} {x m qual : Str} {st : Stmt} {N ps : List Str} {spec : Spc} {k : Nat}
/-- THE RULE for a def -/
theorem cal_of (D : Dfn K mg x st ps) (S : FnScope N ps (defScope st)) (len : ∀ as Q, spec as Q → as.length = ps.length)
    (hb : ∀ (f : Addr) (cdv : Value) (A0 : Around) (outer : List Env) (s : Shared) (H : Hp) (E : XK), Room k (A0.deeper (envOfC x (defScope st) s.heap.objs.size f cdv)) → ∀ (G : Gh) (F : Hp) (as : List A) (Q : A → Prop), spec as Q →
      ∃ t wt, PDSs (cxOf CX0 P w K mg base N x (defScope st) f cdv A0 outer s H E).nox ⟨G, C, F, H⟩ (defBody st) t wt ∧ wt (startA N.length as) { nx := fun _ => Q .non, rt := Q }) :
    Cal P w K mg base C x (k + 1) spec := by
  obtain ⟨f, fd, F, hm, bd⟩ := D
  refine ⟨f, fd, ps, F.ok S (fun vs H Q E h => spA_len len h) (fun cdv A0 outer s H vs Q E hr h => body_of h fun G F' as Q' hs => hb f cdv A0 outer s H E hr G F' as Q' hs), hm, F.kp, bd⟩
theorem calM_of (D : Mfn K C m qual st ps) (cY : Cls K C) (S : FnScope N ps (defScope st)) (len : ∀ as Q, spec as Q → as.length = ps.length)
    (hb : ∀ (f : Addr) (cdv : Value) (A0 : Around) (outer : List Env) (s : Shared) (H : Hp) (E : XK), Room k (A0.deeper (envOfC qual (defScope st) s.heap.objs.size f cdv)) → ∀ (G : Gh) (F : Hp) (as : List A) (Q : A → Prop), spec as Q →
      ∃ t wt, PDSs (cxOf CX0 P w K mg base N qual (defScope st) f cdv A0 outer s H E).nox ⟨G, C, F, H⟩ (defBody st) t wt ∧ wt (startA N.length as) { nx := fun _ => Q .non, rt := Q }) :
    CalM P w K mg base C m (k + 1) spec := by
  obtain ⟨f, fd, F, hm, bd⟩ := D
  exact ⟨f, fd, ps, F.ok S (fun vs H Q E h => spA_len len h) (fun cdv A0 outer s H vs Q E hr h => body_of h fun G F' as Q' hs => hb f cdv A0 outer s H E hr G F' as Q' hs), hm, bd, cY⟩
end
end Yd

/-! YdM: yards as functions, names as lists of naturals; places in lists that are made of ranges. -/
namespace Yd
open PySem L2

/-- a yard: how many places, their marks, the kinds of ties -/
structure Y where
  n : Nat
  m : Nat → Int
  k : Nat → Nat → Int
abbrev Y.ml (y : Y) : List Int := (List.range y.n).map y.m
abbrev Y.kl (y : Y) : List (List Int) := (List.range y.n).map fun i => (List.range y.n).map fun j => y.k i j
abbrev yA (y : Y) : A := .yard y.ml y.kl
abbrev nI (i : Nat) : PyData := .int (i : Int)
abbrev NL (l : List Nat) : PyData := .list (l.map nI)

theorem atI_some {α : Type} {xs : List α} {i : Nat} (h : i < xs.length) : atI xs (i : Int) = some xs[i] := atI_nat (List.getElem?_eq_getElem h)
theorem atI_map {α β : Type} (f : α → β) (xs : List α) (i : Int) : atI (xs.map f) i = (atI xs i).map f := by
  unfold atI
  rw [List.length_map]
  cases ixN xs.length i with
  | none => rfl
  | some j => simp
theorem atI_range {n i : Nat} (h : i < n) : atI (List.range n) (i : Int) = some i := by
  have e := atI_some (xs := List.range n) (i := i) (by simpa using h)
  simpa using e
theorem atI_names {l : List Nat} {i : Nat} (h : i < l.length) : atI (l.map nI) (i : Int) = some (nI l[i]) := by
  rw [atI_map, atI_some h]; rfl
theorem at_marked (y : Y) {i : Nat} (h : i < y.n) : atI (y.ml.map PyData.int) (i : Int) = some (.int (y.m i)) := by
  rw [atI_map, atI_map, atI_range h]; rfl
theorem at_kinds (y : Y) {i : Nat} (h : i < y.n) : atI (kd y.kl) (i : Int) = some (.list (((List.range y.n).map fun j => y.k i j).map PyData.int)) := by
  unfold kd
  rw [atI_map, atI_map, atI_range h]; rfl
theorem at_kind (y : Y) {i j : Nat} (h : j < y.n) : atI (((List.range y.n).map fun j => y.k i j).map PyData.int) (j : Int) = some (.int (y.k i j)) := by
  rw [atI_map, atI_map, atI_range h]; rfl
theorem kd_length (y : Y) : (kd y.kl).length = y.n := by simp [kd]
theorem rgD_get {lo : Int} {n i : Nat} {d : PyData} (h : (rgD lo n)[i]? = some d) : i < n ∧ d = .int (lo + (i : Nat)) := by
  unfold rgD at h
  rw [List.getElem?_map] at h
  obtain ⟨j, ej, rfl⟩ := Option.map_eq_some_iff.mp h
  obtain ⟨hj, e2⟩ := List.getElem?_eq_some_iff.mp ej
  simp at hj e2
  subst e2
  exact ⟨hj, rfl⟩
theorem rgD_length (lo : Int) (n : Nat) : (rgD lo n).length = n := by simp [rgD]
theorem rgD0_get {n i : Nat} {d : PyData} (h : (rgD 0 n)[i]? = some d) : i < n ∧ d = nI i := by
  obtain ⟨h1, h2⟩ := rgD_get h
  exact ⟨h1, by rw [h2, Int.zero_add]⟩
theorem rgD0 (n : Nat) : rgD 0 n = (List.range n).map nI := by
  unfold rgD
  simp

/-! ### equal data -/
mutual
def plainD : PyData → Bool
  | .none => true
  | .bool _ => false
  | .int _ => true
  | .str _ => true
  | .list xs => plainAll xs
  | .tuple xs => plainAll xs
  | .dict _ => false
def plainAll : List PyData → Bool
  | [] => true
  | x :: xs => plainD x && plainAll xs
end
mutual
theorem eqv_iff : ∀ (x y : PyData), plainD x = true → plainD y = true → (PyData.eqv x y = true ↔ x = y)
  | .none, y, _, h => by cases y <;> simp_all [PyData.eqv, plainD]
  | .bool _, _, h, _ => by simp [plainD] at h
  | .int i, y, _, h => by cases y <;> simp_all [PyData.eqv, plainD]
  | .str i, y, _, h => by cases y <;> simp_all [PyData.eqv, plainD]
  | .list xs, y, h1, h2 => by
    cases y with
    | list ys =>
      have e := eqvAll_iff xs ys (by simpa [plainD] using h1) (by simpa [plainD] using h2)
      simp [PyData.eqv, e]
    | bool _ => simp [plainD] at h2
    | dict _ => simp [plainD] at h2
    | _ => simp [PyData.eqv]
  | .tuple xs, y, h1, h2 => by
    cases y with
    | tuple ys =>
      have e := eqvAll_iff xs ys (by simpa [plainD] using h1) (by simpa [plainD] using h2)
      simp [PyData.eqv, e]
    | bool _ => simp [plainD] at h2
    | dict _ => simp [plainD] at h2
    | _ => simp [PyData.eqv]
  | .dict _, _, h, _ => by simp [plainD] at h
theorem eqvAll_iff : ∀ (xs ys : List PyData), plainAll xs = true → plainAll ys = true → (PyData.eqvAll xs ys = true ↔ xs = ys)
  | [], [], _, _ => by simp [PyData.eqvAll]
  | [], _ :: _, _, _ => by simp [PyData.eqvAll]
  | _ :: _, [], _, _ => by simp [PyData.eqvAll]
  | x :: xs, y :: ys, h1, h2 => by
    simp only [plainAll, Bool.and_eq_true] at h1 h2
    have e1 := eqv_iff x y h1.1 h2.1
    have e2 := eqvAll_iff xs ys h1.2 h2.2
    simp [PyData.eqvAll, e1, e2]
end
theorem eqv_plain {x y : PyData} [Decidable (x = y)] (h1 : plainD x = true) (h2 : plainD y = true) : PyData.eqv x y = decide (x = y) := by
  rw [Bool.eq_iff_iff, eqv_iff x y h1 h2, decide_eq_true_iff]
theorem plainAll_iff : ∀ xs : List PyData, plainAll xs = true ↔ ∀ x ∈ xs, plainD x = true
  | [] => by simp [plainAll]
  | x :: xs => by simp [plainAll, plainAll_iff xs]
theorem plain_names (l : List Nat) : plainAll (l.map nI) = true := by
  rw [plainAll_iff]
  intro x hx
  obtain ⟨i, _, rfl⟩ := List.mem_map.mp hx
  rfl
theorem any_names (l : List Nat) (i : Nat) : ((l.map nI).any fun z => PyData.eqv z (nI i)) = decide (i ∈ l) := by
  induction l with
  | nil => simp
  | cons a l ih =>
    rw [List.map_cons, List.any_cons, ih]
    have e : PyData.eqv (nI a) (nI i) = decide (i = a) := by
      simp only [PyData.eqv]
      by_cases h : i = a
      · subst h; simp
      · have h' : ¬ a = i := fun z => h z.symm
        have : ¬ ((a : Int) = (i : Int)) := by omega
        simp [h, h', this]
    rw [e]
    by_cases h : i = a <;> simp [h]
theorem shaped_int (i : Int) : SeqAt.shaped (.int i) = true := by simp [SeqAt.shaped, PyData.canLay0, PyData.depth]
theorem canLay_names (l : List Nat) : PyData.canLayAll0 (l.map nI) = true := by
  induction l with
  | nil => simp [PyData.canLayAll0]
  | cons a l ih => simp only [List.map_cons, PyData.canLayAll0, ih, PyData.canLay0, Bool.and_self]
theorem depth_names (l : List Nat) : PyData.depthAll (l.map nI) ≤ 1 := by
  induction l with
  | nil => simp [PyData.depthAll]
  | cons a l ih => simp only [List.map_cons, PyData.depthAll, PyData.depth]; omega
theorem shaped_names (l : List Nat) : SeqAt.shaped (NL l) = true := by
  have h := depth_names l
  show (PyData.canLay0 (NL l) && decide (PyData.depth (NL l) ≤ 64)) = true
  rw [Bool.and_eq_true]
  refine ⟨?_, decide_eq_true ?_⟩
  · simp only [PyData.canLay0]
    exact canLay_names l
  · simp only [PyData.depth]
    omega
theorem NL_inj {l l' : List Nat} : NL l = NL l' ↔ l = l' := by
  constructor
  · intro h
    injection h with h
    have f : Function.Injective nI := fun a b e => by injection e with e; omega
    exact List.map_inj_right (fun a b e => f e) |>.mp h
  · intro h; rw [h]
theorem eqv_names (l l' : List Nat) : PyData.eqv (NL l) (NL l') = decide (l = l') := by
  have h1 : plainD (NL l) = true := by simp only [plainD]; exact plain_names l
  have h2 : plainD (NL l') = true := by simp only [plainD]; exact plain_names l'
  rw [Bool.eq_iff_iff, eqv_iff _ _ h1 h2, NL_inj, decide_eq_true_iff]
end Yd

/-! YdS: the transformers step by step: equations that fire only where a value's kind is known. -/
namespace Yd
open PySem L2

def optK {α : Type} (o : Option α) (K : α → Prop) : Prop := match o with
  | some x => K x
  | none => False
theorem optK_some {α : Type} (x : α) (K : α → Prop) : optK (some x) K = K x := rfl
def ownK (o : Option A) (K : List PyData → Prop) : Prop := match o with
  | some (.own xs) => K xs
  | _ => False
theorem ownK_own (xs : List PyData) (K : List PyData → Prop) : ownK (some (.own xs)) K = K xs := rfl
def nameK (i : Nat) (o : Option A) (Q : A → Prop) : Prop := match o with
  | some (.own xs) => Q (.bor i xs)
  | some (.bor _ _) => False
  | some .un => False
  | some (.fr _) => False
  | some (.dct _ _) => False
  | some (.dtt _) => False
  | some (.lt _) => False
  | some a => Q a
  | none => False
section
variable (i : Nat) (Q : A → Prop)
theorem nameK_own (xs) : nameK i (some (.own xs)) Q = Q (.bor i xs) := rfl
theorem nameK_d (x) : nameK i (some (.d x)) Q = Q (.d x) := rfl
theorem nameK_yard (m k) : nameK i (some (.yard m k)) Q = Q (.yard m k) := rfl
theorem nameK_box : nameK i (some .box) Q = Q .box := rfl
theorem nameK_ft (x) : nameK i (some (.ft x)) Q = Q (.ft x) := rfl
theorem nameK_k (x) : nameK i (some (.k x)) Q = Q (.k x) := rfl
theorem nameK_raw (v) : nameK i (some (.raw v)) Q = Q (.raw v) := rfl
theorem e_name (ρ) : wName i ρ Q = nameK i (ρ[i]?) Q := by unfold wName nameK; rfl
end
def blK (r : A) (K : Bool → Prop) : Prop := match r with
  | .d (.bool b) => K b
  | _ => False
theorem blK_bl (b : Bool) (K : Bool → Prop) : blK (.d (.bool b)) K = K b := rfl
def intK (r : A) (K : Int → Prop) : Prop := match r with
  | .d (.int b) => K b
  | _ => False
theorem intK_int (b : Int) (K : Int → Prop) : intK (.d (.int b)) K = K b := rfl
def ydK (r : A) (K : List Int → List (List Int) → Prop) : Prop := match r with
  | .yard m k => K m k
  | _ => False
theorem ydK_y (m : List Int) (k : List (List Int)) (K : List Int → List (List Int) → Prop) : ydK (.yard m k) K = K m k := rfl
def frK (r : A) (K : A → Prop) : Prop := match r with
  | .bor _ _ => False
  | r => K r
section
variable (K : A → Prop)
theorem frK_d (x) : frK (.d x) K = K (.d x) := rfl
theorem frK_own (x) : frK (.own x) K = K (.own x) := rfl
theorem frK_yard (m k) : frK (.yard m k) K = K (.yard m k) := rfl
theorem frK_ft (v) : frK (.ft v) K = K (.ft v) := rfl
theorem frK_dtt (v) : frK (.dtt v) K = K (.dtt v) := rfl
theorem frK_lt (v) : frK (.lt v) K = K (.lt v) := rfl
theorem frK_k (v) : frK (.k v) K = K (.k v) := rfl
theorem frK_fr (v) : frK (.fr v) K = K (.fr v) := rfl
theorem frK_raw (v) : frK (.raw v) K = K (.raw v) := rfl
theorem frK_box : frK .box K = K .box := rfl
end
def rtK (r : A) (K : A → Prop) : Prop := match r with
  | .un => False
  | .fr _ => False
  | .dct _ _ => False
  | .dtt _ => False
  | r => K (unb r)
section
variable (K : A → Prop)
theorem rtK_ft (x) : rtK (.ft x) K = K (.ft x) := rfl
theorem rtK_lt (x) : rtK (.lt x) K = K (.lt x) := rfl
theorem rtK_d (x) : rtK (.d x) K = K (.d x) := rfl
theorem rtK_own (x) : rtK (.own x) K = K (.own x) := rfl
theorem rtK_bor (i x) : rtK (.bor i x) K = K (.own x) := rfl
theorem rtK_yard (m k) : rtK (.yard m k) K = K (.yard m k) := rfl
end
def lsK (r : A) (K : List PyData → Prop) : Prop := match r with
  | .d (.list ds) => K ds
  | .own ds => K ds
  | _ => False
theorem lsK_d (x) (K : List PyData → Prop) : lsK (.d (.list x)) K = K x := rfl
theorem lsK_own (x) (K : List PyData → Prop) : lsK (.own x) K = K x := rfl
def tpK (r : A) (K : List PyData → Prop) : Prop := match r with
  | .d (.tuple ds) => K ds
  | _ => False
theorem tpK_d (x) (K : List PyData → Prop) : tpK (.d (.tuple x)) K = K x := rfl
def fzK (i : Nat) (o : Option A) (K : List PyData → Prop) (N : PyData → Prop) (L : Prop) : Prop := match o with
  | some (.fr x) => N x
  | some (.own xs) => K xs
  | _ => L
section
variable (i : Nat) (K : List PyData → Prop) (N : PyData → Prop) (L : Prop)
theorem fzK_own (xs) : fzK i (some (.own xs)) K N L = K xs := rfl
theorem fzK_fr (x) : fzK i (some (.fr x)) K N L = N x := rfl
theorem fzK_d (xs) : fzK i (some (.d xs)) K N L = L := rfl
theorem fzK_yard (m k) : fzK i (some (.yard m k)) K N L = L := rfl
theorem fzK_box : fzK i (some .box) K N L = L := rfl
theorem fzK_raw (v) : fzK i (some (.raw v)) K N L = L := rfl
theorem fzK_k (v) : fzK i (some (.k v)) K N L = L := rfl
theorem fzK_un : fzK i (some .un) K N L = L := rfl
theorem fzK_ft (x) : fzK i (some (.ft x)) K N L = L := rfl
theorem fzK_dtt (x) : fzK i (some (.dtt x)) K N L = L := rfl
theorem fzK_lt (x) : fzK i (some (.lt x)) K N L = L := rfl
theorem e_unfr (ρ : List A) : unfr ρ = ρ.map unfrA := rfl
theorem unfrA_un : unfrA .un = .un := rfl
theorem unfrA_ft (x) : unfrA (.ft x) = .ft x := rfl
theorem unfrA_dtt (x) : unfrA (.dtt x) = .un := rfl
theorem unfrA_lt (x) : unfrA (.lt x) = .un := rfl
theorem unfrA_d (x) : unfrA (.d x) = .d x := rfl
theorem unfrA_own (x) : unfrA (.own x) = .own x := rfl
theorem unfrA_yard (m k) : unfrA (.yard m k) = .yard m k := rfl
theorem unfrA_box : unfrA .box = .box := rfl
theorem unfrA_raw (v) : unfrA (.raw v) = .raw v := rfl
theorem unfrA_k (v) : unfrA (.k v) = .k v := rfl
theorem unfrA_fr (v) : unfrA (.fr v) = .un := rfl
end

/-! statements: what comes later waits until the slots are known -/
def doS (a : WS) (ρ : List A) (P : Po) : Prop := a ρ P
theorem e_do (a : WS) (x : A) (ρ : List A) (P : Po) : doS a (x :: ρ) P = a (x :: ρ) P := rfl
def doT (a : WT) (ρ : List A) (Q : Bool → Prop) : Prop := a ρ Q
theorem e_doT (a : WT) (x : A) (ρ : List A) (Q : Bool → Prop) : doT a (x :: ρ) Q = a (x :: ρ) Q := rfl
section
variable (ρ : List A) (P : Po) (e e2 : WE) (a b : WS) (t : WT) (i j : Nat) (g : WG) (wi : WI)
theorem e_next : wNext ρ P = P.nx ρ := rfl
theorem e_seq : wSeq a b ρ P = a ρ { P with nx := fun ρ' => doS b ρ' P } := rfl
theorem e_break : wBreak ρ P = P.bk ρ := rfl
theorem e_cont : wCont ρ P = P.ct ρ := rfl
theorem e_drop : wDrop e ρ P = e ρ fun _ => P.nx ρ := rfl
theorem e_ret : wRet e ρ P = e ρ fun r => rtK r P.rt := by unfold wRet rtK; rfl
theorem e_retN : wRetN ρ P = P.rt .non := rfl
theorem e_if : wIf t a b ρ P = t ρ fun c => (c = true → a ρ P) ∧ (c = false → b ρ P) := rfl
theorem e_set : wSet i e ρ P = e ρ fun r => frK r fun r => P.nx (ρ.set i r) := by unfold wSet frK; rfl
theorem e_fz : wFz i a ρ P = fzK i (ρ[i]?) (fun xs => a (ρ.set i (.d (.list xs))) P) (fun x => a ((unfr ρ).set i (.d x)) P) (a ρ P) := by unfold wFz fzK; rfl
theorem e_app : wApp i e ρ P = ownK (ρ[i]?) fun xs => e ρ fun r => optK (toD r) fun d => xs.length < sizeLine ∧ P.nx (ρ.set i (.own (xs ++ [d]))) := by
  unfold wApp ownK optK
  cases ρ[i]? with
  | none => rfl
  | some a =>
    cases a with
    | own xs =>
      show e ρ _ = e ρ _
      congr 1
      funext r
      cases toD r <;> rfl
    | _ => rfl
theorem e_put : wPut i e e2 ρ P = ownK (ρ[i]?) fun xs => e2 ρ fun r => optK (toD r) fun d => e ρ fun q => intK q fun n => ∃ j, ixN xs.length n = some j ∧ P.nx (ρ.set i (.own (xs.set j d))) := by
  unfold wPut ownK optK intK
  cases ρ[i]? with
  | none => rfl
  | some a =>
    cases a with
    | own xs =>
      show e2 ρ _ = e2 ρ _
      congr 1
      funext r
      cases toD r with
      | none => rfl
      | some d =>
        show e ρ _ = e ρ _
        congr 1
    | _ => rfl
theorem e_clear : wClear i ρ P = ownK (ρ[i]?) fun _ => P.nx (ρ.set i (.own [])) := by unfold wClear ownK; rfl
theorem e_popSet : wPopSet j i ρ P = ownK (ρ[i]?) fun xs => ∃ d, xs[xs.length - 1]? = some d ∧ P.nx ((ρ.set i (.own xs.dropLast)).set j (.d d)) := by unfold wPopSet ownK; rfl
theorem e_appPop : wAppPop i j e ρ P = ownK (ρ[i]?) fun xs => ownK (ρ[j]?) fun ys => i ≠ j ∧ xs.length < sizeLine ∧ ys.length ≤ sizeLine ∧ e ρ fun r => intK r fun k => 0 ≤ k ∧ k < ys.length ∧ ∀ d, ys[k.toNat]? = some d → P.nx ((ρ.set j (.own (ys.eraseIdx k.toNat))).set i (.own (xs ++ [d]))) := by
  unfold wAppPop ownK intK
  have tail : ∀ xs ys, (e ρ fun r => match r with
    | .d (.int k) => 0 ≤ k ∧ k < (ys : List PyData).length ∧ ∀ d, ys[k.toNat]? = some d → P.nx ((ρ.set j (.own (ys.eraseIdx k.toNat))).set i (.own (xs ++ [d])))
    | _ => False) = (e ρ fun r => intK r fun k => 0 ≤ k ∧ k < ys.length ∧ ∀ d, ys[k.toNat]? = some d → P.nx ((ρ.set j (.own (ys.eraseIdx k.toNat))).set i (.own (xs ++ [d])))) := by
    intro xs ys
    congr 1
  cases h1 : ρ[i]? with
  | none => rfl
  | some a =>
    cases a with
    | own xs =>
      cases h2 : ρ[j]? with
      | none => rfl
      | some b =>
        cases b with
        | own ys =>
          show (i ≠ j ∧ xs.length < sizeLine ∧ ys.length ≤ sizeLine ∧ _) = (i ≠ j ∧ xs.length < sizeLine ∧ ys.length ≤ sizeLine ∧ _)
          congr 3
        | _ => rfl
    | _ => cases ρ[j]? <;> rfl
theorem e_ext : wExt i e ρ P = ownK (ρ[i]?) fun xs => e ρ fun r => (match r with
    | .own ys => xs.length + ys.length ≤ sizeLine ∧ P.nx (ρ.set i (.own (xs ++ ys)))
    | _ => False) := by unfold wExt ownK; rfl
theorem e_for : wFor wi g a ρ P = wi ρ fun items => ∃ I : Nat → List A → Prop, I 0 ρ ∧ (∀ i d ρ', items[i]? = some d → I i ρ' → g d ρ' fun ρ2 => doS a ρ2 { P with nx := I (i + 1), ct := I (i + 1), bk := P.nx }) ∧ ∀ ρ', I items.length ρ' → P.nx ρ' := rfl
theorem e_while : wWhile t a ρ P = ∃ I : Nat → List A → Prop, (∃ m, I m ρ) ∧ ∀ m ρ', I m ρ' → doT t ρ' fun c => (c = true → doS a ρ' { P with nx := fun ρ2 => ∃ m', m' < m ∧ I m' ρ2, ct := fun ρ2 => ∃ m', m' < m ∧ I m' ρ2, bk := P.nx }) ∧ (c = false → P.nx ρ') := rfl
theorem e_asg : wAsg e g ρ P = e ρ fun r => optK (toD r) fun d => g d ρ P.nx := by
  unfold wAsg optK
  congr 1
  funext r
  cases toD r <;> rfl
theorem e_gN (d : PyData) (Q : List A → Prop) : gwN i d ρ Q = Q (ρ.set i (.d d)) := rfl
theorem e_gT (n : Nat) (bs) (ds : List PyData) (Q : List A → Prop) : gwT n bs (.tuple ds) ρ Q = (ds.length = n ∧ bs ds ρ Q) := rfl
theorem e_gNil (Q : List A → Prop) : gwNil [] ρ Q = Q ρ := rfl
theorem e_gCons (x : WG) (y) (d : PyData) (ds : List PyData) (Q : List A → Prop) : gwCons x y (d :: ds) ρ Q = x d ρ fun ρ' => y ds ρ' Q := rfl
end
/-! expressions -/
section
variable (ρ : List A) (Q : A → Prop) (QT : Bool → Prop) (e e2 e3 : WE) (t t2 : WT) (wa : WA) (f f2 : A → A → (A → Prop) → Prop) (fu : A → (A → Prop) → Prop) (fc : List A → (A → Prop) → Prop) (a : A)
theorem e_c : wC a ρ Q = Q a := rfl
theorem e_op : wOp f e e2 ρ Q = e ρ fun x => e2 ρ fun y => f x y Q := rfl
theorem e_un : wUn fu e ρ Q = e ρ fun x => fu x Q := rfl
theorem e_test : wTest e ρ QT = e ρ fun r => blK r QT := by unfold wTest blK; rfl
theorem e_and : wAnd t t2 ρ QT = t ρ fun c => (c = true → t2 ρ QT) ∧ (c = false → QT false) := rfl
theorem e_or : wOr t t2 ρ QT = t ρ fun c => (c = true → QT true) ∧ (c = false → t2 ρ QT) := rfl
theorem e_not : wNot t ρ QT = t ρ fun c => QT (!c) := rfl
theorem e_andV : wAndV e e2 ρ Q = e ρ fun r => blK r fun c => (c = true → e2 ρ Q) ∧ (c = false → Q (.bl false)) := by unfold wAndV blK; rfl
theorem e_orV : wOrV e e2 ρ Q = e ρ fun r => blK r fun c => (c = true → Q (.bl true)) ∧ (c = false → e2 ρ Q) := by unfold wOrV blK; rfl
theorem e_notV : wNotV e ρ Q = e ρ fun r => blK r fun c => Q (.bl (!c)) := by unfold wNotV blK; rfl
theorem e_ifE : wIfE t e e2 ρ Q = t ρ fun c => (c = true → e ρ Q) ∧ (c = false → e2 ρ Q) := rfl
theorem e_nil (QA : List A → Prop) : wNil ρ QA = QA [] := rfl
theorem e_cons (QA : List A → Prop) : wCons e wa ρ QA = e ρ fun x => wa ρ fun xs => QA (x :: xs) := rfl
theorem e_tup : wTupD wa ρ Q = wa ρ fun rs => optK (allD rs) fun ds => ds.length ≤ sizeLine ∧ Q (.d (.tuple ds)) := by
  unfold wTupD optK
  congr 1
  funext r
  cases allD r <;> rfl
theorem e_lst : wLstD wa ρ Q = wa ρ fun rs => optK (allD rs) fun ds => ds.length ≤ sizeLine ∧ Q (.own ds) := by
  unfold wLstD optK
  congr 1
  funext r
  cases allD r <;> rfl
theorem e_cb : wCB fc wa ρ Q = wa ρ fun rs => fc rs Q := rfl
theorem e_chain : wChain f f2 e e2 e3 ρ Q = e ρ fun x => e2 ρ fun y => intK y fun j => f x (.d (.int j)) fun r => blK r fun k => (k = true → e3 ρ fun z => f2 (.d (.int j)) z Q) ∧ (k = false → Q (.bl false)) := by unfold wChain intK blK; rfl
theorem e_marked : wMarked e ρ Q = e ρ fun r => ydK r fun m _ => Q (.k (.tuple (m.map PyData.int))) := by unfold wMarked ydK; rfl
theorem e_kinds : wKinds e ρ Q = e ρ fun r => ydK r fun _ k => Q (.k (.list (kd k))) := by unfold wKinds ydK; rfl
theorem e_meth (spec : Spc) : wMeth spec e wa ρ Q = e ρ fun r => ydK r fun m k => wa ρ fun rs => optK (fzs rs) fun as => spec (.yard m k :: as) Q := by
  unfold wMeth ydK optK
  congr 1
  funext r
  cases r with
  | yard m k =>
    show wa ρ _ = wa ρ _
    congr 1
    funext rs
    cases fzs rs <;> rfl
  | _ => rfl
theorem e_make (spec : SpI) : wMake spec wa ρ Q = wa ρ fun rs => optK (fzs rs) fun as => spec as fun m k => Q (.yard m k) := by
  unfold wMake optK
  congr 1
  funext r
  cases fzs r <;> rfl
theorem e_call (spec : Spc) : wCall spec wa ρ Q = wa ρ fun rs => optK (fzs rs) fun as => spec as Q := by
  unfold wCall optK
  congr 1
  funext r
  cases fzs r <;> rfl
theorem e_lc (wi : WI) (g : WG) (vs : List Nat) : wLc wi g t e vs ρ Q = wi ρ fun items => ∃ I : Nat → List PyData → Prop, I 0 [] ∧
  (∀ i d acc, items[i]? = some d → I i acc → g d (wipeA ρ vs) fun ρ2 => t ρ2 fun b => (b = true → e ρ2 fun r => optK (toD r) fun y => acc.length < sizeLine ∧ I (i + 1) (acc ++ [y])) ∧ (b = false → I (i + 1) acc)) ∧ ∀ acc, I items.length acc → Q (.own acc) := by
  have h : ∀ (I : Nat → List PyData → Prop) (i : Nat) (acc : List PyData), (fun r => (match toD r with
    | some y => acc.length < sizeLine ∧ I (i + 1) (acc ++ [y])
    | none => False)) = fun r => optK (toD r) fun y => acc.length < sizeLine ∧ I (i + 1) (acc ++ [y]) := by
    intro I i acc
    funext r
    unfold optK
    cases toD r <;> rfl
  unfold wLc
  congr 1
  funext items
  congr 1
  funext I
  congr 2
  simp only [← h]
  all_goals rfl
theorem e_wipe0 : wipeA ρ [] = ρ := rfl
theorem e_wipe (v : Nat) (vs : List Nat) : wipeA ρ (v :: vs) = (wipeA ρ vs).set v .un := rfl
theorem e_yes : wYes ρ QT = QT true := rfl
theorem e_range1 (QI : List PyData → Prop) : wRange1 wa ρ QI = wa ρ fun rs => (match rs with
  | [r] => intK r fun j => -(2 ^ 62) ≤ j ∧ j < 2 ^ 62 ∧ QI (rgD 0 j.toNat)
  | _ => False) := by
  unfold wRange1
  congr 1
  funext rs
  match rs with
  | [] => rfl
  | [r] => unfold intK; cases r with
    | d x => cases x <;> rfl
    | _ => rfl
  | a :: _ :: _ => cases a with
    | d x => cases x <;> rfl
    | _ => rfl
theorem e_range2 (QI : List PyData → Prop) : wRange2 wa ρ QI = wa ρ fun rs => (match rs with
  | [r, q] => intK r fun i => intK q fun j => (-(2 ^ 62) ≤ i ∧ i < 2 ^ 62 ∧ -(2 ^ 62) ≤ j ∧ j < 2 ^ 62) ∧ QI (rgD i (j - i).toNat)
  | _ => False) := by
  unfold wRange2
  congr 1
  funext rs
  match rs with
  | [] => rfl
  | [a] => cases a with
    | d x => cases x <;> rfl
    | _ => rfl
  | [r, q] =>
    unfold intK
    cases r with
    | d x => cases x with
      | int i => cases q with
        | d y => cases y <;> rfl
        | _ => rfl
      | _ => rfl
    | _ => rfl
  | a :: b :: _ :: _ => cases a with
    | d x => cases x with
      | int _ => cases b with
        | d y => cases y <;> rfl
        | _ => rfl
      | _ => rfl
    | _ => rfl
theorem e_list (QI : List PyData → Prop) : wList e ρ QI = e ρ fun r => lsK r QI := by unfold wList lsK; rfl
theorem e_tupI (QI : List PyData → Prop) : wTupI e ρ QI = e ρ fun r => tpK r QI := by unfold wTupI tpK; rfl
theorem e_enum (QI : List PyData → Prop) : wEnum wa ρ QI = wa ρ fun rs => (match rs with
  | [r] => lsK r fun ds => QI (enD ds)
  | _ => False) := by
  unfold wEnum
  congr 1
  funext rs
  match rs with
  | [] => rfl
  | [r] => unfold lsK; cases r with
    | d x => cases x <;> rfl
    | _ => rfl
  | a :: _ :: _ => cases a with
    | d x => cases x <;> rfl
    | _ => rfl
theorem e_rev (QI : List PyData → Prop) : wRev wa ρ QI = wa ρ fun rs => (match rs with
  | [r] => lsK r fun ds => QI ds.reverse
  | _ => False) := by
  unfold wRev
  congr 1
  funext rs
  match rs with
  | [] => rfl
  | [r] => unfold lsK; cases r with
    | d x => cases x <;> rfl
    | _ => rfl
  | a :: _ :: _ => cases a with
    | d x => cases x <;> rfl
    | _ => rfl
theorem e_noPart (QO : Option Int → Prop) : wNoPart ρ QO = QO none := rfl
theorem e_part (QO : Option Int → Prop) : wPart e ρ QO = e ρ fun r => intK r fun i => QO (some i) := by unfold wPart intK; rfl
theorem e_sl (lo hi : WO) : wSl e lo hi ρ Q = e ρ fun r => lo ρ fun l => hi ρ fun h => slA r l h Q := rfl
theorem e_lstRg (w : List A → (Int → Int → Prop) → Prop) : wLstRg w ρ Q = w ρ fun a b => RgOk a b ∧ Q (.own (rgD a (b - a).toNat)) := rfl
theorem e_rg1 (QR : Int → Int → Prop) : wRg1 e ρ QR = e ρ fun r => intK r fun n => QR 0 n := by unfold wRg1 intK; rfl
theorem e_rg2 (QR : Int → Int → Prop) : wRg2 e e2 ρ QR = e ρ fun r => e2 ρ fun q => intK r fun i => intK q fun j => QR i j := by
  unfold wRg2
  congr 1
  funext r
  congr 1
  funext q
  unfold intK
  cases r with
  | d x => cases x with
    | int i => cases q with
      | d y => cases y <;> rfl
      | _ => rfl
    | _ => rfl
  | _ => rfl
theorem e_borT (i : Nat) : wBorT i t ρ QT = fzK i (ρ[i]?) (fun xs => t (ρ.set i (.d (.list xs))) QT) (fun x => t ((unfr ρ).set i (.d x)) QT) (t ρ QT) := by unfold wBorT fzK; rfl
theorem e_bor (i : Nat) : wBor i e ρ Q = fzK i (ρ[i]?) (fun xs => e (ρ.set i (.d (.list xs))) fun r => scalA r = true ∧ Q r) (fun x => e ((unfr ρ).set i (.d x)) fun r => scalA r = true ∧ Q r) (e ρ Q) := by unfold wBor fzK; rfl
end
/-! operations -/
section
variable (Q : A → Prop) (i j : Int) (s s' : Str) (xs ys : List PyData) (n m : Nat)
theorem addA_int : addA (.d (.int i)) (.d (.int j)) Q = Q (.d (.int (i + j))) := rfl
theorem addA_str : addA (.d (.str s)) (.d (.str s')) Q = (s.length + s'.length ≤ sizeLine ∧ Q (.d (.str (s ++ s')))) := rfl
theorem addA_tup : addA (.d (.tuple xs)) (.d (.tuple ys)) Q = (xs ≠ [] ∧ xs.length + ys.length ≤ sizeLine ∧ Q (.d (.tuple (xs ++ ys)))) := rfl
theorem addA_dd : addA (.d (.list xs)) (.d (.list ys)) Q = (xs.length + ys.length ≤ sizeLine ∧ Q (.own (xs ++ ys))) := rfl
theorem addA_do : addA (.d (.list xs)) (.own ys) Q = (xs.length + ys.length ≤ sizeLine ∧ Q (.own (xs ++ ys))) := rfl
theorem addA_od : addA (.own xs) (.d (.list ys)) Q = (xs.length + ys.length ≤ sizeLine ∧ Q (.own (xs ++ ys))) := rfl
theorem addA_oo : addA (.own xs) (.own ys) Q = (xs.length + ys.length ≤ sizeLine ∧ Q (.own (xs ++ ys))) := rfl
theorem addA_bo : addA (.bor n xs) (.own ys) Q = (xs.length + ys.length ≤ sizeLine ∧ Q (.own (xs ++ ys))) := rfl
theorem addA_ob : addA (.own xs) (.bor n ys) Q = (xs.length + ys.length ≤ sizeLine ∧ Q (.own (xs ++ ys))) := rfl
theorem subA_int : subA (.d (.int i)) (.d (.int j)) Q = Q (.d (.int (i - j))) := rfl
theorem mulA_int : mulA (.d (.int i)) (.d (.int j)) Q = (CMul i j ∧ Q (.d (.int (i * j)))) := rfl
theorem mulA_own : mulA (.own xs) (.d (.int j)) Q = (-(2 ^ 63) ≤ j ∧ j < 2 ^ 63 ∧ xs.length * j.toNat ≤ sizeLine ∧ Q (.own (List.replicate j.toNat xs).flatten)) := rfl
theorem fdivA_int : fdivA (.d (.int i)) (.d (.int j)) Q = (CDiv i j ∧ Q (.d (.int (i / j)))) := rfl
theorem modA_int : modA (.d (.int i)) (.d (.int j)) Q = (0 < j ∧ Q (.d (.int (i % j)))) := rfl
theorem negA_int : negA (.d (.int i)) Q = Q (.d (.int (-i))) := rfl
theorem cmpA_int (p : Int → Int → Bool) : cmpA p (.d (.int i)) (.d (.int j)) Q = Q (.d (.bool (p i j))) := rfl
theorem eqA_int : eqA (.d (.int i)) (.d (.int j)) Q = Q (.d (.bool (decide (i = j)))) := rfl
theorem eqA_str : eqA (.d (.str s)) (.d (.str s')) Q = Q (.d (.bool (decide (s = s')))) := rfl
theorem neA_int : neA (.d (.int i)) (.d (.int j)) Q = Q (.d (.bool (!decide (i = j)))) := rfl
theorem neA_str : neA (.d (.str s)) (.d (.str s')) Q = Q (.d (.bool (!decide (s = s')))) := rfl
/-- == of lists and tuples, however they stand -/
def eqL (x y : PyData) (Q : A → Prop) : Prop := SeqAt.shaped x = true ∧ SeqAt.shaped y = true ∧ Q (.d (.bool (PyData.eqv x y)))
def neL (x y : PyData) (Q : A → Prop) : Prop := SeqAt.shaped x = true ∧ SeqAt.shaped y = true ∧ Q (.d (.bool (!PyData.eqv x y)))
theorem eqA_dd : eqA (.d (.list xs)) (.d (.list ys)) Q = eqL (.list xs) (.list ys) Q := rfl
theorem eqA_tt : eqA (.d (.tuple xs)) (.d (.tuple ys)) Q = eqL (.tuple xs) (.tuple ys) Q := rfl
theorem eqA_do : eqA (.d (.list xs)) (.own ys) Q = eqL (.list xs) (.list ys) Q := rfl
theorem eqA_od : eqA (.own xs) (.d (.list ys)) Q = eqL (.list xs) (.list ys) Q := rfl
theorem eqA_oo : eqA (.own xs) (.own ys) Q = eqL (.list xs) (.list ys) Q := rfl
theorem eqA_bo : eqA (.bor n xs) (.own ys) Q = eqL (.list xs) (.list ys) Q := rfl
theorem eqA_ob : eqA (.own xs) (.bor n ys) Q = eqL (.list xs) (.list ys) Q := rfl
theorem eqA_bd : eqA (.bor n xs) (.d (.list ys)) Q = eqL (.list xs) (.list ys) Q := rfl
theorem eqA_db : eqA (.d (.list xs)) (.bor n ys) Q = eqL (.list xs) (.list ys) Q := rfl
theorem eqA_bb : eqA (.bor m xs) (.bor n ys) Q = eqL (.list xs) (.list ys) Q := rfl
theorem neA_dd : neA (.d (.list xs)) (.d (.list ys)) Q = neL (.list xs) (.list ys) Q := rfl
theorem neA_tt : neA (.d (.tuple xs)) (.d (.tuple ys)) Q = neL (.tuple xs) (.tuple ys) Q := rfl
theorem neA_do : neA (.d (.list xs)) (.own ys) Q = neL (.list xs) (.list ys) Q := rfl
theorem neA_od : neA (.own xs) (.d (.list ys)) Q = neL (.list xs) (.list ys) Q := rfl
theorem neA_oo : neA (.own xs) (.own ys) Q = neL (.list xs) (.list ys) Q := rfl
theorem neA_bo : neA (.bor n xs) (.own ys) Q = neL (.list xs) (.list ys) Q := rfl
theorem neA_ob : neA (.own xs) (.bor n ys) Q = neL (.list xs) (.list ys) Q := rfl
theorem neA_bd : neA (.bor n xs) (.d (.list ys)) Q = neL (.list xs) (.list ys) Q := rfl
theorem neA_db : neA (.d (.list xs)) (.bor n ys) Q = neL (.list xs) (.list ys) Q := rfl
theorem neA_bb : neA (.bor m xs) (.bor n ys) Q = neL (.list xs) (.list ys) Q := rfl
def isK (o : Option Bool) (K : Bool → Prop) : Prop := match o with
  | some k => K k
  | none => False
theorem isA_n (a : A) : isA a (.d .none) Q = optK (isN a) fun k => Q (.d (.bool k)) := by unfold isA optK; cases isN a <;> rfl
theorem notA_n (a : A) : notA a (.d .none) Q = optK (isN a) fun k => Q (.d (.bool (!k))) := by unfold notA optK; cases isN a <;> rfl
theorem isN_none : isN (.d .none) = some true := rfl
theorem isN_int : isN (.d (.int i)) = some false := rfl
theorem isN_str : isN (.d (.str s)) = some false := rfl
theorem isN_bool (b) : isN (.d (.bool b)) = some false := rfl
theorem isN_list : isN (.d (.list xs)) = some false := rfl
theorem isN_tup : isN (.d (.tuple xs)) = some false := rfl
theorem isN_own : isN (.own xs) = some false := rfl
theorem isN_bor : isN (.bor n xs) = some false := rfl
/-- x in a list -/
def inL (neg : Bool) (x : PyData) (ds : List PyData) (Q : A → Prop) : Prop := SeqAt.shaped x = true ∧ SeqAt.shaped (.list ds) = true ∧ Q (.d (.bool (if neg then !(ds.any fun z => PyData.eqv z x) else ds.any fun z => PyData.eqv z x)))
theorem inA_dd (neg) (x) : inA neg (.d x) (.d (.list ys)) Q = inL neg x ys Q := by cases x <;> rfl
theorem inA_do (neg) (x) : inA neg (.d x) (.own ys) Q = inL neg x ys Q := by cases x <;> rfl
theorem inA_db (neg) (x) : inA neg (.d x) (.bor n ys) Q = inL neg x ys Q := by cases x <;> rfl
theorem inA_od (neg) : inA neg (.own xs) (.d (.list ys)) Q = inL neg (.list xs) ys Q := rfl
theorem inA_bd (neg) : inA neg (.bor n xs) (.d (.list ys)) Q = inL neg (.list xs) ys Q := rfl
theorem inA_bb (neg) : inA neg (.bor n xs) (.bor m ys) Q = inL neg (.list xs) ys Q := rfl
theorem inA_tup (neg) : inA neg (.d (.int i)) (.d (.tuple ys)) Q = ∃ ns : List Int, ys = ns.map PyData.int ∧ Q (.d (.bool (if neg then !decide (i ∈ ns) else decide (i ∈ ns)))) := rfl
theorem ixA_d : ixA (.d (.list xs)) (.d (.int i)) Q = ∃ x, atI xs i = some x ∧ Q (.d x) := rfl
theorem ixA_t : ixA (.d (.tuple xs)) (.d (.int i)) Q = ∃ x, atI xs i = some x ∧ Q (.d x) := rfl
theorem ixA_kt : ixA (.k (.tuple xs)) (.d (.int i)) Q = ∃ x, atI xs i = some x ∧ Q (kA x) := rfl
theorem ixA_kl : ixA (.k (.list xs)) (.d (.int i)) Q = ∃ x, atI xs i = some x ∧ Q (kA x) := rfl
theorem lenA_k : lenA [.k (.tuple xs)] Q = Q (.d (.int xs.length)) := rfl
theorem listA_k : listA [.k (.tuple xs)] Q = ∃ ns : List Int, xs = ns.map PyData.int ∧ Q (.own xs) := rfl
theorem kA_i : kA (.int i) = .d (.int i) := rfl
theorem kA_l : kA (.list xs) = .k (.list xs) := rfl
theorem kA_t : kA (.tuple xs) = .k (.tuple xs) := rfl
theorem e_callF (spec : Spc) (wa : WA) (ρ : List A) (Q : A → Prop) : wCallF spec wa ρ Q = wa ρ fun rs => optK (fzs rs) fun as => as.all frOk = true ∧ spec as fun r => frR r Q := by
  unfold wCallF optK
  congr 1
  funext r
  cases fzs r <;> rfl
theorem frR_d (x : PyData) : frR (.d x) Q = Q (.fr x) := rfl
theorem frR_o (x : List PyData) : frR (.own x) Q = Q (.fr (.list x)) := rfl
theorem frOk_y (m k) : frOk (.yard m k) = true := rfl
theorem frOk_i (i) : frOk (.d (.int i)) = true := rfl
theorem ixA_o : ixA (.own xs) (.d (.int i)) Q = ∃ x, atI xs i = some x ∧ Q (.d x) := rfl
theorem ixA_b : ixA (.bor n xs) (.d (.int i)) Q = ∃ x, atI xs i = some x ∧ Q (.d x) := rfl
theorem slA_d (lo hi) : slA (.d (.list xs)) lo hi Q = Q (.own (cutD xs lo hi)) := rfl
theorem slA_o (lo hi) : slA (.own xs) lo hi Q = Q (.own (cutD xs lo hi)) := rfl
theorem slA_b (lo hi) : slA (.bor n xs) lo hi Q = Q (.own (cutD xs lo hi)) := rfl
theorem slA_t (lo hi) : slA (.d (.tuple xs)) lo hi Q = (¬ (HT.sIx xs.length 0 lo = 0 ∧ HT.sIx xs.length xs.length hi = xs.length) ∧ Q (.d (.tuple (cutD xs lo hi)))) := rfl
theorem lenA_d : lenA [.d (.list xs)] Q = Q (.d (.int xs.length)) := rfl
theorem lenA_t : lenA [.d (.tuple xs)] Q = Q (.d (.int xs.length)) := rfl
theorem lenA_o : lenA [.own xs] Q = Q (.d (.int xs.length)) := rfl
theorem lenA_b : lenA [.bor n xs] Q = Q (.d (.int xs.length)) := rfl
theorem lenA_s : lenA [.d (.str s)] Q = (s.length ≤ sizeLine ∧ Q (.d (.int s.length))) := rfl
theorem listA_d : listA [.d (.list xs)] Q = Q (.own xs) := rfl
theorem listA_t : listA [.d (.tuple xs)] Q = Q (.own xs) := rfl
theorem listA_o : listA [.own xs] Q = Q (.own xs) := rfl
theorem listA_b : listA [.bor n xs] Q = Q (.own xs) := rfl
theorem tupleA_d : tupleA [.d (.list xs)] Q = Q (.d (.tuple xs)) := rfl
theorem tupleA_t : tupleA [.d (.tuple xs)] Q = Q (.d (.tuple xs)) := rfl
theorem tupleA_o : tupleA [.own xs] Q = Q (.d (.tuple xs)) := rfl
theorem tupleA_b : tupleA [.bor n xs] Q = Q (.d (.tuple xs)) := rfl
theorem intA_i : intA [.d (.int i)] Q = Q (.d (.int i)) := rfl
theorem intA_b (b) : intA [.d (.bool b)] Q = Q (.d (.int (if b then 1 else 0))) := rfl
theorem minA_i : minA [.d (.int i), .d (.int j)] Q = Q (.d (.int (if j < i then j else i))) := rfl
theorem maxA_i : maxA [.d (.int i), .d (.int j)] Q = Q (.d (.int (if j > i then j else i))) := rfl
def sortK (xs : List PyData) (Q : A → Prop) : Prop := ∃ ns : List Int, xs = ns.map PyData.int ∧ ns.length < 64 ∧ ∀ ms : List Int, ms.Perm ns → ms.Pairwise (· ≤ ·) → Q (.own (ms.map PyData.int))
theorem sortA_d : sortA [.d (.list xs)] Q = sortK xs Q := rfl
theorem sortA_o : sortA [.own xs] Q = sortK xs Q := rfl
theorem sortA_b : sortA [.bor n xs] Q = sortK xs Q := rfl
theorem toD_d (x) : toD (.d x) = some x := rfl
theorem toD_o : toD (.own xs) = some (.list xs) := rfl
def consO {α : Type} (a : Option α) (b : Option (List α)) : Option (List α) := match a, b with
  | some d, some ds => some (d :: ds)
  | _, _ => none
theorem consO_s {α : Type} (a : α) (b : List α) : consO (some a) (some b) = some (a :: b) := rfl
theorem allD_nil : allD [] = some [] := rfl
theorem allD_cons (a as) : allD (a :: as) = consO (toD a) (allD as) := by
  rw [allD]; unfold consO; cases toD a <;> cases allD as <;> rfl
theorem fzs_nil : fzs [] = some [] := rfl
theorem fzs_cons (a as) : fzs (a :: as) = consO (fz a) (fzs as) := by
  rw [fzs]; unfold consO; cases fz a <;> cases fzs as <;> rfl
theorem fz_d (x) : fz (.d x) = some (.d x) := rfl
theorem fz_o : fz (.own xs) = some (.d (.list xs)) := rfl
theorem fz_y (m k) : fz (.yard m k) = some (.yard m k) := rfl
theorem fz_x : fz .box = some .box := rfl
theorem fz_r (v) : fz (.raw v) = some (.raw v) := rfl
theorem scal_i : scalA (.d (.int i)) = true := rfl
theorem scal_b (b) : scalA (.d (.bool b)) = true := rfl
theorem scal_n : scalA (.d .none) = true := rfl
theorem scal_s : scalA (.d (.str s)) = true := rfl
end
theorem e_startA (n : Nat) (as : List A) : startA n as = as ++ List.replicate (n - as.length) .un := rfl
end Yd

/-! YdH: sorted of a list of tuples of ints. -/
namespace Yd
open PySem L2

def igV : V → Int
  | .int i => i
  | _ => 0
def tgV (F : Hp) : V → List Int
  | .ref p => match F p with
    | some (.tup ws) => ws.map igV
    | _ => []
  | _ => []
theorem igV_map (t : List Int) : (t.map V.int).map igV = t := by
  rw [List.map_map]
  have : (igV ∘ V.int) = id := by funext i; rfl
  rw [this, List.map_id]
theorem Rp.tup_ints {F : Hp} {v : V} {t : List Int} (h : Rp F v (intsD t)) : ∃ p, v = .ref p ∧ F p = some (.tup (t.map V.int)) ∧ tgV F v = t := by
  cases (show Rp F v (.tuple (t.map PyData.int)) from h) with
  | @tup p ws _ f l =>
    have e := l.of_ints
    subst e
    refine ⟨p, rfl, f, ?_⟩
    show (match F p with
      | some (.tup ws) => ws.map igV
      | _ => []) = t
    rw [f]
    exact igV_map t
theorem RpL.tg {F : Hp} : ∀ {ts : List (List Int)} {vs : List V}, RpL F vs (ts.map intsD) → vs.map (tgV F) = ts
  | [], _, h => by cases h; rfl
  | t :: ts, _, h => by
    cases h with
    | cons h1 h2 =>
      obtain ⟨p, _, _, e⟩ := h1.tup_ints
      rw [List.map_cons, e, RpL.tg h2]
theorem RpL.mem_tg {F : Hp} : ∀ {ts : List (List Int)} {vs : List V}, RpL F vs (ts.map intsD) → ∀ v ∈ vs, tgV F v ∈ ts ∧ Rp F v (intsD (tgV F v))
  | [], _, h, v, hv => by cases h; simp at hv
  | t :: ts, _, h, v, hv => by
    cases h with
    | cons h1 h2 =>
      rcases List.mem_cons.mp hv with z | z
      · subst z
        obtain ⟨p, _, _, e⟩ := h1.tup_ints
        rw [e]
        exact ⟨List.mem_cons_self, h1⟩
      · obtain ⟨q1, q2⟩ := RpL.mem_tg h2 v z
        exact ⟨List.mem_cons_of_mem _ q1, q2⟩
theorem RpL.of_tg {F : Hp} : ∀ {vs : List V}, (∀ v ∈ vs, Rp F v (intsD (tgV F v))) → RpL F vs ((vs.map (tgV F)).map intsD)
  | [], _ => .nil
  | v :: vs, h => .cons (h v List.mem_cons_self) (RpL.of_tg fun u hu => h u (List.mem_cons_of_mem _ hu))
section
variable {Γ : Gm} {K : PySem.W.Frag}
theorem snd_sortT {d : Nat} {B : Int} : SndC Γ (rSortU K d B) (sortTA d B) := by
  intro ρ σ F H F1 H1 xs as Q K0 m m1 s ra h k
  unfold sortTA at h
  split at h
  · split at h
    · rename_i e
      obtain ⟨ts, rfl, h64, hd, h⟩ := h
      cases ra with
      | cons r1 t => cases t with
        | nil =>
          obtain ⟨p, vs, rfl, h1, l1⟩ := r1.list m1 e
          have tg := l1.tg
          have tupI : ∀ v ∈ vs, TupI K H1 v (tgV F1 v) := fun v hv => by
            obtain ⟨q, e1, e2, _⟩ := (l1.mem_tg v hv).2.tup_ints
            exact ⟨q, e1, SqT.of (m1.fh _ _ e2)⟩
          refine ⟨p, vs, rfl, SqL.of h1, by rw [l1.length, List.length_map]; exact h64, fun x hx => ⟨tgV F1 x, tupI x hx, hd _ (l1.mem_tg x hx).1⟩, fun ys t hp hw ht => ?_⟩
          have s2 := Stp.new0 (o := .lst ys) m1.fh m1.gi m1.st.box ht
          have hy : ∀ v ∈ ys, v ∈ vs := fun v hv => hp.mem_iff.mp hv
          refine k _ _ _ (.own _) (s.trans m.gi s2) ⟨t, _, rfl, s.none_back ht, m1.fh.free ht, upd_same, RpL.of_tg fun v hv => (l1.mem_tg v (hy v hv)).2⟩ (h (ys.map (tgV F1)) ?_ ?_)
          · have := hp.map (tgV F1)
            rw [tg] at this
            exact this
          · rw [List.pairwise_map]
            exact List.Pairwise.imp_of_mem (fun {a b} ha hb r => r _ _ (tupI a (hy a ha)) (tupI b (hy b hb))) hw
    · exact h.elim
  · exact h.elim
end
section
variable {X : Cx} {Γ : Gm} {e : Expr} {es : List Expr} {tA : TA} {wA : WA} {pos p : Pos}
theorem pd_sortT {K : PySem.W.Frag} {d : Nat} {B : Int} (hd : 1 ≤ d) (hm : X.mg "sorted" = none) (ha : PDA X Γ (e :: es) tA wA) (hg : Gl X "sorted" := by rfl) (he : starEach (e :: es) X.env = (false, eval e X.env) :: starEach es X.env := by rfl) (hpl : (backTo pos (starEach es X.env)).any (·.1) = false := by rfl) (hK : X.K = K := by rfl) :
    PD X Γ (.Call (.Name "sorted" p) (e :: es) [] pos) (tCB (rSortU K d B) tA) (wCB (sortTA d B) wA) := by
  subst hK
  exact pd_cb (cr_sortT hd) (snd_sortT (K := X.K)) hm boot_sorted' ha hg (by decide) (by decide) he hpl
end
def sortTK (d : Nat) (B : Int) (xs : List PyData) (Q : A → Prop) : Prop := ∃ ts : List (List Int), xs = ts.map intsD ∧ ts.length < 64 ∧ (∀ t ∈ ts, t.length = d ∧ TS.Bd B t) ∧ ∀ us : List (List Int), us.Perm ts → us.Pairwise (fun x y => TS.code B x ≤ TS.code B y) → Q (.own (us.map intsD))
section
variable (d : Nat) (B : Int) (xs : List PyData) (n : Nat) (Q : A → Prop)
theorem sortTA_d : sortTA d B [.d (.list xs)] Q = sortTK d B xs Q := rfl
theorem sortTA_o : sortTA d B [.own xs] Q = sortTK d B xs Q := rfl
theorem sortTA_b : sortTA d B [.bor n xs] Q = sortTK d B xs Q := rfl
end

/-! ### isinstance -/
def isiK (t n : String) (Q : A → Prop) : Prop := ∃ b, kitB t n = some b ∧ Q (.bl b)
def isiA (as : List A) (Q : A → Prop) : Prop := match as with
  | [a, .raw (.ty n)] => (match tyD a with
    | some t => isiK t n Q
    | none => False)
  | _ => False
theorem isiK_eq {t n : String} {b : Bool} (h : kitB t n = some b) (Q : A → Prop) : isiK t n Q = Q (.bl b) := by
  unfold isiK
  rw [h]
  apply propext
  constructor
  · rintro ⟨c, e, q⟩
    cases e
    exact q
  · exact fun q => ⟨_, rfl, q⟩
section
variable {Γ : Gm} {K : PySem.W.Frag}
theorem snd_isi : SndC Γ (rIsi K) isiA := by
  intro ρ σ F H F1 H1 xs as Q K0 m m1 s ra h k
  unfold isiA at h
  split at h
  · rename_i a n
    split at h
    · rename_i t e
      obtain ⟨b, kb, q⟩ := h
      cases ra with
      | cons r1 t1 =>
      cases t1 with
      | cons r2 t2 =>
      cases t2
      rename_i v u
      have e2 : u = .ty n := r2
      subst e2
      refine ⟨v, .ty n, .type t, .type n, b, rfl, .ty n, ?_, kit_ty kb, k F1 H1 _ (.bl b) s (Rp.bl _) q⟩
      cases a with
      | d x =>
        have r : Rp F1 v x := r1
        cases x with
        | none => cases e; cases r; exact .base .non
        | bool _ => cases e; cases r; exact .base (.bl _)
        | int _ => cases e; cases r; exact .base (.int _)
        | str _ => cases e; cases r; exact .base (.str _)
        | list _ =>
          cases e
          cases r with
          | lst ha _ => exact .base (.lst (m1.fh _ _ ha))
        | tuple _ =>
          cases e
          cases r with
          | tup ha _ => exact .base (.tup (m1.fh _ _ ha))
        | dict _ => cases e
      | own ys =>
        cases e
        obtain ⟨p, vs, rfl, h1, _⟩ := r1.list m1 (xs := ys) rfl
        exact .base (.lst h1)
      | bor i ys =>
        cases e
        obtain ⟨p, vs, rfl, h1, _⟩ := r1.list m1 (xs := ys) rfl
        exact .base (.lst h1)
      | _ => cases e
    · exact h.elim
  · exact h.elim
end
section
variable {X : Cx} {Γ : Gm} {e : Expr} {es : List Expr} {tA : TA} {wA : WA} {pos p : Pos}
theorem boot_isi : bootBuiltins "isinstance" = some (.builtin "isinstance") := by decide +kernel
theorem pd_isinstance {K : PySem.W.Frag} (hm : X.mg "isinstance" = none) (ha : PDA X Γ (e :: es) tA wA) (hg : Gl X "isinstance" := by rfl) (he : starEach (e :: es) X.env = (false, eval e X.env) :: starEach es X.env := by rfl) (hpl : (backTo pos (starEach es X.env)).any (·.1) = false := by rfl) (hK : X.K = K := by rfl) :
    PD X Γ (.Call (.Name "isinstance" p) (e :: es) [] pos) (tCB (rIsi K) tA) (wCB isiA wA) := by
  subst hK
  exact pd_cb call_isi (snd_isi (K := X.K)) hm boot_isi ha hg (by decide) (by decide) he hpl
theorem pd_ty {x : Str} {n : String} (hm : X.mg x = none) (hv : bootBuiltins x = some (.type n)) (hg : Gl X x := by rfl) (hn : x ≠ "__name__" := by decide) (hd : (x == ("__debug__" : Str)) = false := by decide) : PD X Γ (.Name x pos) (tC (.ty n)) (wC (.raw (.ty n))) := ⟨pe_bltn (v := .ty n) hg hm hv rfl hn hd, sd_raw⟩
theorem boot_bool' : bootBuiltins "bool" = some (.type "bool") := by decide +kernel
theorem boot_str' : bootBuiltins "str" = some (.type "str") := by decide +kernel
end
section
variable (Q : A → Prop)
theorem isi_nonetype_bool : isiA [.d .none, .raw (.ty "bool")] Q = Q (.bl false) := isiK_eq (by decide +kernel) Q
theorem isi_nonetype_int : isiA [.d .none, .raw (.ty "int")] Q = Q (.bl false) := isiK_eq (by decide +kernel) Q
theorem isi_nonetype_str : isiA [.d .none, .raw (.ty "str")] Q = Q (.bl false) := isiK_eq (by decide +kernel) Q
theorem isi_nonetype_tuple : isiA [.d .none, .raw (.ty "tuple")] Q = Q (.bl false) := isiK_eq (by decide +kernel) Q
theorem isi_nonetype_list : isiA [.d .none, .raw (.ty "list")] Q = Q (.bl false) := isiK_eq (by decide +kernel) Q
theorem isi_bool_bool (c : Bool) : isiA [.d (.bool c), .raw (.ty "bool")] Q = Q (.bl true) := isiK_eq (by decide +kernel) Q
theorem isi_bool_int (c : Bool) : isiA [.d (.bool c), .raw (.ty "int")] Q = Q (.bl true) := isiK_eq (by decide +kernel) Q
theorem isi_bool_str (c : Bool) : isiA [.d (.bool c), .raw (.ty "str")] Q = Q (.bl false) := isiK_eq (by decide +kernel) Q
theorem isi_bool_tuple (c : Bool) : isiA [.d (.bool c), .raw (.ty "tuple")] Q = Q (.bl false) := isiK_eq (by decide +kernel) Q
theorem isi_bool_list (c : Bool) : isiA [.d (.bool c), .raw (.ty "list")] Q = Q (.bl false) := isiK_eq (by decide +kernel) Q
theorem isi_int_bool (i : Int) : isiA [.d (.int i), .raw (.ty "bool")] Q = Q (.bl false) := isiK_eq (by decide +kernel) Q
theorem isi_int_int (i : Int) : isiA [.d (.int i), .raw (.ty "int")] Q = Q (.bl true) := isiK_eq (by decide +kernel) Q
theorem isi_int_str (i : Int) : isiA [.d (.int i), .raw (.ty "str")] Q = Q (.bl false) := isiK_eq (by decide +kernel) Q
theorem isi_int_tuple (i : Int) : isiA [.d (.int i), .raw (.ty "tuple")] Q = Q (.bl false) := isiK_eq (by decide +kernel) Q
theorem isi_int_list (i : Int) : isiA [.d (.int i), .raw (.ty "list")] Q = Q (.bl false) := isiK_eq (by decide +kernel) Q
theorem isi_str_bool (z : Str) : isiA [.d (.str z), .raw (.ty "bool")] Q = Q (.bl false) := isiK_eq (by decide +kernel) Q
theorem isi_str_int (z : Str) : isiA [.d (.str z), .raw (.ty "int")] Q = Q (.bl false) := isiK_eq (by decide +kernel) Q
theorem isi_str_str (z : Str) : isiA [.d (.str z), .raw (.ty "str")] Q = Q (.bl true) := isiK_eq (by decide +kernel) Q
theorem isi_str_tuple (z : Str) : isiA [.d (.str z), .raw (.ty "tuple")] Q = Q (.bl false) := isiK_eq (by decide +kernel) Q
theorem isi_str_list (z : Str) : isiA [.d (.str z), .raw (.ty "list")] Q = Q (.bl false) := isiK_eq (by decide +kernel) Q
theorem isi_list_bool (l : List PyData) : isiA [.d (.list l), .raw (.ty "bool")] Q = Q (.bl false) := isiK_eq (by decide +kernel) Q
theorem isi_list_int (l : List PyData) : isiA [.d (.list l), .raw (.ty "int")] Q = Q (.bl false) := isiK_eq (by decide +kernel) Q
theorem isi_list_str (l : List PyData) : isiA [.d (.list l), .raw (.ty "str")] Q = Q (.bl false) := isiK_eq (by decide +kernel) Q
theorem isi_list_tuple (l : List PyData) : isiA [.d (.list l), .raw (.ty "tuple")] Q = Q (.bl false) := isiK_eq (by decide +kernel) Q
theorem isi_list_list (l : List PyData) : isiA [.d (.list l), .raw (.ty "list")] Q = Q (.bl true) := isiK_eq (by decide +kernel) Q
theorem isi_tuple_bool (l : List PyData) : isiA [.d (.tuple l), .raw (.ty "bool")] Q = Q (.bl false) := isiK_eq (by decide +kernel) Q
theorem isi_tuple_int (l : List PyData) : isiA [.d (.tuple l), .raw (.ty "int")] Q = Q (.bl false) := isiK_eq (by decide +kernel) Q
theorem isi_tuple_str (l : List PyData) : isiA [.d (.tuple l), .raw (.ty "str")] Q = Q (.bl false) := isiK_eq (by decide +kernel) Q
theorem isi_tuple_tuple (l : List PyData) : isiA [.d (.tuple l), .raw (.ty "tuple")] Q = Q (.bl true) := isiK_eq (by decide +kernel) Q
theorem isi_tuple_list (l : List PyData) : isiA [.d (.tuple l), .raw (.ty "list")] Q = Q (.bl false) := isiK_eq (by decide +kernel) Q
end
theorem shaped_bl (b : Bool) : SeqAt.shaped (.bool b) = true := by cases b <;> rfl
theorem eqA_bl (a b : Bool) (Q : A → Prop) : eqA (.d (.bool a)) (.d (.bool b)) Q = Q (.bl (decide (a = b))) := by
  have e : PyData.eqv (.bool a) (.bool b) = decide (a = b) := by cases a <;> cases b <;> decide
  show (SeqAt.shaped (.bool a) = true ∧ SeqAt.shaped (.bool b) = true ∧ Q (.bl (PyData.eqv (.bool a) (.bool b)))) = _
  rw [shaped_bl, shaped_bl, e]
  simp
theorem neA_bl (a b : Bool) (Q : A → Prop) : neA (.d (.bool a)) (.d (.bool b)) Q = Q (.bl (!decide (a = b))) := by
  have e : PyData.eqv (.bool a) (.bool b) = decide (a = b) := by cases a <;> cases b <;> decide
  show (SeqAt.shaped (.bool a) = true ∧ SeqAt.shaped (.bool b) = true ∧ Q (.bl (!PyData.eqv (.bool a) (.bool b)))) = _
  rw [shaped_bl, shaped_bl, e]
  simp

/-! ### a list within what stands by itself is cleared: the whole is forgotten -/
theorem M.forget {Γ : Gm} {F : Hp} {ρ : List A} {σ : St} {H : Hp} (m : M Γ F ρ σ H) {a : Addr} (o : HO) (n1 : F a = none) (n2 : Γ.H a = none) (n3 : ¬ isBox Γ.G a) (n4 : ∀ j, ¬ ownAt ρ σ j a) : M Γ F (Yd.unfr ρ) σ (upd H a o) := by
  have m1 := m.unfr
  refine ⟨⟨m.st.ff, fun b u q => ?_, m.gi.upd n3, fun b u q nb => ?_, m.st.new, m.st.box⟩, m.gi0, m1.len, fun i x y h1 h2 => ?_, m1.dj, fun i x h1 => ?_⟩
  · rw [upd_ne (ne_of_none q n1)]; exact m.fh b u q
  · rw [upd_ne (ne_of_none q n2)]; exact m.st.keep b u q nb
  · have q := m1.sl i x y h1 h2
    cases x with
    | own xs =>
      obtain ⟨p, vs, rfl, q1, q2⟩ := q
      have ne : p ≠ a := fun z => n4 i (by subst z; exact unfr_own ⟨⟨xs, h1⟩, h2⟩)
      exact ⟨p, vs, rfl, by rw [upd_ne ne]; exact q1, q2⟩
    | dct ks ds =>
      obtain ⟨b, _, e2⟩ := unfr_get h1
      cases b <;> cases e2
    | dtt ks =>
      obtain ⟨b, _, e2⟩ := unfr_get h1
      cases b <;> cases e2
    | lt ks =>
      obtain ⟨b, _, e2⟩ := unfr_get h1
      cases b <;> cases e2
    | _ => exact q
  · obtain ⟨b, e, e2⟩ := unfr_get h1
    cases b <;> cases e2
theorem M.drop {Γ : Gm} {F : Hp} {ρ : List A} {σ : St} {H : Hp} (m : M Γ F ρ σ H) (i : Nat) (nf : ∀ (j : Nat) (x : PyData), ρ[j]? ≠ some (.fr x)) : M Γ F (ρ.set i .un) σ H := by
  have back : ∀ {j : Nat} {a : A}, (ρ.set i .un)[j]? = some a → a = .un ∨ ρ[j]? = some a := fun {j a} h => by
    by_cases hj : i = j
    · subst hj
      obtain ⟨z1, e1⟩ := List.getElem?_eq_some_iff.mp h
      rw [List.getElem_set_self] at e1
      exact .inl e1.symm
    · rw [List.getElem?_set_ne hj] at h
      exact .inr h
  have own : ∀ {j : Nat} {p : Addr}, ownAt (ρ.set i .un) σ j p → ownAt ρ σ j p := fun {j p} ⟨⟨xs, h1⟩, h2⟩ => by
    rcases back h1 with z | z
    · cases z
    · exact ⟨⟨xs, z⟩, h2⟩
  refine ⟨m.st, m.gi0, by simp [m.len], fun j a o h1 h2 => ?_, fun j k p h1 h2 => m.dj j k p (own h1) (own h2), fun j x h1 => ?_⟩
  · rcases back h1 with rfl | z
    · trivial
    · exact m.sl j a o z h2
  · rcases back h1 with z | z
    · cases z
    · exact (nf j x z).elim
def wClrIx (i : Nat) (k : Int) : WS := fun ρ P => match ρ[i]? with
  | some (.fr d) => ∃ ds ys, (d = .tuple ds ∨ d = .list ds) ∧ atI ds k = some (.list ys) ∧ P.nx ((unfr ρ).set i .un)
  | _ => False
theorem ss_clrIx {Γ : Gm} {K : PySem.W.Frag} (i : Nat) (k : Int) : SndS Γ (tDrop (tBM0 K "list" rClear (tOp (rIx K) (tVar i) (tC (.int k))))) (wClrIx i k) := fun ρ P F σ H D m h kk => by
  unfold wClrIx at h
  split at h
  · rename_i d e
    obtain ⟨ds, ys, hd, ea, hP⟩ := h
    obtain ⟨v, Fs, ev, r, ss, n⟩ := m.fr i d e
    have fin : ∀ {vs : List V}, RpL Fs vs ds → ∃ a ws, atI vs k = some (.ref a) ∧ H a = some (.lst ws) ∧ D.nx σ (upd H a (.lst [])) := fun {vs} l => by
      obtain ⟨u, e1, r1⟩ := l.at ea
      cases r1 with
      | @lst a ws _ f1 _ =>
        obtain ⟨n1, n2, n3, n4⟩ := n a (by rw [f1]; simp)
        refine ⟨a, ws, e1, ss _ _ f1, kk.nx F σ _ _ (Same.refl _) ?_ hP⟩
        exact (m.forget (.lst []) n1 n2 n3 n4).drop i fun j x hx => by
          obtain ⟨b, e, e2⟩ := unfr_get hx
          cases b <;> cases e2
    rcases hd with rfl | rfl
    · cases r with
      | @tup p vs _ f1 l1 =>
        obtain ⟨a, ws, e1, e2, q⟩ := fin l1
        exact ⟨_, ev, .inr (.inl ⟨p, vs, k, _, rfl, rfl, SqT.of (ss _ _ f1), e1, ty_list e2, a, ws, rfl, rfl, e2, q⟩)⟩
    · cases r with
      | @lst p vs _ f1 l1 =>
        obtain ⟨a, ws, e1, e2, q⟩ := fin l1
        exact ⟨_, ev, .inl ⟨p, vs, k, _, rfl, rfl, SqL.of (ss _ _ f1), e1, ty_list e2, a, ws, rfl, rfl, e2, q⟩⟩
  · exact h.elim
theorem ps_clrIx {X : Cx} {Γ : Gm} {K : PySem.W.Frag} {o e : Expr} {i : Nat} {k : Int} {pos p p2 apos : Pos} (hv : PD X Γ o (tVar i) (wName i)) (he : PD X Γ e (tC (.int k)) (wC (.int k))) (hs : swapsWith (.Call (.Attribute (.Subscript o e p2) "clear" apos) [] [] p) none pos.line X.env = pure false := by rfl)
    (hbase : attributeBase (.Subscript o e p2) "clear" X.env (eval (.Subscript o e p2) X.env) = eval (.Subscript o e p2) X.env := by rfl) (hline : (apos.endLine == p.line) = true := by rfl) (hpx : PlainIx e := by exact fun _ _ => rfl) (hK : X.K = K := by rfl) :
    PDS X Γ (.Expr (.Call (.Attribute (.Subscript o e p2) "clear" apos) [] [] p) pos) (tDrop (tBM0 K "list" rClear (tOp (rIx K) (tVar i) (tC (.int k))))) (wClrIx i k) := by
  subst hK
  exact ⟨ps_expr (pe_bm0 PySem.F.plainAttrs_list PySem.F.slot_list_clear PySem.F.type_list_clear mt_clear (pe_ix ix_seq hv.pe he.pe hpx) hbase hline) hs, ss_clrIx i k⟩
def clrK (i : Nat) (k : Int) (o : Option A) (ρ : List A) (P : Po) : Prop := match o with
  | some (.fr d) => ∃ ds ys, (d = .tuple ds ∨ d = .list ds) ∧ atI ds k = some (.list ys) ∧ P.nx ((unfr ρ).set i .un)
  | _ => False
theorem e_clrIx (i : Nat) (k : Int) (ρ : List A) (P : Po) : wClrIx i k ρ P = clrK i k (ρ[i]?) ρ P := by unfold wClrIx clrK; rfl
theorem clrK_fr (i : Nat) (k : Int) (d : PyData) (ρ : List A) (P : Po) : clrK i k (some (.fr d)) ρ P = ∃ ds ys, (d = .tuple ds ∨ d = .list ds) ∧ atI ds k = some (.list ys) ∧ P.nx ((unfr ρ).set i .un) := rfl

/-! ### is True, is False -/
def isBA (neg : Bool) (a b : A) (Q : A → Prop) : Prop := match a, b with
  | .d (.bool x), .d (.bool y) => Q (.bl (if neg then !decide (x = y) else decide (x = y)))
  | _, _ => False
theorem isBA_bl (neg x y : Bool) (Q : A → Prop) : isBA neg (.d (.bool x)) (.d (.bool y)) Q = Q (.bl (if neg then !decide (x = y) else decide (x = y))) := rfl
section
variable {X : Cx} {Γ : Gm} {a b : Expr} {ta tb : TE} {wa wb : WE} {pos : Pos}
theorem snd_isB : SndR Γ rIsB (isBA false) := by
  intro ρ σ F H F1 H1 x y a b Q K0 m m1 s ra rb h k
  unfold isBA at h
  split at h
  · cases (show Rp F1 x (.bool _) from ra)
    cases (show Rp F1 y (.bool _) from rb)
    exact ⟨_, _, rfl, rfl, k F1 H1 _ (.bl _) s (Rp.bl _) h⟩
  · exact h.elim
theorem snd_notB : SndR Γ rNotB (isBA true) := by
  intro ρ σ F H F1 H1 x y a b Q K0 m m1 s ra rb h k
  unfold isBA at h
  split at h
  · cases (show Rp F1 x (.bool _) from ra)
    cases (show Rp F1 y (.bool _) from rb)
    exact ⟨_, _, rfl, rfl, k F1 H1 _ (.bl _) s (Rp.bl _) h⟩
  · exact h.elim
theorem pd_isB (ha : PD X Γ a ta wa) (hb : PD X Γ b tb wb) : PD X Γ (.Compare a [.Is] [b] pos) (tOp rIsB ta tb) (wOp (isBA false) wa wb) := pd_cmp op_isBl snd_isB (nomark _) ha hb
theorem pd_notB (ha : PD X Γ a ta wa) (hb : PD X Γ b tb wb) : PD X Γ (.Compare a [.IsNot] [b] pos) (tOp rNotB ta tb) (wOp (isBA true) wa wb) := pd_cmp op_notBl snd_notB (nomark _) ha hb
theorem pt_isB (ha : PD X Γ a ta wa) (hb : PD X Γ b tb wb) : PDT X Γ (.Compare a [.Is] [b] pos) (tTest (tOp rIsB ta tb)) (wTest (wOp (isBA false) wa wb)) := pdt_cmp op_isBl snd_isB (nomark _) ha hb
theorem pt_notB (ha : PD X Γ a ta wa) (hb : PD X Γ b tb wb) : PDT X Γ (.Compare a [.IsNot] [b] pos) (tTest (tOp rNotB ta tb)) (wTest (wOp (isBA true) wa wb)) := pdt_cmp op_notBl snd_notB (nomark _) ha hb
end
end Yd

/-! YdZ: the facts of a text as the top leaves them: a def, a method, __init__. -/
namespace Yd
open PySem L2
section
variable {K : PySem.W.Frag} {mg : Str → Option Value} {h : Heap} {C f : Addr} {x m qual : Str} {st : Stmt} {ps : List Str} {oc : Value} {od an : Option Addr} {osl : Array (Option Value)} {kV doc pm cdv ct : Value}
theorem dfn_mk (X : K.In h) (G : h.Ns mainGlobals mg) (b : ∀ (kV doc pm : Value) (an : Option Addr) (cdv ct : Value) (us : List Value), us.length = ps.length → bindArgs (PySem.W.fnOf x x (defArgs st) (defBody st) (defScope st) .none kV doc pm an cdv ct) ⟨us, []⟩ = pure (ps.zip us))
    (a : PySem.W.nsIn K mainGlobals x = some (some (.ref f))) (l : K.lookup f = some ⟨oc, od, .func (PySem.W.fnOf x x (defArgs st) (defBody st) (defScope st) .none kV doc pm an cdv ct), osl⟩) (c : PySem.W.codeIn K cdv x = true) (k : PySem.W.keepIn K (.ref f) = true) : Dfn K mg x st ps :=
  have F := fun_mk (st := st) l c k
  ⟨f, _, F, PySem.W.mg_of X G a, F.binds (ps := ps) b⟩
theorem mfn_mk (b : ∀ (kV doc pm : Value) (an : Option Addr) (cdv ct : Value) (us : List Value), us.length = ps.length → bindArgs (PySem.W.fnOf m qual (defArgs st) (defBody st) (defScope st) .none kV doc pm an cdv ct) ⟨us, []⟩ = pure (ps.zip us))
    (a : PySem.W.findIn K (.ref C) m = some (some (.ref f))) (i : PySem.W.isFn K (.ref f) = true) (l : K.lookup f = some ⟨oc, od, .func (PySem.W.fnOf m qual (defArgs st) (defBody st) (defScope st) .none kV doc pm an cdv ct), osl⟩) (c : PySem.W.codeIn K cdv qual = true) (k : PySem.W.keepIn K (.ref f) = true) : Mfn K C m qual st ps :=
  have F := fun_mk (st := st) l c k
  ⟨f, _, F, ⟨a, i, k⟩, F.binds (ps := ps) b⟩
theorem noattr_mk {x : Str} (a : PySem.W.findIn K (.ref C) x = some none) : NoAttr K C x := a
/-- what stands of a class's __init__ -/
structure Ini (K : PySem.W.Frag) (C : Addr) (qual : Str) (st : Stmt) (ps : List Str) : Prop where
  ex : ∃ (f : Addr) (fd : FuncData), Fun K "__init__" qual st f fd ∧ Mk K C f ∧ Binds K fd ps []
theorem ini_mk (b : ∀ (kV doc pm : Value) (an : Option Addr) (cdv ct : Value) (us : List Value), us.length = ps.length → bindArgs (PySem.W.fnOf "__init__" qual (defArgs st) (defBody st) (defScope st) .none kV doc pm an cdv ct) ⟨us, []⟩ = pure (ps.zip us))
    (mk : PySem.W.makesIn K C = true) (kc : PySem.W.keepIn K (.ref C) = true) (a : PySem.W.findIn K (.ref C) "__init__" = some (some (.ref f))) (i : PySem.W.isFn K (.ref f) = true) (l : K.lookup f = some ⟨oc, od, .func (PySem.W.fnOf "__init__" qual (defArgs st) (defBody st) (defScope st) .none kV doc pm an cdv ct), osl⟩) (c : PySem.W.codeIn K cdv qual = true) (k : PySem.W.keepIn K (.ref f) = true) : Ini K C qual st ps :=
  have F := fun_mk (st := st) l c k
  ⟨f, _, F, ⟨mk, a, i, kc⟩, F.binds (ps := ps) b⟩
end
end Yd

/-! YdW: words that are told apart. -/
namespace Yd
open PySem L2
theorem w_mark_tie : decide (("mark" : Str) = ("tie" : Str)) = false := by decide +kernel
theorem w_mark_cases : decide (("mark" : Str) = ("cases" : Str)) = false := by decide +kernel
theorem w_mark_many : decide (("mark" : Str) = ("many" : Str)) = false := by decide +kernel
theorem w_mark_none : decide (("mark" : Str) = ("none" : Str)) = false := by decide +kernel
theorem w_mark_renaming : decide (("mark" : Str) = ("renaming" : Str)) = false := by decide +kernel
theorem w_mark_apart : decide (("mark" : Str) = ("apart" : Str)) = false := by decide +kernel
theorem w_mark_turn : decide (("mark" : Str) = ("turn" : Str)) = false := by decide +kernel
theorem w_tie_mark : decide (("tie" : Str) = ("mark" : Str)) = false := by decide +kernel
theorem w_tie_cases : decide (("tie" : Str) = ("cases" : Str)) = false := by decide +kernel
theorem w_tie_many : decide (("tie" : Str) = ("many" : Str)) = false := by decide +kernel
theorem w_tie_none : decide (("tie" : Str) = ("none" : Str)) = false := by decide +kernel
theorem w_tie_renaming : decide (("tie" : Str) = ("renaming" : Str)) = false := by decide +kernel
theorem w_tie_apart : decide (("tie" : Str) = ("apart" : Str)) = false := by decide +kernel
theorem w_tie_turn : decide (("tie" : Str) = ("turn" : Str)) = false := by decide +kernel
theorem w_cases_mark : decide (("cases" : Str) = ("mark" : Str)) = false := by decide +kernel
theorem w_cases_tie : decide (("cases" : Str) = ("tie" : Str)) = false := by decide +kernel
theorem w_cases_many : decide (("cases" : Str) = ("many" : Str)) = false := by decide +kernel
theorem w_cases_none : decide (("cases" : Str) = ("none" : Str)) = false := by decide +kernel
theorem w_cases_renaming : decide (("cases" : Str) = ("renaming" : Str)) = false := by decide +kernel
theorem w_cases_apart : decide (("cases" : Str) = ("apart" : Str)) = false := by decide +kernel
theorem w_cases_turn : decide (("cases" : Str) = ("turn" : Str)) = false := by decide +kernel
theorem w_many_mark : decide (("many" : Str) = ("mark" : Str)) = false := by decide +kernel
theorem w_many_tie : decide (("many" : Str) = ("tie" : Str)) = false := by decide +kernel
theorem w_many_cases : decide (("many" : Str) = ("cases" : Str)) = false := by decide +kernel
theorem w_many_none : decide (("many" : Str) = ("none" : Str)) = false := by decide +kernel
theorem w_many_renaming : decide (("many" : Str) = ("renaming" : Str)) = false := by decide +kernel
theorem w_many_apart : decide (("many" : Str) = ("apart" : Str)) = false := by decide +kernel
theorem w_many_turn : decide (("many" : Str) = ("turn" : Str)) = false := by decide +kernel
theorem w_none_mark : decide (("none" : Str) = ("mark" : Str)) = false := by decide +kernel
theorem w_none_tie : decide (("none" : Str) = ("tie" : Str)) = false := by decide +kernel
theorem w_none_cases : decide (("none" : Str) = ("cases" : Str)) = false := by decide +kernel
theorem w_none_many : decide (("none" : Str) = ("many" : Str)) = false := by decide +kernel
theorem w_none_renaming : decide (("none" : Str) = ("renaming" : Str)) = false := by decide +kernel
theorem w_none_apart : decide (("none" : Str) = ("apart" : Str)) = false := by decide +kernel
theorem w_none_turn : decide (("none" : Str) = ("turn" : Str)) = false := by decide +kernel
theorem w_renaming_mark : decide (("renaming" : Str) = ("mark" : Str)) = false := by decide +kernel
theorem w_renaming_tie : decide (("renaming" : Str) = ("tie" : Str)) = false := by decide +kernel
theorem w_renaming_cases : decide (("renaming" : Str) = ("cases" : Str)) = false := by decide +kernel
theorem w_renaming_many : decide (("renaming" : Str) = ("many" : Str)) = false := by decide +kernel
theorem w_renaming_none : decide (("renaming" : Str) = ("none" : Str)) = false := by decide +kernel
theorem w_renaming_apart : decide (("renaming" : Str) = ("apart" : Str)) = false := by decide +kernel
theorem w_renaming_turn : decide (("renaming" : Str) = ("turn" : Str)) = false := by decide +kernel
theorem w_apart_mark : decide (("apart" : Str) = ("mark" : Str)) = false := by decide +kernel
theorem w_apart_tie : decide (("apart" : Str) = ("tie" : Str)) = false := by decide +kernel
theorem w_apart_cases : decide (("apart" : Str) = ("cases" : Str)) = false := by decide +kernel
theorem w_apart_many : decide (("apart" : Str) = ("many" : Str)) = false := by decide +kernel
theorem w_apart_none : decide (("apart" : Str) = ("none" : Str)) = false := by decide +kernel
theorem w_apart_renaming : decide (("apart" : Str) = ("renaming" : Str)) = false := by decide +kernel
theorem w_apart_turn : decide (("apart" : Str) = ("turn" : Str)) = false := by decide +kernel
theorem w_turn_mark : decide (("turn" : Str) = ("mark" : Str)) = false := by decide +kernel
theorem w_turn_tie : decide (("turn" : Str) = ("tie" : Str)) = false := by decide +kernel
theorem w_turn_cases : decide (("turn" : Str) = ("cases" : Str)) = false := by decide +kernel
theorem w_turn_many : decide (("turn" : Str) = ("many" : Str)) = false := by decide +kernel
theorem w_turn_none : decide (("turn" : Str) = ("none" : Str)) = false := by decide +kernel
theorem w_turn_renaming : decide (("turn" : Str) = ("renaming" : Str)) = false := by decide +kernel
theorem w_turn_apart : decide (("turn" : Str) = ("apart" : Str)) = false := by decide +kernel
end Yd

/-! YdQ: what a call just made is cleared. -/
namespace Yd
open PySem L2
def wClrT (e : WE) : WS := fun ρ P => e ρ fun r => match r with
  | .own _ => P.nx ρ
  | _ => False
def clrTK (r : A) (ρ : List A) (P : Po) : Prop := match r with
  | .own _ => P.nx ρ
  | _ => False
theorem e_clrT (e : WE) (ρ : List A) (P : Po) : wClrT e ρ P = e ρ fun r => clrTK r ρ P := by
  unfold wClrT clrTK
  rfl
theorem clrTK_o (xs : List PyData) (ρ : List A) (P : Po) : clrTK (.own xs) ρ P = P.nx ρ := rfl
theorem ss_clrT {Γ : Gm} {K : PySem.W.Frag} {te : TE} {we : WE} (h : SndE Γ te we) : SndS Γ (tDrop (tBM0 K "list" rClear te)) (wClrT we) := fun ρ P F σ H D m hw k =>
  h ρ _ F σ H _ m hw fun F1 H1 v r s q p => by
    split at p
    · obtain ⟨a, vs, rfl, e1, e2, e3, e4⟩ := q
      refine ⟨ty_list e3, a, vs, rfl, rfl, e3, k.nx F1 σ _ ρ s.ff (m.step ?_) p⟩
      have nb : ¬ isBox Γ.G a := fun z => m.gi.box z e1
      exact ⟨s.ff, fun b o z => by rw [upd_ne (ne_of_none z e2)]; exact s.fh b o z, s.gi.upd nb, fun b o z n => by rw [upd_ne (ne_of_none z e1)]; exact s.keep b o z n, s.new, s.box⟩
    · exact p.elim
theorem ps_clrT {X : Cx} {Γ : Gm} {o : Expr} {te : TE} {we : WE} {pos p apos : Pos} {K : PySem.W.Frag} (ho : PD X Γ o te we) (hs : swapsWith (.Call (.Attribute o "clear" apos) [] [] p) none pos.line X.env = pure false := by rfl)
    (hbase : attributeBase o "clear" X.env (eval o X.env) = eval o X.env := by rfl) (hline : (apos.endLine == p.line) = true := by rfl) (hK : X.K = K := by rfl) :
    PDS X Γ (.Expr (.Call (.Attribute o "clear" apos) [] [] p) pos) (tDrop (tBM0 K "list" rClear te)) (wClrT we) := by
  subst hK
  exact ⟨ps_expr (pe_bm0 PySem.F.plainAttrs_list PySem.F.slot_list_clear PySem.F.type_list_clear mt_clear ho.pe hbase hline) hs, ss_clrT ho.sd⟩
/-! ### if t: return False, where t never holds: the rest is asked once -/
def wGuard (wt : WT) : WS := fun ρ P => wt ρ (fun c => c = false) ∧ P.nx ρ
theorem e_guard (wt : WT) (ρ : List A) (P : Po) : wGuard wt ρ P = (wt ρ (fun c => c = false) ∧ P.nx ρ) := rfl
theorem st_false {Γ : Gm} {t : TT} {w : WT} (h : SndT Γ t w) : SndT Γ t (fun ρ Q => w ρ (fun c => c = false) ∧ Q false) := fun ρ Q F σ H K m q k =>
  h ρ (fun c => c = false) F σ H K m q.1 fun F' H' b s hb => k F' H' b s (by rw [hb]; exact q.2)
theorem ps_guard {X : Cx} {Γ : Gm} {c : Expr} {body : List Stmt} {tt : TT} {wt : WT} {ts : TS} {ws : WS} {pos : Pos} (hc : PDT X Γ c tt wt) (ha : PDSs X Γ body ts ws) : PDS X Γ (.If c body [] pos) (tIfS tt ts tNext) (wGuard wt) :=
  ⟨ps_if hc.pt ha.ps pss_nil, fun ρ P F σ H D m h k => ss_if (st_false hc.sd) ha.sd ss_next ρ P F σ H D m ⟨h.1, (fun z => by cases z), fun _ => h.2⟩ k⟩
end Yd

/-! YdI: l.index(x) of data; a range with a step. -/
namespace Yd
open PySem L2
section
variable {Γ : Gm} {K : PySem.W.Frag}
def idxK (ds : List PyData) (d : PyData) (Q : A → Prop) : Prop := SeqAt.shaped (.list ds) = true ∧ SeqAt.shaped d = true ∧ ∃ (j : Nat) (z : PyData), ds[j]? = some z ∧ PyData.eqv z d = true ∧ (∀ (m : Nat) (z' : PyData), m < j → ds[m]? = some z' → PyData.eqv z' d = false) ∧ Q (.d (.int (j : Nat)))
def lxK (a : A) (Q : List PyData → Prop) : Prop := match rdD a with
  | some (.list ds) => Q ds
  | _ => False
def dxK (a : A) (Q : PyData → Prop) : Prop := match rdD a with
  | some d => Q d
  | none => False
def wIndex (wa wb : WE) : WE := fun ρ Q => wa ρ fun a => lxK a fun ds => wb ρ fun b => dxK b fun d => idxK ds d Q
theorem lxK_o (xs : List PyData) (Q : List PyData → Prop) : lxK (.own xs) Q = Q xs := rfl
theorem lxK_b (i : Nat) (xs : List PyData) (Q : List PyData → Prop) : lxK (.bor i xs) Q = Q xs := rfl
theorem lxK_d (xs : List PyData) (Q : List PyData → Prop) : lxK (.d (.list xs)) Q = Q xs := rfl
theorem dxK_o (xs : List PyData) (Q : PyData → Prop) : dxK (.own xs) Q = Q (.list xs) := rfl
theorem dxK_b (i : Nat) (xs : List PyData) (Q : PyData → Prop) : dxK (.bor i xs) Q = Q (.list xs) := rfl
theorem dxK_d (d : PyData) (Q : PyData → Prop) : dxK (.d d) Q = Q d := rfl
theorem e_index (wa wb : WE) (ρ : List A) (Q : A → Prop) : wIndex wa wb ρ Q = wa ρ fun a => lxK a fun ds => wb ρ fun b => dxK b fun d => idxK ds d Q := rfl
theorem rdD_list {a : A} {ds : List PyData} (h : rdD a = some (.list ds)) : asL a = some ds := by
  cases a with
  | own _ => cases h; rfl
  | bor _ _ => cases h; rfl
  | d x => cases h; rfl
  | _ => cases h
theorem sd_index {ta tb : TE} {wa wb : WE} (ha : SndE Γ ta wa) (hb : SndE Γ tb wb) : SndE Γ (tBM K "list" (rIndexD K) ta (tCons tb tNil)) (wIndex wa wb) := fun ρ Q F σ H K0 m h k =>
  ha ρ _ F σ H _ m h fun F1 H1 x a1 s1 r1 h1 => by
    unfold lxK at h1
    split at h1
    · rename_i ds e1
      have m1 := m.step s1
      obtain ⟨p, vs, ep, hp, _⟩ := r1.list m1 (rdD_list e1)
      refine ⟨by rw [ep]; exact ty_list hp, hb ρ _ F1 σ H1 _ m1 h1 fun F2 H2 y b1 s2 r2 h2 => ?_⟩
      unfold dxK at h2
      split at h2
      · rename_i d e2
        obtain ⟨q1, q2, j, z, q3, q4, q5, q6⟩ := h2
        have m2 := m1.step s2
        have r1' := (r1.step m.gi s1 s2).dp (K := K) m2 e1
        have r2' := (r2.back s1).dp (K := K) m2 e2
        subst ep
        exact ⟨p, y, d, ds, j, z, rfl, rfl, r1', r2', q1, q2, q3, q4, q5, k F2 H2 _ (.d (.int (j : Nat))) (s1.trans m.gi s2) (Rp.int _) q6⟩
      · exact h2.elim
    · exact h1.elim
end
theorem pd_index {X : Cx} {Γ : Gm} {K : PySem.W.Frag} {o e : Expr} {to te : TE} {wo we : WE} {pos apos : Pos} {k : Nat} (hr : Room k X.A) (hk : 2 ≤ k) (ho : PD X Γ o to wo) (he : PD X Γ e te we)
    (hbase : attributeBase o "index" X.env (eval o X.env) = eval o X.env := by rfl)
    (hfew : ((backTo pos (starEach [e] X.env)).all (fun x => !x.1) && (backToKw pos (keywordEach [] X.env)).all (fun x => x.1.isSome)
      && decide ([e].length + ([] : List Keyword).length + (if ([] : List Keyword).isEmpty then 0 else 1) < 30)) = true := by rfl)
    (hline : (apos.endLine == pos.line) = true := by rfl) (hs2 : starEach [e] X.env = (false, eval e X.env) :: starEach [] X.env := by rfl) (hplain : (backTo pos (starEach [] X.env)).any (·.1) = false := by rfl) (hK : X.K = K := by rfl) :
    PD X Γ (.Call (.Attribute o "index" apos) [e] [] pos) (tBM K "list" (rIndexD K) to (tCons te tNil)) (wIndex wo we) := by
  subst hK
  exact ⟨pe_bm PySem.F.plainAttrs_list PySem.F.slot_list_index PySem.F.type_list_index (mt_indexD (by have := hr.un; omega)) ho.pe (pa_cons he.pe pa_nil hs2) hbase hfew hline hs2 hplain, sd_index ho.sd he.sd⟩
/-! ### a range with a step -/
def rgC (lo c : Int) (n : Nat) : List PyData := (List.range n).map fun i : Nat => PyData.int (lo + (i : Int) * c)
def rg3K (rs : List A) (Q : List PyData → Prop) : Prop := match rs with
  | [.d (.int i), .d (.int j), .d (.int c)] => ∃ n, RgC i j c n ∧ Q (rgC i c n)
  | _ => False
def wRange3 (a : WA) : WI := fun ρ Q => a ρ fun rs => rg3K rs Q
theorem e_range3 (wa : WA) (ρ : List A) (QI : List PyData → Prop) : wRange3 wa ρ QI = wa ρ fun rs => rg3K rs QI := rfl
theorem rg3K_i (i j c : Int) (Q : List PyData → Prop) : rg3K [.d (.int i), .d (.int j), .d (.int c)] Q = ∃ n, RgC i j c n ∧ Q (rgC i c n) := rfl
theorem itok_rangeC {Γ : Gm} {F : Hp} (lo c : Int) (n : Nat) : ItOk Γ (Itc lo c n) (rgC lo c n) F := fun F' H' s s' gi bx i => by
  refine ⟨fun h => ?_, fun d e => ?_⟩
  · show n ≤ i
    simpa [rgC] using h
  · unfold rgC at e
    rw [List.getElem?_map] at e
    obtain ⟨j, ej, rfl⟩ := Option.map_eq_some_iff.mp e
    obtain ⟨hj, e2⟩ := List.getElem?_eq_some_iff.mp ej
    simp at hj e2
    subst e2
    refine ⟨hj, fun x H'' y => ?_⟩
    obtain ⟨rfl, rfl⟩ := y
    exact ⟨F', Stp.refl s' gi bx, Rp.int _⟩
theorem si_range3 {Γ : Gm} {ta : TA} {wa : WA} (h : SndA Γ ta wa) : SndI Γ (iRng3 ta) (wRange3 wa) := fun ρ Q F σ H R m q k =>
  h ρ _ F σ H _ m q fun F1 H1 vs rs s r p => by
    unfold rg3K at p
    split at p
    · cases r with
      | cons r1 t => cases t with
        | cons r2 t => cases t with
          | cons r3 t => cases t with
            | nil =>
              cases (show Rp F1 _ (.int _) from r1)
              cases (show Rp F1 _ (.int _) from r2)
              cases (show Rp F1 _ (.int _) from r3)
              obtain ⟨n, p1, p2⟩ := p
              exact ⟨_, _, _, n, rfl, p1, k F1 H1 _ _ s (itok_rangeC _ _ _) p2⟩
    · exact p.elim
theorem pi_range3A {X : Cx} {Γ : Gm} {tg a b c : Expr} {tA : TA} {wA : WA} {p pos : Pos} (hm : X.mg "range" = none) (ha : PDA X Γ [a, b, c] tA wA) (hg : Gl X "range" := by rfl) (hs : starEach [a, b, c] X.env = (false, eval a X.env) :: starEach [b, c] X.env := by rfl) (hpl : (backTo pos (starEach [b, c] X.env)).any (·.1) = false := by rfl) :
    PDI X Γ tg (.Call (.Name "range" p) [a, b, c] [] pos) (iRng3 tA) (wRange3 wA) := ⟨pi_range3 hg hm ha.pa hs hpl, si_range3 ha.sd⟩
theorem rgC_down {n i : Nat} {d : PyData} (h : (rgC ((n : Int) - 1) (-1) n)[i]? = some d) : i < n ∧ d = nI (n - 1 - i) := by
  unfold rgC at h
  rw [List.getElem?_map] at h
  obtain ⟨j, ej, rfl⟩ := Option.map_eq_some_iff.mp h
  obtain ⟨hj, e2⟩ := List.getElem?_eq_some_iff.mp ej
  simp at hj e2
  subst e2
  exact ⟨hj, by congr 1; omega⟩
end Yd

/-! YdV: data that are alike (numbers; tuples and lists of these): <, <=, min of a list. -/
namespace Yd
open PySem L2 PyProof.Rows
theorem minD_mem (d : PyData) (ds : List PyData) : PySem.W.minD d ds ∈ d :: ds := by
  unfold PySem.W.minD
  induction ds generalizing d with
  | nil => exact List.mem_cons_self
  | cons x xs ih =>
    rw [List.foldl_cons]
    rcases List.mem_cons.mp (ih (if PySem.W.dataLt x d then x else d)) with h | h
    · rw [h]
      split
      · exact List.mem_cons_of_mem _ List.mem_cons_self
      · exact List.mem_cons_self
    · exact List.mem_cons_of_mem _ (List.mem_cons_of_mem _ h)
section
variable {X : Cx}
def rLtV (K : PySem.W.Frag) : R2 := fun x y H Q => ∃ d e, Dp K H x d ∧ Dp K H y e ∧ PySem.W.alike d e = true ∧ d ≠ .none ∧ min d.depth e.depth ≤ 64 ∧ Q (.bl (PySem.W.dataLt d e)) H
def rLeV (K : PySem.W.Frag) : R2 := fun x y H Q => ∃ d e, Dp K H x d ∧ Dp K H y e ∧ PySem.W.alike d e = true ∧ d ≠ .none ∧ min d.depth e.depth ≤ 64 ∧ Q (.bl (!PySem.W.dataLt e d)) H
theorem op_ltV (hu : X.A.units + 64 < cLine) : OpR X (compareOp .Lt) (rLtV X.K) := by
  intro pins s σ H x y v u Q I rx ry h
  obtain ⟨d, e, hd, he, al, nn, dp, q⟩ := h
  obtain ⟨as, r1⟩ := Dp.reads I d x v hd rx
  obtain ⟨bs, r2⟩ := Dp.reads I e y u he ry
  exact PySem.W.lt_data r1 r2 al nn (by omega) ⟨.bl _, H, I, rfl, q⟩
theorem op_leV (hu : X.A.units + 64 < cLine) : OpR X (compareOp .LtE) (rLeV X.K) := by
  intro pins s σ H x y v u Q I rx ry h
  obtain ⟨d, e, hd, he, al, nn, dp, q⟩ := h
  obtain ⟨as, r1⟩ := Dp.reads I d x v hd rx
  obtain ⟨bs, r2⟩ := Dp.reads I e y u he ry
  exact PySem.W.le_data r1 r2 al nn (by omega) ⟨.bl _, H, I, rfl, q⟩
/-- min of a list of alike data: one of its items -/
def rMinV (K : PySem.W.Frag) : List V → Hp → VK → Prop := fun vs H Q => ∃ (a : Addr) (xs : List V) (d : PyData) (ds : List PyData), vs = [V.ref a] ∧ SqL K H a xs ∧ DpAll K H xs (d :: ds) ∧ PySem.W.AlikeAll (d :: ds) ∧ PyData.depthAll (d :: ds) ≤ 63 ∧
  ∀ (i : Nat) (v : V), xs[i]? = some v → (d :: ds)[i]? = some (PySem.W.minD d ds) → Q v H
theorem call_minV (hc : X.calm = true) (hu : X.A.units + 64 < cLine) : CallR X (.builtin "min") (rMinV X.K) := by
  intro pins s σ H vs us Q I r h
  obtain ⟨a, xs, d, ds, rfl, hs, hd, al, dp, q⟩ := h
  obtain ⟨u, rfl, ru⟩ := vals1 r
  cases ru
  obtain ⟨its, rv, hl, hlen⟩ := I.list hs
  obtain ⟨as, hr⟩ := Dp.readsAll I (d :: ds) _ its hd rv
  refine PySem.W.min_list_data (vs := its.toArray) (I.ok.hd hc) hl.isList (by simpa using hr) al (by omega) fun i v h' tk bs hv hr' hk => ?_
  have hv' : its[i]? = some v := by simpa using hv
  obtain ⟨y, hy, ry⟩ : ∃ y, xs[i]? = some y ∧ RelV y v := by
    have hxl : xs.length = its.length := rv.length
    have hlt := (List.getElem?_eq_some_iff.mp hv').1
    obtain ⟨u, eu, ru⟩ := Vals.get rv (List.getElem?_eq_getElem (show i < xs.length by omega))
    rw [hv'] at eu; cases eu
    exact ⟨_, List.getElem?_eq_getElem _, ru⟩
  have hn := PySem.SeqAt.ReadsAll.length _ _ _ hr
  have hi : i < its.length := (List.getElem?_eq_some_iff.mp hv').1
  have hid : i < (d :: ds).length := by omega
  obtain ⟨cs, r1, _, _, _⟩ := PySem.W.readsAll_at hr i v hv'
  have e1 : (d :: ds).getD i .none = (d :: ds)[i] := by rw [List.getD_eq_getElem?_getD, List.getElem?_eq_getElem hid]; rfl
  rw [e1] at r1
  have mm : PySem.W.minD d ds ∈ (d :: ds) := minD_mem d ds
  have e2 : (d :: ds)[i] = PySem.W.minD d ds := PySem.W.alike_unique _ _ v cs bs (al.1 _ (List.getElem_mem hid) _ mm) (PyProof.Rows.Reads.keeps hk r1) hr'
  exact ⟨y, H, I.kept hk, ry, q i y hy (by rw [List.getElem?_eq_getElem hid, e2])⟩
/-! min of a list of alike data over abstract values -/
def minVK (xs : List PyData) (Q : A → Prop) : Prop := match xs with
  | [] => False
  | x :: ys => PySem.W.AlikeAll (x :: ys) ∧ PyData.depthAll (x :: ys) ≤ 63 ∧ Q (.d (PySem.W.minD x ys))
def minVA (as : List A) (Q : A → Prop) : Prop := match as with
  | [a] => (match asL a with
    | some xs => minVK xs Q
    | none => False)
  | _ => False
theorem snd_minV {Γ : Gm} {K : PySem.W.Frag} : SndC Γ (rMinV K) minVA := by
  intro ρ σ F H F1 H1 xs as Q K0 m m1 s ra h k
  unfold minVA at h
  split at h
  · rename_i a
    cases ra with
    | cons r1 t =>
    cases t
    split at h
    · rename_i ds e
      cases ds with
      | nil => exact h.elim
      | cons d ds =>
        obtain ⟨al, dp, q⟩ := h
        obtain ⟨p, vs, rfl, h1, h2⟩ := Res.list m1 r1 e
        refine ⟨p, vs, d, ds, rfl, SqL.of h1, RpL.dp m1.fh _ _ h2, al, dp, fun i v hv hi => ?_⟩
        obtain ⟨d2, e2, r2⟩ := h2.get' hv
        rw [hi] at e2; cases e2
        exact k F1 H1 v (.d _) s r2 q
    · exact h.elim
  · exact h.elim
theorem pd_minV {Γ : Gm} {K : PySem.W.Frag} {k : Nat} {e : Expr} {es : List Expr} {tA : TA} {wA : WA} {p pos : Pos} (hr : Room k X.A) (hm : X.mg "min" = none) (ha : PDA X Γ (e :: es) tA wA) (hc : X.calm = true := by rfl) (hg : Gl X "min" := by rfl) (hK : X.K = K := by rfl)
    (he : starEach (e :: es) X.env = (false, eval e X.env) :: starEach es X.env := by rfl) (hpl : (backTo pos (starEach es X.env)).any (·.1) = false := by rfl) : PD X Γ (.Call (.Name "min" p) (e :: es) [] pos) (tCB (rMinV K) tA) (wCB minVA wA) := by
  subst hK
  exact pd_cb (call_minV hc (room64 hr)) snd_minV hm boot_min' ha hg (by decide) (by decide) he hpl
theorem minVA_o {xs : List PyData} {Q : A → Prop} : minVA [.own xs] Q = minVK xs Q := rfl
theorem minVA_d {xs : List PyData} {Q : A → Prop} : minVA [.d (.list xs)] Q = minVK xs Q := rfl
theorem minVA_b {n : Nat} {xs : List PyData} {Q : A → Prop} : minVA [.bor n xs] Q = minVK xs Q := rfl
/-! == of what is read out of yards -/
def eqKA (a b : A) (Q : A → Prop) : Prop := match a, b with
  | .k x, .k y => SeqAt.shaped x = true ∧ SeqAt.shaped y = true ∧ Q (.d (.bool (PyData.eqv x y)))
  | _, _ => False
theorem snd_eqK {Γ : Gm} {K : PySem.W.Frag} : SndR Γ (fun x y H Q => rEqD K x y H Q) eqKA := by
  intro ρ σ F H F1 H1 x y a b Q K0 m m1 s ra rb h k
  unfold eqKA at h
  split at h
  · rename_i d e
    have kS := kn.same m1.fh m1.gi
    exact ⟨d, e, Rp.dp kS _ _ ra, Rp.dp kS _ _ rb, h.1, h.2.1, k F1 H1 _ (.bl _) s (Rp.bl _) h.2.2⟩
  · exact h.elim
theorem pd_eqK {Γ : Gm} {K : PySem.W.Frag} {k : Nat} {a b : Expr} {ta tb : TE} {wa wb : WE} {pos : Pos} (hr : Room k X.A) (ha : PD X Γ a ta wa) (hb : PD X Γ b tb wb) (hK : X.K = K := by rfl) : PD X Γ (.Compare a [.Eq] [b] pos) (tOp (fun x y H Q => rEqD K x y H Q) ta tb) (wOp eqKA wa wb) := by
  subst hK
  exact pd_cmp (op_eqD (room64 hr)) (snd_eqK (K := X.K)) (nomark _) ha hb
theorem eqKA_k {x y : PyData} {Q : A → Prop} : eqKA (.k x) (.k y) Q = (SeqAt.shaped x = true ∧ SeqAt.shaped y = true ∧ Q (.d (.bool (PyData.eqv x y)))) := rfl
/-! rules by K's name, for within comprehensions -/
theorem pe_fldK (K : PySem.W.Frag) {e : Expr} {f : Str} {pos : Pos} {ta : TE} (he : PE X e ta) (hK : X.K = K := by rfl) (hb : attributeBase e f X.env (eval e X.env) = eval e X.env := by rfl) : PE X (.Attribute e f pos) (tFld K ta f) := by
  subst hK; exact pe_fld he hb
theorem pe_ixLK (K : PySem.W.Frag) {a b : Expr} {pos : Pos} {ta tb : TE} (ha : PE X a ta) (hb : PE X b tb) (hK : X.K = K := by rfl) (hs : PlainIx b := by exact fun _ _ => rfl) : PE X (.Subscript a b pos) (tOp (rIxL K) ta tb) := by
  subst hK; exact pe_ix ix_list ha hb hs
theorem pe_ixTK (K : PySem.W.Frag) {a b : Expr} {pos : Pos} {ta tb : TE} (ha : PE X a ta) (hb : PE X b tb) (hK : X.K = K := by rfl) (hs : PlainIx b := by exact fun _ _ => rfl) : PE X (.Subscript a b pos) (tOp (rIxT K) ta tb) := by
  subst hK; exact pe_ix ix_tup ha hb hs
theorem pt_ninK (K : PySem.W.Frag) {k : Nat} {a b : Expr} {pos : Pos} {ta tb : TE} (hr : Room k X.A) (ha : PE X a ta) (hb : PE X b tb) (hK : X.K = K := by rfl) (hm : behindInMarks .NotIn b = false := by rfl) : PT X (.Compare a [.NotIn] [b] pos) (tTest (tOp (rNotInD K) ta tb)) := by
  subst hK; exact pt_cmpR (op_notInD (room65 hr)) ha hb hm
end
end Yd

/-! YdK: dicts by ints; lists within lists that are cleared one by one. -/
namespace Yd
open PySem L2
/-! ### dicts by ints -/
section
variable {X : Cx} {Γ : Gm} {pos : Pos}
def wDnew : WE := fun _ Q => Q (.dct [] [])
theorem sd_dnew : SndE Γ tDNewK wDnew := fun ρ Q F σ H K m q k p hp =>
  k F (upd H p (.dK [])) (.ref p) (.dct [] []) (Stp.new0 m.fh m.gi m.st.box hp) ⟨p, [], rfl, hp, m.fh.free hp, upd_same, rfl, .nil⟩ q
theorem pd_dnew : PD X Γ (.Dict [] [] pos) tDNewK wDnew := ⟨pe_dnewK, sd_dnew⟩
end
theorem M.dct {Γ : Gm} {F : Hp} {ρ : List A} {σ : St} {H : Hp} (m : M Γ F ρ σ H) {i : Nat} {ks : List Int} {ds : List PyData} (e : ρ[i]? = some (.dct ks ds)) : ∃ p kvs, σ[i]? = some (some (.ref p)) ∧ H p = some (.dK kvs) ∧ kvs.map (·.1) = ks.map Sum.inl ∧ RpL F (kvs.map (·.2)) ds ∧ F p = none ∧ Γ.H p = none ∧ ¬ isBox Γ.G p := by
  obtain ⟨o, e2, q⟩ := m.slot e
  obtain ⟨p, kvs, rfl, q⟩ := q
  exact ⟨p, kvs, e2, q⟩
theorem dct_val {kvs : List (Key × V)} {ks : List Int} (h : kvs.map (·.1) = ks.map Sum.inl) (k : Int) : (valV kvs (Sum.inl k)).isSome = decide (k ∈ ks) := by
  rw [← valV_any]
  induction kvs generalizing ks with
  | nil => cases ks with
    | nil => rfl
    | cons a b => cases h
  | cons x xs ih => cases ks with
    | nil => cases h
    | cons a b =>
      rw [List.map_cons, List.map_cons] at h
      obtain ⟨h1, h2⟩ := List.cons.inj h
      rw [List.any_cons, ih h2, h1]
      by_cases z : a = k
      · subst z; simp
      · have : ¬ (Sum.inl a : Key) = Sum.inl k := fun q => z (by cases q; rfl)
        have z2 : ¬ k = a := fun q => z q.symm
        simp [z, z2]
theorem dct_get {F : Hp} {kvs : List (Key × V)} {ks : List Int} {ds : List PyData} (h : kvs.map (·.1) = ks.map Sum.inl) (l : RpL F (kvs.map (·.2)) ds) (nd : ks.Nodup) {j : Nat} {k : Int} {d : PyData} (e1 : ks[j]? = some k) (e2 : ds[j]? = some d) : ∃ v, valV kvs (Sum.inl k) = some v ∧ Rp F v d := by
  induction kvs generalizing ks ds j with
  | nil => cases ks with
    | nil => simp at e1
    | cons a b => cases h
  | cons x xs ih => cases ks with
    | nil => cases h
    | cons a b =>
      rw [List.map_cons, List.map_cons] at h
      obtain ⟨h1, h2⟩ := List.cons.inj h
      rw [List.map_cons] at l
      cases l with
      | cons l1 l2 =>
      cases j with
      | zero =>
        simp at e1 e2
        subst e1 e2
        exact ⟨_, valV_pos h1, l1⟩
      | succ j =>
        simp at e1 e2
        have ne : a ≠ k := fun z => (List.nodup_cons.mp nd).1 (by rw [z]; exact List.mem_of_getElem? e1)
        obtain ⟨v, q1, q2⟩ := ih h2 l2 (List.nodup_cons.mp nd).2 e1 e2
        exact ⟨v, by rw [valV_neg (by rw [h1]; intro z; cases z; exact ne rfl)]; exact q1, q2⟩
def wDnin (i : Nat) (we : WE) : WT := fun ρ Q => we ρ fun y => match ρ[i]?, y with
  | some (.dct ks _), .d (.int k) => Q (!decide (k ∈ ks))
  | _, _ => False
def wDget (i : Nat) (we : WE) : WE := fun ρ Q => match ρ[i]? with
  | some (.dct ks ds) => we ρ fun y => match y with
    | .d (.int k) => ks.Nodup ∧ ∃ (j : Nat) (d : PyData), ks[j]? = some k ∧ ds[j]? = some d ∧ Q (.d d)
    | _ => False
  | _ => False
def wDsort (i : Nat) : WE := fun ρ Q => match ρ[i]? with
  | some (.dct ks _) => ks.length < 64 ∧ ∀ ms : List Int, ms.Perm ks → ms.Pairwise (· ≤ ·) → Q (.own (ms.map PyData.int))
  | _ => False
def wDput (i : Nat) (wk wv : WE) : WS := fun ρ P => match ρ[i]? with
  | some (.dct ks ds) => wv ρ fun x => wk ρ fun y => match y, x with
    | .d (.int k), .d d => ks.length < sizeLine ∧ k ∉ ks ∧ P.nx ((unfr ρ).set i (.dct (ks ++ [k]) (ds ++ [d])))
    | _, _ => False
  | _ => False
section
variable {Γ : Gm} {te tk tv : TE} {we wk wv : WE}
theorem sd_dnin (i : Nat) (h : SndE Γ te we) : SndT Γ (tB (tDNotIn te (tVar i))) (wDnin i we) := fun ρ Q F σ H K m q k =>
  h ρ _ F σ H _ m q fun F1 H1 v r s rr p => by
    split at p
    · rename_i ks ds kk e1
      obtain ⟨a, kvs, ev, e2, hk, hl, _⟩ := (m.step s).dct e1
      cases (show Rp F1 v (.int kk) from rr)
      refine ⟨_, ev, a, _, rfl, DGet.k (k := Sum.inl kk) e2, _, rfl, ?_⟩
      rw [dct_val hk]
      exact k F1 H1 _ s p
    · exact p.elim
theorem sd_dget (i : Nat) (h : SndE Γ te we) : SndE Γ (tDGet (tVar i) te) (wDget i we) := fun ρ Q F σ H K m q k => by
  unfold wDget at q
  split at q
  · rename_i ks ds e1
    obtain ⟨a, kvs, ev, _⟩ := m.dct e1
    refine ⟨_, ev, h ρ _ F σ H _ m q fun F1 H1 v r s rr p => ?_⟩
    split at p
    · rename_i kk
      obtain ⟨nd, j, d, g1, g2, p⟩ := p
      obtain ⟨a2, kvs2, ev2, e2, hk, hl, _⟩ := (m.step s).dct e1
      rw [ev] at ev2
      cases ev2
      cases (show Rp F1 v (.int kk) from rr)
      obtain ⟨u, g3, g4⟩ := dct_get hk hl nd g1 g2
      refine ⟨a, u, rfl, ?_, k F1 H1 u (.d d) s g4 p⟩
      rw [← g3]
      exact DGet.k (k := Sum.inl kk) e2
    · exact p.elim
  · exact q.elim
theorem sd_dsort (i : Nat) : SndE Γ (tCB (fun xs H Q => ∃ (a : Addr) (kvs : List (Key × V)) (ks : List Int), xs = [.ref a] ∧ Rd H a (.dK kvs) ∧ kvs.map (·.1) = ks.map Sum.inl ∧ ks.length < 64 ∧
    ∀ (ys : List Int) (p : Addr), ys.Perm ks → ys.Pairwise (· ≤ ·) → H p = none → Q (.ref p) (upd H p (.lst (ys.map V.int)))) (tCons (tVar i) tNil)) (wDsort i) := fun ρ Q F σ H K m q k => by
  unfold wDsort at q
  split at q
  · rename_i ks ds e1
    obtain ⟨l64, q⟩ := q
    obtain ⟨a, kvs, ev, e2, hk, hl, _⟩ := m.dct e1
    refine ⟨_, ev, a, kvs, ks, rfl, .of e2, hk, l64, fun ys p hp hs h0 => ?_⟩
    exact k F _ _ (.own _) (Stp.new0 m.fh m.gi m.st.box h0) ⟨p, _, rfl, h0, m.fh.free h0, upd_same, RpL.ints ys⟩ (q ys hp hs)
  · exact q.elim
/-- an entry more -/
theorem M.dput {F : Hp} {ρ : List A} {σ : St} {H : Hp} (m : M Γ F ρ σ H) {i : Nat} {ks : List Int} {ds : List PyData} (e : ρ[i]? = some (.dct ks ds)) {p : Addr} {kvs : List (Key × V)} (ev : σ[i]? = some (some (.ref p))) {ks2 : List Int} {ds2 : List PyData} (hk : kvs.map (·.1) = ks2.map Sum.inl) (hl : RpL F (kvs.map (·.2)) ds2) :
    M Γ F ((Yd.unfr ρ).set i (.dct ks2 ds2)) σ (upd H p (.dK kvs)) := by
  obtain ⟨p', kvs0, ev0, h1, _, _, h3, h4, h5⟩ := m.dct e
  rw [ev] at ev0
  cases ev0
  have m1 := m.unfr
  have own : ∀ {j : Nat} {q : Addr}, ownAt ((Yd.unfr ρ).set i (.dct ks2 ds2)) σ j q → ownAt (Yd.unfr ρ) σ j q := fun {j q} ⟨⟨xs, q1⟩, q2⟩ => by
    by_cases hj : i = j
    · subst hj
      obtain ⟨z1, e1⟩ := List.getElem?_eq_some_iff.mp q1
      rw [List.getElem_set_self] at e1
      cases e1
    · rw [List.getElem?_set_ne hj] at q1
      exact ⟨⟨xs, q1⟩, q2⟩
  refine ⟨⟨m.st.ff, fun b u q => ?_, m.gi.upd h5, fun b u q nb => ?_, m.st.new, m.st.box⟩, m.gi0, by simp [m1.len], fun j a o g1 g2 => ?_, fun j k q g1 g2 => m1.dj j k q (own g1) (own g2), fun j x g1 => ?_⟩
  · rw [upd_ne (ne_of_none q h3)]; exact m.fh b u q
  · rw [upd_ne (ne_of_none q h4)]; exact m.st.keep b u q nb
  · by_cases hj : i = j
    · subst hj
      obtain ⟨z1, e1⟩ := List.getElem?_eq_some_iff.mp g1
      rw [List.getElem_set_self] at e1
      subst e1
      rw [ev] at g2
      cases g2
      exact ⟨p, kvs, rfl, upd_same, hk, hl, h3, h4, h5⟩
    · rw [List.getElem?_set_ne hj] at g1
      have q := m1.sl j a o g1 g2
      cases a with
      | own zs =>
        obtain ⟨p2, us, rfl, q1, q2, q3⟩ := q
        have n : p2 ≠ p := fun z => by
          subst z
          rw [h1] at q1
          cases q1
        exact ⟨p2, us, rfl, by rw [upd_ne n]; exact q1, q2, q3⟩
      | dct ks ds =>
        obtain ⟨b, _, e2⟩ := unfr_get g1
        cases b <;> cases e2
      | dtt ks =>
        obtain ⟨b, _, e2⟩ := unfr_get g1
        cases b <;> cases e2
      | lt ks =>
        obtain ⟨b, _, e2⟩ := unfr_get g1
        cases b <;> cases e2
      | _ => exact q
  · by_cases hj : i = j
    · subst hj
      obtain ⟨z1, e1⟩ := List.getElem?_eq_some_iff.mp g1
      rw [List.getElem_set_self] at e1
      cases e1
    · rw [List.getElem?_set_ne hj] at g1
      obtain ⟨b, e, e2⟩ := unfr_get g1
      cases b <;> cases e2
theorem ss_dput (i : Nat) (hk : SndE Γ tk wk) (hv : SndE Γ tv wv) : SndS Γ (sDPut (tVar i) tk tv) (wDput i wk wv) := fun ρ P F σ H D m q kk => by
  unfold wDput at q
  split at q
  · rename_i ks ds e1
    refine hv ρ _ F σ H _ m q fun F1 H1 v r s rr p => ?_
    have m1 := m.step s
    obtain ⟨a, kvs, ev, _⟩ := m1.dct e1
    refine ⟨_, ev, hk ρ _ F1 σ H1 _ m1 p fun F2 H2 y ry s2 rry p2 => ?_⟩
    split at p2
    · rename_i kk2 d
      obtain ⟨l1, nm, p2⟩ := p2
      have m2 := m1.step s2
      obtain ⟨a2, kvs2, ev2, e2, hks, hl, _⟩ := m2.dct e1
      rw [ev] at ev2
      cases ev2
      cases (show Rp F2 y (.int kk2) from rry)
      have r2 : Rp F2 v d := Rp.up (show Rp F1 v d from rr) s2.ff
      have ln : kvs2.length = ks.length := by
        have := congrArg List.length hks
        simpa using this
      have hn : valV kvs2 (Sum.inl kk2) = none := by
        have := dct_val hks kk2
        rw [decide_eq_false nm] at this
        simpa using this
      refine ⟨a, _, rfl, DPut.k (k := Sum.inl kk2) e2 (by omega), kk.nx F2 σ _ _ (s.ff.trans s2.ff) ?_ p2⟩
      rw [putK_new v hn]
      refine m2.dput e1 ev ?_ ?_
      · rw [List.map_append, List.map_append, hks]; rfl
      · rw [List.map_append]
        exact hl.append (RpL.one r2)
    · exact p2.elim
  · exact q.elim
end
section
variable {X : Cx} {Γ : Gm} {e o v : Expr} {te tk tv : TE} {we wk wv : WE} {pos pos' p : Pos} {i k : Nat}
theorem pt_dnin (hr : Room k X.A) (h : PD X Γ e te we) (ho : PD X Γ o (tVar i) (wName i)) (hb : behindInMarks .NotIn o = false := by rfl) : PDT X Γ (.Compare e [.NotIn] [o] pos) (tB (tDNotIn te (tVar i))) (wDnin i we) := ⟨pt_cmp (pc_dnotin (hu_of hr) h.pe ho.pe) hb, sd_dnin i h.sd⟩
theorem pd_dget (hr : Room k X.A) (ho : PD X Γ o (tVar i) (wName i)) (h : PD X Γ e te we) (hs : NoSl e := by exact fun _ _ => rfl) : PD X Γ (.Subscript o e pos) (tDGet (tVar i) te) (wDget i we) := ⟨pe_dget (hu_of hr) ho.pe h.pe hs, sd_dget i h.sd⟩
theorem pd_dsort (hm : X.mg "sorted" = none) (ho : PD X Γ o (tVar i) (wName i)) (hc : X.calm = true := by rfl) (hg : Gl X "sorted" := by rfl) (he : starEach [o] X.env = (false, eval o X.env) :: starEach [] X.env := by rfl) (hpl : (backTo pos (starEach [] X.env)).any (·.1) = false := by rfl) :
    PD X Γ (.Call (.Name "sorted" p) [o] [] pos) (tCB (fun xs H Q => ∃ (a : Addr) (kvs : List (Key × V)) (ks : List Int), xs = [.ref a] ∧ Rd H a (.dK kvs) ∧ kvs.map (·.1) = ks.map Sum.inl ∧ ks.length < 64 ∧
    ∀ (ys : List Int) (p : Addr), ys.Perm ks → ys.Pairwise (· ≤ ·) → H p = none → Q (.ref p) (upd H p (.lst (ys.map V.int)))) (tCons (tVar i) tNil)) (wDsort i) :=
  ⟨pe_callB (call_sortedDI hc) hg hm boot_sorted' (pa_cons ho.pe pa_nil he) (by decide) (by decide) he hpl, sd_dsort i⟩
theorem ps_dputA (hr : Room k X.A) (ho : PD X Γ o (tVar i) (wName i)) (hk : PD X Γ e tk wk) (hv : PD X Γ v tv wv) (hs : swapsWith v (some (.Subscript o e pos')) pos.line X.env = pure false := by rfl) : PDS X Γ (.Assign [.Subscript o e pos'] v pos) (sDPut (tVar i) tk tv) (wDput i wk wv) := ⟨ps_dput (hu_of hr) ho.pe hk.pe hv.pe hs, ss_dput i hk.sd hv.sd⟩
end

/-! ### lists within what stands by itself, cleared one by one -/
mutual
theorem Rp.det {F : Hp} : ∀ (d : PyData) {v : V} {d2 : PyData}, Rp F v d → Rp F v d2 → d = d2
  | .none, _, _, h, k => by cases h; cases k; rfl
  | .bool b, _, _, h, k => by cases h; cases k; rfl
  | .int i, _, _, h, k => by cases h; cases k; rfl
  | .str x, _, _, h, k => by cases h; cases k; rfl
  | .list ds, _, _, h, k => by
    cases h with
    | lst f1 l1 => cases k with
      | lst f2 l2 => rw [f1] at f2; cases f2; rw [RpL.det ds l1 l2]
      | tup f2 l2 => rw [f1] at f2; cases f2
  | .tuple ds, _, _, h, k => by
    cases h with
    | tup f1 l1 => cases k with
      | tup f2 l2 => rw [f1] at f2; cases f2; rw [RpL.det ds l1 l2]
      | lst f2 l2 => rw [f1] at f2; cases f2
  | .dict _, _, _, h, _ => by cases h
theorem RpL.det {F : Hp} : ∀ (ds : List PyData) {vs : List V} {d2 : List PyData}, RpL F vs ds → RpL F vs d2 → ds = d2
  | [], _, _, h, k => by cases h; cases k; rfl
  | d :: ds, _, _, h, k => by
    cases h with
    | cons h1 h2 => cases k with
      | cons k1 k2 => rw [Rp.det d h1 k1, RpL.det ds h2 k2]
end
theorem Rp.ne {F : Hp} {a b : Addr} {d e : PyData} (h : Rp F (.ref a) d) (k : Rp F (.ref b) e) (n : d ≠ e) : a ≠ b := fun z => by
  subst z
  exact n (h.det d k)
/-- a list without lists in it; a list of such, not empty -/
def turnP (xs : List PyData) : Prop := ∀ x ∈ xs, ∀ ys, x ≠ .list ys
def rowP (es : List PyData) : Prop := es ≠ [] ∧ ∀ e ∈ es, ∃ xs, e = .list xs ∧ turnP xs
def un3 (ρ : List A) (i r t : Nat) : List A := (((unfr ρ).set i .un).set r .un).set t .un
theorem un3_nofr {ρ : List A} {i r t : Nat} : unfr (un3 ρ i r t) = un3 ρ i r t := by
  unfold un3 unfr
  rw [List.map_set, List.map_set, List.map_set, List.map_map]
  have : (unfrA ∘ unfrA) = unfrA := by
    funext a
    cases a <;> rfl
  rw [this]
  rfl
theorem un3_get {ρ : List A} {i r t j : Nat} {a : A} (h : (un3 ρ i r t)[j]? = some a) : a = .un ∨ (j ≠ r ∧ j ≠ t ∧ (unfr ρ)[j]? = some a) := by
  unfold un3 at h
  by_cases h1 : t = j
  · subst h1
    obtain ⟨z1, e1⟩ := List.getElem?_eq_some_iff.mp h
    rw [List.getElem_set_self] at e1
    exact .inl e1.symm
  · rw [List.getElem?_set_ne h1] at h
    by_cases h2 : r = j
    · subst h2
      obtain ⟨z1, e1⟩ := List.getElem?_eq_some_iff.mp h
      rw [List.getElem_set_self] at e1
      exact .inl e1.symm
    · rw [List.getElem?_set_ne h2] at h
      by_cases h3 : i = j
      · subst h3
        obtain ⟨z1, e1⟩ := List.getElem?_eq_some_iff.mp h
        rw [List.getElem_set_self] at e1
        exact .inl e1.symm
      · rw [List.getElem?_set_ne h3] at h
        exact .inr ⟨fun z => h2 z.symm, fun z => h1 z.symm, h⟩
/-- the state while lists of Fs are cleared -/
structure Scr (Γ : Gm) (F : Hp) (ρ : List A) (σ0 : St) (i r t : Nat) (Fs : Hp) (a : Addr) (vs : List V) (σ : St) (H : Hp) : Prop where
  m : M Γ F (un3 ρ i r t) σ H
  len : σ.length = σ0.length
  at_ : ∀ j, j ≠ r → j ≠ t → σ[j]? = σ0[j]?
  top : H a = some (.lst vs)
  row : ∀ b es, rowP es → Rp Fs (.ref b) (.list es) → H b = Fs b ∨ H b = some (.lst [])
  trn : ∀ b xs, turnP xs → Rp Fs (.ref b) (.list xs) → ∃ ws, H b = some (.lst ws)
section
variable {Γ : Gm} {F : Hp} {ρ : List A} {σ0 : St} {i r t : Nat} {Fs : Hp} {a : Addr} {vs : List V} {σ : St} {H : Hp}
theorem Scr.set (h : Scr Γ F ρ σ0 i r t Fs a vs σ H) {j : Nat} (hj : j = r ∨ j = t) (hl : j < ρ.length) (v : V) : Scr Γ F ρ σ0 i r t Fs a vs (σ.set j (some v)) H := by
  have e0 : (un3 ρ i r t)[j]? = some .un := by
    have l3 : j < (un3 ρ i r t).length := by simp [un3, Yd.unfr]; exact hl
    rcases un3_get (List.getElem?_eq_getElem l3) with z | z
    · rw [List.getElem?_eq_getElem l3, z]
    · rcases hj with q | q
      · exact absurd q z.1
      · exact absurd q z.2.1
  refine ⟨?_, by rw [List.length_set]; exact h.len, fun k k1 k2 => ?_, h.top, h.row, h.trn⟩
  · obtain ⟨l, e⟩ := List.getElem?_eq_some_iff.mp e0
    refine ⟨h.m.st, h.m.gi0, by rw [List.length_set]; exact h.m.len, fun k x o h1 h2 => ?_, fun k k2 p h1 h2 => ?_, fun k x h1 => ?_⟩
    · by_cases hk : j = k
      · subst hk
        rw [e0] at h1
        cases h1
        trivial
      · rw [List.getElem?_set_ne hk] at h2
        exact h.m.sl k x o h1 h2
    · have back : ∀ {k : Nat}, ownAt (un3 ρ i r t) (σ.set j (some v)) k p → ownAt (un3 ρ i r t) σ k p := fun {k} ⟨⟨xs, q1⟩, q2⟩ => by
        by_cases hk : j = k
        · subst hk
          rw [e0] at q1
          cases q1
        · rw [List.getElem?_set_ne hk] at q2
          exact ⟨⟨xs, q1⟩, q2⟩
      exact h.m.dj k k2 p (back h1) (back h2)
    · rcases un3_get h1 with z | z
      · cases z
      · obtain ⟨b, _, e2⟩ := unfr_get z.2.2
        cases b <;> cases e2
  · have : j ≠ k := fun z => by
      subst z
      rcases hj with q | q
      · exact k1 q
      · exact k2 q
    rw [List.getElem?_set_ne this]
    exact h.at_ k k1 k2
theorem Scr.clr (h : Scr Γ F ρ σ0 i r t Fs a vs σ H) (n : ∀ b, Fs b ≠ none → F b = none ∧ Γ.H b = none ∧ ¬ isBox Γ.G b ∧ ∀ j, ¬ ownAt ρ σ0 j b) {b : Addr} {d : PyData} (hb : Rp Fs (.ref b) d) (ha : b ≠ a) : Scr Γ F ρ σ0 i r t Fs a vs σ (upd H b (.lst [])) := by
  have fb : Fs b ≠ none := by
    cases hb with
    | lst f _ => rw [f]; simp
    | tup f _ => rw [f]; simp
  obtain ⟨n1, n2, n3, n4⟩ := n b fb
  have m2 := h.m.forget (.lst []) n1 n2 n3 (a := b) fun j ⟨⟨xs, q1⟩, q2⟩ => by
    rcases un3_get q1 with z | ⟨z1, z2, z3⟩
    · cases z
    · rw [h.at_ j z1 z2] at q2
      exact n4 j (unfr_own ⟨⟨xs, z3⟩, q2⟩)
  rw [un3_nofr] at m2
  refine ⟨m2, h.len, h.at_, by rw [upd_ne (fun z => ha z.symm)]; exact h.top, fun c es h1 h2 => ?_, fun c xs h1 h2 => ?_⟩
  · by_cases z : c = b
    · subst z; exact .inr upd_same
    · rw [upd_ne z]; exact h.row c es h1 h2
  · by_cases z : c = b
    · subst z; exact ⟨_, upd_same⟩
    · rw [upd_ne z]; exact h.trn c xs h1 h2
end
def wClr2 (i r t : Nat) : WS := fun ρ P => match ρ[i]? with
  | some (.fr (.list ds)) => i ≠ r ∧ i ≠ t ∧ r ≠ t ∧ r < ρ.length ∧ t < ρ.length ∧ (∀ d ∈ ds, ∃ es, d = .list es ∧ rowP es) ∧ P.nx (un3 ρ i r t)
  | _ => False
theorem list_mem_ne {ds : List PyData} {d : PyData} (h : d ∈ ds) : d ≠ .list ds := fun z => by
  have := List.sizeOf_lt_of_mem h
  rw [z] at this
  simp at this
  omega
theorem ss_clr2 {Γ : Gm} {K : PySem.W.Frag} (i r t : Nat) : SndS Γ (tFor (iList K (tVar i)) (gName r) (tSeq (tFor (iList K (tVar r)) (gName t) (tDrop (tBM0 K "list" rClear (tVar t)))) (tDrop (tBM0 K "list" rClear (tVar r))))) (wClr2 i r t) := fun ρ P F σ H D m h kk => by
  unfold wClr2 at h
  split at h
  · rename_i ds e
    obtain ⟨nir, nit, nrt, hr, ht, hd, hP⟩ := h
    obtain ⟨v, Fs, ev, rv, ss, n⟩ := m.fr i _ e
    cases rv with
    | @lst a vs _ f1 l1 =>
    have hσ : σ.length = ρ.length := m.len
    have start : Scr Γ F ρ σ i r t Fs a vs σ H := by
      have nofr : ∀ (j : Nat) (x : PyData), (unfr ρ)[j]? ≠ some (.fr x) := fun j x hx => by
        obtain ⟨b, _, e2⟩ := unfr_get hx
        cases b <;> cases e2
      have nofr2 : ∀ (k j : Nat) (x : PyData), ((unfr ρ).set k .un)[j]? ≠ some (.fr x) := fun k j x hx => by
        by_cases hk : k = j
        · subst hk
          obtain ⟨z1, e1⟩ := List.getElem?_eq_some_iff.mp hx
          rw [List.getElem_set_self] at e1
          cases e1
        · rw [List.getElem?_set_ne hk] at hx
          exact nofr j x hx
      have nofr3 : ∀ (k l j : Nat) (x : PyData), (((unfr ρ).set k .un).set l .un)[j]? ≠ some (.fr x) := fun k l j x hx => by
        by_cases hk : l = j
        · subst hk
          obtain ⟨z1, e1⟩ := List.getElem?_eq_some_iff.mp hx
          rw [List.getElem_set_self] at e1
          cases e1
        · rw [List.getElem?_set_ne hk] at hx
          exact nofr2 k j x hx
      refine ⟨((m.unfr.drop i nofr).drop r (nofr2 i)).drop t (nofr3 i r), rfl, fun _ _ _ => rfl, ss _ _ f1, fun b es h1 h2 => ?_, fun b xs h1 h2 => ?_⟩
      · cases h2 with
        | lst f2 _ => exact .inl (by rw [ss _ _ f2, f2])
      · cases h2 with
        | lst f2 _ => exact ⟨_, ss _ _ f2⟩
    have ra : Rp Fs (.ref a) (.list ds) := .lst f1 l1
    refine ⟨_, ev, a, rfl, ⟨_, SqL.of (ss _ _ f1)⟩, for_list (K := K) (a := a) (xs := vs) (fun _ σ' H' => Scr Γ F ρ σ i r t Fs a vs σ' H') start (fun _ _ _ _ q => SqL.of q.top) ?_ ?_⟩
    · intro j x σ' H' hx sc
      obtain ⟨d, hd1, rd⟩ := l1.get' hx
      have hm := List.mem_of_getElem? hd1
      obtain ⟨es, rfl, hrow⟩ := hd d hm
      have sc1 := sc.set (.inl rfl) hr x
      have er : (σ'.set r (some x))[r]? = some (some x) := by
        rw [List.getElem?_set_self (by rw [sc.len, hσ]; exact hr)]
      cases rd with
      | @lst b ws _ f2 l2 =>
      have rb : Rp Fs (.ref b) (.list es) := .lst f2 l2
      have nab : b ≠ a := rb.ne ra (list_mem_ne hm)
      show tSeq _ _ _ (σ'.set r (some (.ref b))) H'
      obtain ⟨wsb, hb, sub⟩ : ∃ wsb, H' b = some (.lst wsb) ∧ ∀ y ∈ wsb, ∃ xs, turnP xs ∧ Rp Fs y (.list xs) := by
        rcases sc.row b es hrow rb with z | z
        · rw [f2] at z
          refine ⟨ws, z, fun y hy => ?_⟩
          obtain ⟨k, hk⟩ := List.mem_iff_getElem?.mp hy
          obtain ⟨d2, e2, r2⟩ := l2.get' hk
          obtain ⟨xs, rfl, hxs⟩ := hrow.2 d2 (List.mem_of_getElem? e2)
          exact ⟨xs, hxs, r2⟩
        · exact ⟨[], z, fun y hy => by simp at hy⟩
      refine ⟨_, er, b, rfl, ⟨_, SqL.of hb⟩, for_list (K := K) (a := b) (xs := wsb) (fun _ σ2 H2 => Scr Γ F ρ σ i r t Fs a vs σ2 H2 ∧ H2 b = some (.lst wsb) ∧ σ2[r]? = some (some (.ref b))) ⟨sc1, hb, er⟩ (fun _ _ _ _ q => SqL.of q.2.1) ?_ ?_⟩
      · rintro k y σ2 H2 hy ⟨sc2, hb2, er2⟩
        obtain ⟨xs, hxs, ry⟩ := sub y (List.mem_of_getElem? hy)
        have sc3 := sc2.set (.inr rfl) ht y
        have et : (σ2.set t (some y))[t]? = some (some y) := by
          rw [List.getElem?_set_self (by rw [sc2.len, hσ]; exact ht)]
        have er3 : (σ2.set t (some y))[r]? = some (some (.ref b)) := by
          rw [List.getElem?_set_ne (fun z => nrt z.symm)]; exact er2
        cases ry with
        | @lst c ws2 _ f3 l3 =>
        have rc : Rp Fs (.ref c) (.list xs) := .lst f3 l3
        obtain ⟨ws3, hc⟩ := sc3.trn c xs hxs rc
        have nca : c ≠ a := rc.ne ra fun z => by
          cases z
          exact hxs _ hm es rfl
        have ncb : c ≠ b := rc.ne rb fun z => by
          cases z
          cases hes : es with
          | nil => exact hrow.1 hes
          | cons e1 e2 =>
            obtain ⟨ys, rfl, _⟩ := hrow.2 e1 (by rw [hes]; exact List.mem_cons_self)
            exact hxs (.list ys) (by rw [hes]; exact List.mem_cons_self) ys rfl
        refine ⟨_, et, ty_list hc, c, ws3, rfl, rfl, hc, sc3.clr n rc nca, ?_, er3⟩
        rw [upd_ne (fun z => ncb z.symm)]
        exact hb2
      · rintro σ2 H2 ⟨sc2, hb2, er2⟩
        exact ⟨_, er2, ty_list hb2, b, wsb, rfl, rfl, hb2, sc2.clr n rb nab⟩
    · intro σ' H' sc
      exact kk.nx F σ' H' _ (Same.refl _) sc.m hP
  · exact h.elim
section
variable {X : Cx} {Γ : Gm} {K : PySem.W.Frag} {tg tg2 e e2 e3 e4 : Expr} {i r t : Nat} {pos p apos pos2 pos3 p3 apos3 pos4 : Pos} {wg wg2 : WG}
theorem ps_clr2 (hv : PD X Γ e (tVar i) (wName i)) (hg : PDG X Γ tg (gName r) wg) (hv2 : PD X Γ e2 (tVar r) (wName r)) (hg2 : PDG X Γ tg2 (gName t) wg2) (hv3 : PD X Γ e3 (tVar t) (wName t)) (hv4 : PD X Γ e4 (tVar r) (wName r)) (hp : PassesOwn (model X.prog X.w) X.A X.env X.xe) (hc : X.calm = true := by rfl)
    (hs : ∀ x, foldedSetIterable e X.env x = pure x := by intro _; rfl) (hs2 : ∀ x, foldedSetIterable e2 X.env x = pure x := by intro _; rfl)
    (hs3 : swapsWith (.Call (.Attribute e3 "clear" apos) [] [] p) none pos3.line X.env = pure false := by rfl) (hs4 : swapsWith (.Call (.Attribute e4 "clear" apos3) [] [] p3) none pos4.line X.env = pure false := by rfl)
    (hb3 : attributeBase e3 "clear" X.env (eval e3 X.env) = eval e3 X.env := by rfl) (hb4 : attributeBase e4 "clear" X.env (eval e4 X.env) = eval e4 X.env := by rfl)
    (hl3 : (apos.endLine == p.line) = true := by rfl) (hl4 : (apos3.endLine == p3.line) = true := by rfl) (hK : X.K = K := by rfl) :
    PDS X Γ (.For tg e [.For tg2 e2 [.Expr (.Call (.Attribute e3 "clear" apos) [] [] p) pos3] [] pos2, .Expr (.Call (.Attribute e4 "clear" apos3) [] [] p3) pos4] [] pos) (tFor (iList K (tVar i)) (gName r) (tSeq (tFor (iList K (tVar r)) (gName t) (tDrop (tBM0 K "list" rClear (tVar t)))) (tDrop (tBM0 K "list" rClear (tVar r))))) (wClr2 i r t) := by
  subst hK
  exact ⟨ps_for hp hc (pi_list hv.pe) hg.pg (pss_cons (ps_for hp hc (pi_list hv2.pe) hg2.pg (pss_one (ps_expr (pe_bm0 PySem.F.plainAttrs_list PySem.F.slot_list_clear PySem.F.type_list_clear mt_clear hv3.pe hb3 hl3) hs3)) hs2)
    (pss_one (ps_expr (pe_bm0 PySem.F.plainAttrs_list PySem.F.slot_list_clear PySem.F.type_list_clear mt_clear hv4.pe hb4 hl4) hs4))) hs, ss_clr2 i r t⟩
end

/-! ### for the walk -/
def dctK (o : Option A) (K : List Int → List PyData → Prop) : Prop := match o with
  | some (.dct ks ds) => K ks ds
  | _ => False
def datK (r : A) (K : PyData → Prop) : Prop := match r with
  | .d x => K x
  | _ => False
theorem dctK_d (ks : List Int) (ds : List PyData) (K : List Int → List PyData → Prop) : dctK (some (.dct ks ds)) K = K ks ds := rfl
theorem datK_d (x : PyData) (K : PyData → Prop) : datK (.d x) K = K x := rfl
theorem frK_dct (ks : List Int) (ds : List PyData) (K : A → Prop) : frK (.dct ks ds) K = K (.dct ks ds) := rfl
theorem unfrA_dct (ks : List Int) (ds : List PyData) : unfrA (.dct ks ds) = .un := rfl
theorem e_dnew (ρ : List A) (Q : A → Prop) : wDnew ρ Q = Q (.dct [] []) := rfl
theorem e_dnin (i : Nat) (we : WE) (ρ : List A) (Q : Bool → Prop) : wDnin i we ρ Q = we ρ fun y => dctK (ρ[i]?) fun ks _ => intK y fun k => Q (!decide (k ∈ ks)) := by
  unfold wDnin dctK intK
  congr 1
  funext y
  cases ρ[i]? with
  | none => rfl
  | some a => cases a with
    | dct ks ds => cases y with
      | d x => cases x <;> rfl
      | _ => rfl
    | _ => rfl
theorem e_dget (i : Nat) (we : WE) (ρ : List A) (Q : A → Prop) : wDget i we ρ Q = dctK (ρ[i]?) fun ks ds => we ρ fun y => intK y fun k => ks.Nodup ∧ ∃ (j : Nat) (d : PyData), ks[j]? = some k ∧ ds[j]? = some d ∧ Q (.d d) := by
  unfold wDget dctK intK
  cases ρ[i]? with
  | none => rfl
  | some a => cases a with
    | dct ks ds =>
      show we ρ _ = we ρ _
      congr 1
      all_goals
        funext y
        cases y with
        | d x => cases x <;> rfl
        | _ => rfl
    | _ => rfl
theorem e_dsort (i : Nat) (ρ : List A) (Q : A → Prop) : wDsort i ρ Q = dctK (ρ[i]?) fun ks _ => ks.length < 64 ∧ ∀ ms : List Int, ms.Perm ks → ms.Pairwise (· ≤ ·) → Q (.own (ms.map PyData.int)) := by
  unfold wDsort dctK
  all_goals rfl
theorem e_dput (i : Nat) (wk wv : WE) (ρ : List A) (P : Po) : wDput i wk wv ρ P = dctK (ρ[i]?) fun ks ds => wv ρ fun x => wk ρ fun y => intK y fun k => datK x fun d => ks.length < sizeLine ∧ k ∉ ks ∧ P.nx ((unfr ρ).set i (.dct (ks ++ [k]) (ds ++ [d]))) := by
  unfold wDput dctK intK datK
  cases ρ[i]? with
  | none => rfl
  | some a => cases a with
    | dct ks ds =>
      show wv ρ _ = wv ρ _
      congr 1
      all_goals
        funext x
        congr 1
        all_goals
          funext y
          cases y with
          | d z => cases z <;> cases x <;> rfl
          | _ => rfl
    | _ => rfl
def frlK (o : Option A) (K : List PyData → Prop) : Prop := match o with
  | some (.fr (.list ds)) => K ds
  | _ => False
theorem frlK_l (ds : List PyData) (K : List PyData → Prop) : frlK (some (.fr (.list ds))) K = K ds := rfl
theorem e_clr2 (i r t : Nat) (ρ : List A) (P : Po) : wClr2 i r t ρ P = frlK (ρ[i]?) fun ds => i ≠ r ∧ i ≠ t ∧ r ≠ t ∧ r < ρ.length ∧ t < ρ.length ∧ (∀ d ∈ ds, ∃ es, d = .list es ∧ rowP es) ∧ P.nx ((((unfr ρ).set i .un).set r .un).set t .un) := by
  unfold wClr2 frlK un3
  all_goals rfl
end Yd

/-! Yd3: dicts by tuples of ints, all True. -/
namespace Yd
open PySem L2
theorem M.dtt {Γ : Gm} {F : Hp} {ρ : List A} {σ : St} {H : Hp} (m : M Γ F ρ σ H) {i : Nat} {ks : List (List Int)} (e : ρ[i]? = some (.dtt ks)) : ∃ p, σ[i]? = some (some (.ref p)) ∧ H p = some (.dT (kvT ks)) ∧ F p = none ∧ Γ.H p = none ∧ ¬ isBox Γ.G p := by
  obtain ⟨o, e2, q⟩ := m.slot e
  obtain ⟨p, rfl, q⟩ := q
  exact ⟨p, e2, q⟩
theorem M.ft {Γ : Gm} {F : Hp} {ρ : List A} {σ : St} {H : Hp} (m : M Γ F ρ σ H) {i : Nat} {ks : List (List Int)} (e : ρ[i]? = some (.ft ks)) : ∃ p, σ[i]? = some (some (.ref p)) ∧ H p = some (.dT (kvT ks)) := by
  obtain ⟨o, e2, q⟩ := m.slot e
  obtain ⟨p, rfl, q⟩ := q
  exact ⟨p, e2, m.fh _ _ q⟩
theorem inl_inj : ∀ {a b : List Int}, (a.map Sum.inl : List Key) = b.map Sum.inl → a = b
  | [], [], _ => rfl
  | [], _ :: _, h => by cases h
  | _ :: _, [], h => by cases h
  | x :: a, z :: b, h => by
    rw [List.map_cons, List.map_cons] at h
    obtain ⟨h1, h2⟩ := List.cons.inj h
    cases h1
    rw [inl_inj h2]
theorem dtt_val (k : List Int) : ∀ ks : List (List Int), (valV (kvT ks) (k.map Sum.inl)).isSome = decide (k ∈ ks)
  | [] => rfl
  | a :: ks => by
    by_cases z : a = k
    · subst z
      rw [kvT, List.map_cons, valV_pos rfl]
      simp
    · rw [kvT, List.map_cons, valV_neg (by intro q; exact z (inl_inj q))]
      have := dtt_val k ks
      rw [kvT] at this
      rw [this]
      have z2 : ¬ k = a := fun q => z q.symm
      simp [z2]
theorem put_new {k : List Int} {ks : List (List Int)} (h : k ∉ ks) : putK (kvT ks) (k.map Sum.inl) (V.bl true) = kvT (ks ++ [k]) := by
  unfold putK
  rw [if_neg (by rw [valV_any, dtt_val, decide_eq_false h]; exact Bool.false_ne_true)]
  simp [kvT]
theorem tup_ints {F H : Hp} {v : V} {k : List Int} (s : Same F H) (r : Rp F v (.tuple (k.map PyData.int))) : ∃ b, v = .ref b ∧ H b = some (.tup ((k.map Sum.inl : List Key).map kV)) := by
  cases r with
  | @tup b vs _ f l =>
    have e := l.of_ints
    subst e
    refine ⟨b, rfl, ?_⟩
    rw [s _ _ f, List.map_map]
    rfl
/-! rules -/
def wTnin (i : Nat) (we : WE) : WT := fun ρ Q => match ρ[i]? with
  | some (.dtt ks) => we ρ fun y => ∃ k : List Int, y = .d (.tuple (k.map PyData.int)) ∧ Q (!decide (k ∈ ks))
  | some (.ft ks) => we ρ fun y => ∃ k : List Int, y = .d (.tuple (k.map PyData.int)) ∧ Q (!decide (k ∈ ks))
  | _ => False
theorem sd_tnin {Γ : Gm} {te : TE} {we : WE} (i : Nat) (h : SndE Γ te we) : SndT Γ (tB (tDNotIn te (tVar i))) (wTnin i we) := fun ρ Q F σ H K m q k => by
  unfold wTnin at q
  split at q
  · rename_i ks e1
    refine h ρ _ F σ H _ m q fun F1 H1 v r s rr p => ?_
    obtain ⟨ns, rfl, p⟩ := p
    have m1 := m.step s
    obtain ⟨a, ev, e2, _⟩ := m1.dtt e1
    obtain ⟨b, rfl, eb⟩ := tup_ints m1.fh rr
    refine ⟨_, ev, a, _, rfl, DGet.t e2 eb, _, rfl, ?_⟩
    rw [dtt_val]
    exact k F1 H1 _ s p
  · rename_i ks e1
    refine h ρ _ F σ H _ m q fun F1 H1 v r s rr p => ?_
    obtain ⟨ns, rfl, p⟩ := p
    have m1 := m.step s
    obtain ⟨a, ev, e2⟩ := m1.ft e1
    obtain ⟨b, rfl, eb⟩ := tup_ints m1.fh rr
    refine ⟨_, ev, a, _, rfl, DGet.t e2 eb, _, rfl, ?_⟩
    rw [dtt_val]
    exact k F1 H1 _ s p
  · exact q.elim
theorem pt_tnin {X : Cx} {Γ : Gm} {k i : Nat} {e o : Expr} {te : TE} {we : WE} {wo : WE} {pos : Pos} (hr : Room k X.A) (h : PD X Γ e te we) (ho : PE X o (tVar i)) (hb : behindInMarks .NotIn o = false := by rfl) : PDT X Γ (.Compare e [.NotIn] [o] pos) (tB (tDNotIn te (tVar i))) (wTnin i we) := ⟨pt_cmp (pc_dnotin (hu_of hr) h.pe ho) hb, sd_tnin i h.sd⟩
/-! an entry more; frozen -/
theorem M.tput {Γ : Gm} {F : Hp} {ρ : List A} {σ : St} {H : Hp} (m : M Γ F ρ σ H) {i : Nat} {ks ks2 : List (List Int)} (e : ρ[i]? = some (.dtt ks)) {p : Addr} (ev : σ[i]? = some (some (.ref p))) : M Γ F ((Yd.unfr ρ).set i (.dtt ks2)) σ (upd H p (.dT (kvT ks2))) := by
  obtain ⟨p', ev0, h1, h3, h4, h5⟩ := m.dtt e
  rw [ev] at ev0
  cases ev0
  have m1 := m.unfr
  have own : ∀ {j : Nat} {q : Addr}, ownAt ((Yd.unfr ρ).set i (.dtt ks2)) σ j q → ownAt (Yd.unfr ρ) σ j q := fun {j q} ⟨⟨xs, q1⟩, q2⟩ => by
    by_cases hj : i = j
    · subst hj
      obtain ⟨z1, e1⟩ := List.getElem?_eq_some_iff.mp q1
      rw [List.getElem_set_self] at e1
      cases e1
    · rw [List.getElem?_set_ne hj] at q1
      exact ⟨⟨xs, q1⟩, q2⟩
  refine ⟨⟨m.st.ff, fun b u q => ?_, m.gi.upd h5, fun b u q nb => ?_, m.st.new, m.st.box⟩, m.gi0, by simp [m1.len], fun j a o g1 g2 => ?_, fun j k q g1 g2 => m1.dj j k q (own g1) (own g2), fun j x g1 => ?_⟩
  · rw [upd_ne (ne_of_none q h3)]; exact m.fh b u q
  · rw [upd_ne (ne_of_none q h4)]; exact m.st.keep b u q nb
  · by_cases hj : i = j
    · subst hj
      obtain ⟨z1, e1⟩ := List.getElem?_eq_some_iff.mp g1
      rw [List.getElem_set_self] at e1
      subst e1
      rw [ev] at g2
      cases g2
      exact ⟨p, rfl, upd_same, h3, h4, h5⟩
    · rw [List.getElem?_set_ne hj] at g1
      have q := m1.sl j a o g1 g2
      cases a with
      | own zs =>
        obtain ⟨p2, us, rfl, q1, q2, q3⟩ := q
        have n : p2 ≠ p := fun z => by
          subst z
          rw [h1] at q1
          cases q1
        exact ⟨p2, us, rfl, by rw [upd_ne n]; exact q1, q2, q3⟩
      | dct ks ds =>
        obtain ⟨b, _, e2⟩ := unfr_get g1
        cases b <;> cases e2
      | dtt ks =>
        obtain ⟨b, _, e2⟩ := unfr_get g1
        cases b <;> cases e2
      | lt ks =>
        obtain ⟨b, _, e2⟩ := unfr_get g1
        cases b <;> cases e2
      | _ => exact q
  · by_cases hj : i = j
    · subst hj
      obtain ⟨z1, e1⟩ := List.getElem?_eq_some_iff.mp g1
      rw [List.getElem_set_self] at e1
      cases e1
    · rw [List.getElem?_set_ne hj] at g1
      obtain ⟨b, e, e2⟩ := unfr_get g1
      cases b <;> cases e2
/-- frozen -/
theorem M.tfrz {Γ : Gm} {F : Hp} {ρ : List A} {σ : St} {H : Hp} (m : M Γ F ρ σ H) {i : Nat} {ks : List (List Int)} (e : ρ[i]? = some (.dtt ks)) : ∃ F', Same F F' ∧ M Γ F' ((Yd.unfr ρ).set i (.ft ks)) σ H := by
  obtain ⟨p, ev, h1, h3, h4, h5⟩ := m.dtt e
  have m1 := m.unfr
  have k : Same F (upd F p (.dT (kvT ks))) := fun b u q => by rw [upd_ne (ne_of_none q h3)]; exact q
  have own : ∀ {j : Nat} {q : Addr}, ownAt ((Yd.unfr ρ).set i (.ft ks)) σ j q → ownAt (Yd.unfr ρ) σ j q := fun {j q} ⟨⟨xs, q1⟩, q2⟩ => by
    by_cases hj : i = j
    · subst hj
      obtain ⟨z1, e1⟩ := List.getElem?_eq_some_iff.mp q1
      rw [List.getElem_set_self] at e1
      cases e1
    · rw [List.getElem?_set_ne hj] at q1
      exact ⟨⟨xs, q1⟩, q2⟩
  refine ⟨_, k, ⟨⟨m.st.ff.trans k, fun b u q => ?_, m.gi, m.st.keep, fun b q => ?_, fun b hb => ?_⟩, m.gi0, by simp [m1.len], fun j a o g1 g2 => ?_, fun j l q g1 g2 => m1.dj j l q (own g1) (own g2), fun j x g1 => ?_⟩⟩
  · by_cases z : b = p
    · subst z; rw [upd_same] at q; cases q; exact h1
    · rw [upd_ne z] at q; exact m.fh b u q
  · by_cases z : b = p
    · subst z; exact .inr h4
    · rw [upd_ne z] at q; exact m.st.new b q
  · have n : b ≠ p := fun z => by subst z; exact h5 hb
    rw [upd_ne n]; exact m.st.box b hb
  · by_cases hj : i = j
    · subst hj
      obtain ⟨z1, e1⟩ := List.getElem?_eq_some_iff.mp g1
      rw [List.getElem_set_self] at e1
      subst e1
      rw [ev] at g2; cases g2
      exact ⟨p, rfl, upd_same⟩
    · rw [List.getElem?_set_ne hj] at g1
      have q := m1.sl j a o g1 g2
      cases a with
      | own zs =>
        obtain ⟨p2, us, rfl, q1, q2, q3, q4, q5⟩ := q
        have n : p2 ≠ p := fun z => by
          subst z
          rw [h1] at q1
          cases q1
        exact ⟨p2, us, rfl, q1, q2.up k, by rw [upd_ne n]; exact q3, q4, q5⟩
      | dct ks ds =>
        obtain ⟨b, _, e2⟩ := unfr_get g1
        cases b <;> cases e2
      | dtt ks =>
        obtain ⟨b, _, e2⟩ := unfr_get g1
        cases b <;> cases e2
      | lt ks =>
        obtain ⟨b, _, e2⟩ := unfr_get g1
        cases b <;> cases e2
      | ft ks =>
        obtain ⟨p2, rfl, q⟩ := q
        exact ⟨p2, rfl, k _ _ q⟩
      | d x =>
        obtain ⟨v, e, q⟩ := q
        exact ⟨v, e, q.up k⟩
      | yard mm kk =>
        obtain ⟨v, e, q⟩ := q
        exact ⟨v, e, q.up k⟩
      | k x =>
        obtain ⟨v, e, q⟩ := q
        exact ⟨v, e, q.up (kn.up k)⟩
      | _ => exact q
  · by_cases hj : i = j
    · subst hj
      obtain ⟨z1, e1⟩ := List.getElem?_eq_some_iff.mp g1
      rw [List.getElem_set_self] at e1
      cases e1
    · rw [List.getElem?_set_ne hj] at g1
      obtain ⟨b, e, e2⟩ := unfr_get g1
      cases b <;> cases e2
def wTput (i : Nat) (wk wv : WE) : WS := fun ρ P => match ρ[i]? with
  | some (.dtt ks) => wv ρ fun x => x = .d (.bool true) ∧ wk ρ fun y => ∃ k : List Int, y = .d (.tuple (k.map PyData.int)) ∧ ks.length < sizeLine ∧ k ∉ ks ∧ P.nx ((unfr ρ).set i (.dtt (ks ++ [k])))
  | _ => False
theorem ss_tput {Γ : Gm} {tk tv : TE} {wk wv : WE} (i : Nat) (hk : SndE Γ tk wk) (hv : SndE Γ tv wv) : SndS Γ (sDPut (tVar i) tk tv) (wTput i wk wv) := fun ρ P F σ H D m q kk => by
  unfold wTput at q
  split at q
  · rename_i ks e1
    refine hv ρ _ F σ H _ m q fun F1 H1 v r s rr p => ?_
    obtain ⟨rfl, p⟩ := p
    have m1 := m.step s
    obtain ⟨a, ev, _⟩ := m1.dtt e1
    refine ⟨_, ev, hk ρ _ F1 σ H1 _ m1 p fun F2 H2 y ry s2 rry p2 => ?_⟩
    obtain ⟨k, rfl, l1, nm, p2⟩ := p2
    have m2 := m1.step s2
    obtain ⟨a2, ev2, e2, _⟩ := m2.dtt e1
    rw [ev] at ev2
    cases ev2
    obtain ⟨b, rfl, eb⟩ := tup_ints m2.fh rry
    cases (show Rp F1 v (.bool true) from rr)
    refine ⟨a, _, rfl, DPut.t e2 eb (by rw [kvT, List.length_map]; exact l1), kk.nx F2 σ _ _ (s.ff.trans s2.ff) ?_ p2⟩
    rw [put_new nm]
    exact m2.tput e1 ev
  · exact q.elim
theorem ps_tputA {X : Cx} {Γ : Gm} {e o v : Expr} {tk tv : TE} {wk wv wo : WE} {pos pos' : Pos} {i k : Nat} (hr : Room k X.A) (ho : PE X o (tVar i)) (hk : PD X Γ e tk wk) (hv : PD X Γ v tv wv) (hs : swapsWith v (some (.Subscript o e pos')) pos.line X.env = pure false := by rfl) : PDS X Γ (.Assign [.Subscript o e pos'] v pos) (sDPut (tVar i) tk tv) (wTput i wk wv) := ⟨ps_dput (hu_of hr) ho hk.pe hv.pe hs, ss_tput i hk.sd hv.sd⟩
theorem pd_lenT {Γ : Gm} {ρ : List A} {σ : St} {F H : Hp} {v : V} {F' H' : Hp} {ks : List (List Int)} (m : M Γ F' ρ σ H') (r : Res Γ ρ σ F H F' H' v (.ft ks)) : ∃ p, v = .ref p ∧ H' p = some (.dT (kvT ks)) := by
  obtain ⟨p, e, h⟩ := r
  exact ⟨p, e, m.fh _ _ h⟩
end Yd

/-! Yd4: a list lent to a call that hands back a dict or a list of tuples; {k: True}; sorted(d), len(d), return d of a dict by tuples; x not in such a list. -/
namespace Yd
open PySem L2 PySem.Spec PyProof.Rows
/-! ### a list that is lent to a call -/
def nlA : A → Bool
  | .lt _ => true
  | .ft _ => true
  | _ => false
def wBorL (i : Nat) (w : WE) : WE := fun ρ Q => match ρ[i]? with
  | some (.own xs) => w (ρ.set i (.d (.list xs))) fun r => nlA r = true ∧ Q r
  | _ => False
theorem e_borL (i : Nat) (w : WE) (ρ : List A) (Q : A → Prop) : wBorL i w ρ Q = ownK (ρ[i]?) fun xs => w (ρ.set i (.d (.list xs))) fun r => nlA r = true ∧ Q r := by unfold wBorL ownK; rfl
theorem nlA_lt (x) : nlA (.lt x) = true := rfl
theorem nlA_ft (x) : nlA (.ft x) = true := rfl
theorem sd_borL {Γ : Gm} {t : TE} {w : WE} (i : Nat) (h : SndE Γ t w) : SndE Γ t (wBorL i w) := fun ρ Q F σ H K m q k => by
  unfold wBorL at q
  split at q
  · rename_i xs e
    obtain ⟨p, vs, ev, h1, f1, kk, m1⟩ := m.frz0 e
    refine h _ _ _ σ H K m1 q fun F' H' v r s rr p2 => ?_
    have fp : F' p = some (.lst vs) := s.ff p _ upd_same
    have st : Stp Γ.G F H (fun a => if a = p then none else F' a) H' := by
      refine ⟨fun a o e => ?_, fun a o e => ?_, s.gi, s.keep, fun a e => ?_, fun a hb => ?_⟩
      · have n : a ≠ p := ne_of_none e f1
        show (if a = p then none else F' a) = some o
        rw [if_neg n]
        exact s.ff a o (kk a o e)
      · have e : (if a = p then none else F' a) = some o := e
        by_cases z : a = p
        · rw [if_pos z] at e; cases e
        · rw [if_neg z] at e; exact s.fh a o e
      · have e : (if a = p then none else F' a) ≠ none := e
        by_cases z : a = p
        · rw [if_pos z] at e; exact absurd rfl e
        · rw [if_neg z] at e
          rcases s.new a e with y | y
          · rw [upd_ne z] at y; exact .inl y
          · exact .inr y
      · show (if a = p then none else F' a) = none
        split
        · rfl
        · exact s.box a hb
    refine k _ H' v r st ?_ p2.2
    cases r with
    | lt ks =>
      obtain ⟨p', ws, rfl, hp, hf, t⟩ := rr
      have n : p' ≠ p := fun z => by rw [z, h1] at hp; cases hp
      exact ⟨p', ws, rfl, hp, (if_neg n).trans hf, t⟩
    | ft ks =>
      obtain ⟨p', rfl, hf⟩ := rr
      have n : p' ≠ p := fun z => by rw [z, fp] at hf; cases hf
      exact ⟨p', rfl, (if_neg n).trans hf⟩
    | _ => cases p2.1
  · exact q.elim
theorem pd_borL {X : Cx} {Γ : Gm} {e : Expr} {t : TE} {w : WE} (i : Nat) (h : PD X Γ e t w) : PD X Γ e t (wBorL i w) := ⟨h.pe, sd_borL i h.sd⟩
/-! ### {k: True} -/
def tDispT (tk tv : TE) : TE := fun σ H Q => ∀ p, H p = none → tk σ (upd H p (.dT [])) fun x H1 => tv σ H1 fun y H2 => H2 p = some (.dT []) ∧ ∃ (b : Addr) (k : List Key), x = .ref b ∧ H2 b = some (.tup (k.map kV)) ∧ Q (.ref p) (upd H2 p (.dT [(k, y)]))
def dispK (p : Addr) (Q : VK) : List (V × V) → Hp → Prop
  | [(x, y)], H2 => H2 p = some (.dT []) ∧ ∃ (b : Addr) (k : List Key), x = .ref b ∧ H2 b = some (.tup (k.map kV)) ∧ Q (.ref p) (upd H2 p (.dT [(k, y)]))
  | _, _ => False
theorem pe_dispT {X : Cx} {pos : Pos} {ke ve : Expr} {tk tv : TE} (hu : X.A.units + 1 < cLine) (hk : PE X ke tk) (hv : PE X ve tv) : PE X (.Dict [some ke] [ve] pos) (tDispT tk tv) := by
  refine ⟨fun pins s σ H Q I q => ?_⟩
  have hn := I.hok.fresh (Nat.le_refl s.heap.objs.size)
  have I1 := I.laid (a := s.heap.objs.size) (o := .dT []) (h' := s.heap.push { cls := .type "dict", data := .dict #[] }) (t' := s.toks) (fun _ _ q => Heap.get?_push_of_some _ q) (Nat.le_refl _) (dt_empty s.heap I.big)
  rw [arm_eval_Dict, zip_pairTrees [some ke] [ve] X.env pos rfl rfl, dictDisplay_pairs _ (by simp [pairTrees]) (by simp [pairTrees])]
  have hu' : (tupleKind (mixKind X.prog X.w)).room X.A := (show X.A.units < cLine by omega)
  refine wpAny_bind (wpAny_standAt (wpAny_bind (wpAny_subDictH (knd := tupleKind (mixKind X.prog X.w)) hu' (by simp [pairTrees]) ?_)))
  refine thn ((pps_cons (pos := pos) hk hv pps_nil).run pins _ σ _ (dispK s.heap.objs.size Q) I1 (q _ hn)) fun ws s2 ⟨ps, H2, I2, rel, hd⟩ => ?_
  unfold dispK at hd
  split at hd
  · rename_i x y
    obtain ⟨e, b, k, ex, eb, q2⟩ := hd
    cases rel with
    | @cons p0 r0 ps0 rs0 h0 t0 =>
    cases t0
    obtain ⟨u1, u2⟩ := r0
    obtain ⟨r1, r2⟩ := h0
    subst ex
    cases (show u1 = Value.ref b from r1)
    obtain ⟨z, hd, xs, r, dd⟩ := dt_of I2.hok e
    cases r
    refine ⟨[(k, b, u2)], ⟨rfl, rfl, key_of I2.hok eb, trivial⟩, dd, fun h' tk dd' hs => ?_⟩
    obtain ⟨o, es, ep, hq, h2, h3, h4, _, h5⟩ := dd'
    refine wpAny_pure ⟨.ref s.heap.objs.size, _, d_write (ob := .dT [(k, y)]) I2 (by rw [e]; exact True.intro) hs ⟨o, hq⟩ ⟨?_, hd, [(k, b, u2)], .cons ⟨rfl, ?_, r2⟩ .nil, o, es, ep, hq, h2, h3, h4, h5⟩, rfl, q2⟩
    · rw [sizeLine_eq]; simp
    · rw [upd_ne (ne_of eb e (fun z => nomatch z))]
      exact eb
  · exact hd.elim
def wTnew (wk wv : WE) : WE := fun ρ Q => wk ρ fun y => ∃ k : List Int, y = .d (.tuple (k.map PyData.int)) ∧ wv ρ fun x => x = .d (.bool true) ∧ Q (.dtt [k])
theorem sd_tnew {Γ : Gm} {tk tv : TE} {wk wv : WE} (hk : SndE Γ tk wk) (hv : SndE Γ tv wv) : SndE Γ (tDispT tk tv) (wTnew wk wv) := fun ρ Q F σ H K m q k p hp => by
  have nb : ¬ isBox Γ.G p := fun z => m.gi.box z hp
  have s0 := Stp.new0 (o := .dT []) m.fh m.gi m.st.box hp
  have m0 := m.step s0
  refine hk ρ _ F σ _ _ m0 q fun F1 H1 v r s1 r1 q1 => ?_
  obtain ⟨ks, rfl, q1⟩ := q1
  have m1 := m0.step s1
  refine hv ρ _ F1 σ H1 _ m1 q1 fun F2 H2 v2 rv s2 r2 q2 => ?_
  obtain ⟨rfl, q2⟩ := q2
  have m2 := m1.step s2
  have e1 : H1 p = some (.dT []) := s1.keep _ _ upd_same nb
  have e2 : H2 p = some (.dT []) := s2.keep _ _ e1 nb
  obtain ⟨b, rfl, eb⟩ := tup_ints m2.fh (Rp.up (show Rp F1 v _ from r1) s2.ff)
  cases (show Rp F2 v2 (.bool true) from r2)
  have f0 : F p = none := m.fh.free hp
  have f1 : F1 p = none := s1.none_keep upd_same f0
  have f2 : F2 p = none := s2.none_keep e1 f1
  have st := s0.trans m.gi (s1.trans m0.gi s2)
  exact ⟨e2, b, _, rfl, eb, k F2 _ _ (.dtt [ks]) (st.put hp f2 nb) ⟨p, rfl, hp, f2, upd_same⟩ q2⟩
theorem pd_tnew {X : Cx} {Γ : Gm} {k : Nat} {ke ve : Expr} {pos : Pos} {tk tv : TE} {wk wv : WE} (hr : Room k X.A) (hk : PD X Γ ke tk wk) (hv : PD X Γ ve tv wv) : PD X Γ (.Dict [some ke] [ve] pos) (tDispT tk tv) (wTnew wk wv) := ⟨pe_dispT (hu_of hr) hk.pe hv.pe, sd_tnew hk.sd hv.sd⟩
/-! ### it is handed back: frozen -/
def wTfz (i : Nat) (w : WS) : WS := fun ρ P => match ρ[i]? with
  | some (.dtt ks) => w ((unfr ρ).set i (.ft ks)) P
  | _ => False
theorem ss_tfz {Γ : Gm} {t : TS} {w : WS} (i : Nat) (h1 : SndS Γ t w) : SndS Γ t (wTfz i w) := fun ρ P F σ H D m h k => by
  unfold wTfz at h
  split at h
  · rename_i ks e
    obtain ⟨F', e', m'⟩ := m.tfrz e
    exact h1 _ P F' σ H D m' h (k.up e')
  · exact h.elim
theorem ps_tfz {X : Cx} {Γ : Gm} {s : Stmt} {t : TS} {w : WS} (i : Nat) (h : PDS X Γ s t w) : PDS X Γ s t (wTfz i w) := ⟨h.ps, ss_tfz i h.sd⟩
/-! ### len(d) -/
def wLenT (i : Nat) : WE := fun ρ Q => match ρ[i]? with
  | some (.ft ks) => Q (.int ks.length)
  | _ => False
theorem sd_lenT {Γ : Gm} (i : Nat) : SndE Γ (tCB rLenT (tCons (tVar i) tNil)) (wLenT i) := fun ρ Q F σ H K m q k => by
  unfold wLenT at q
  split at q
  · rename_i ks e1
    obtain ⟨a, ev, e2⟩ := m.ft e1
    refine ⟨_, ev, a, kvT ks, rfl, e2, k F H _ (.int _) m.stp ?_ q⟩
    rw [kvT, List.length_map]
    exact Rp.int _
  · exact q.elim
theorem pd_lenTA {X : Cx} {Γ : Gm} {e : Expr} {pos p : Pos} {i : Nat} (hm : X.mg "len" = none) (h : PD X Γ e (tVar i) (wName i)) (hg : Gl X "len" := by rfl) (he : starEach [e] X.env = (false, eval e X.env) :: starEach [] X.env := by rfl) (hpl : (backTo pos (starEach [] X.env)).any (·.1) = false := by rfl) :
    PD X Γ (.Call (.Name "len" p) [e] [] pos) (tCB rLenT (tCons (tVar i) tNil)) (wLenT i) := ⟨pe_callB call_len_dT hg hm PySem.boot_len (pa_cons h.pe pa_nil he) (by decide) (by decide) he hpl, sd_lenT i⟩
/-! ### sorted(d) -/
theorem kt_pairs {H : Hp} : ∀ {ks : List (List Int)} {xs : List (List Key × Addr × Value)}, KT H (kvT ks) xs → ∃ bs : List (Addr × List Int), bs.map (·.2) = ks ∧ xs.map (fun x => x.2.1) = bs.map (·.1) ∧ ∀ b ∈ bs, H b.1 = some (.tup (b.2.map V.int))
  | [], _, h => by
    cases h
    exact ⟨[], rfl, rfl, fun b hb => by cases hb⟩
  | k :: ks, _, h => by
    cases h with
    | @cons p q ps qs h1 t =>
      obtain ⟨bs, e1, e2, e3⟩ := kt_pairs (ks := ks) t
      obtain ⟨h1, h2, h3⟩ := h1
      refine ⟨(q.2.1, k) :: bs, by rw [List.map_cons, e1], by rw [List.map_cons, List.map_cons, e2], fun b hb => ?_⟩
      rcases List.mem_cons.mp hb with z | z
      · rw [z]
        show H q.2.1 = _
        rw [h2, List.map_map]
        rfl
      · exact e3 b z
theorem readsI : ∀ (k : List Int) {h : Heap} {vs : List Value} {as : List Addr}, ReadsAll h vs (k.map PyData.int) as → as = []
  | [], _, _, _, r => by cases r; rfl
  | i :: k, _, _, _, r => by
    rw [List.map_cons] at r
    cases r with
    | cons a b =>
      cases a
      rw [readsI k b]
      rfl
theorem readsT {k : List Int} {h : Heap} {v : Value} {as : List Addr} (r : Reads h v (intsD k) as) : as = [] := by
  cases r with
  | tuple _ _ _ e4 => exact readsI k e4
theorem alike_ints : ∀ a b : List Int, PySem.W.alikeAll (a.map PyData.int) (b.map PyData.int) = true
  | [], _ => by rw [List.map_nil, PySem.W.alikeAll]
  | _ :: _, [] => by rw [List.map_nil, List.map_cons, PySem.W.alikeAll]
  | x :: a, y :: b => by rw [List.map_cons, List.map_cons, PySem.W.alikeAll, alike_ints a b, PySem.W.alike]; rfl
theorem alike_all (ks : List (List Int)) : PySem.W.AllAlike (ks.map intsD) := fun d hd d' hd' => by
  obtain ⟨a, _, rfl⟩ := List.mem_map.mp hd
  obtain ⟨b, _, rfl⟩ := List.mem_map.mp hd'
  show PySem.W.alike (.tuple _) (.tuple _) = true
  rw [PySem.W.alike]
  exact alike_ints a b
theorem sort_all {ks : List (List Int)} (h : ∀ k ∈ ks, k ≠ []) : PySem.W.Sortable (ks.map intsD) := .inl fun d hd => by
  obtain ⟨a, ha, rfl⟩ := List.mem_map.mp hd
  cases a with
  | nil => exact absurd rfl (h _ ha)
  | cons x r => exact ⟨_, _, rfl⟩
theorem depth_ints (k : List Int) : (intsD k).depth ≤ 2 := by
  have : ∀ k : List Int, PyData.depthAll (k.map PyData.int) ≤ 1 := fun k => by
    induction k with
    | nil => simp [PyData.depthAll]
    | cons a l ih => simp only [List.map_cons, PyData.depthAll, PyData.depth]; omega
  have := this k
  show PyData.depth (.tuple _) ≤ 2
  rw [PyData.depth]
  omega
theorem each_map4 {β : Type} {f : β → Value} {R : Value → β → Prop} : ∀ (L1 : List β), (∀ p ∈ L1, R (f p) p) → PySem.W.EachIs R (L1.map f) L1
  | [], _ => .nil
  | p :: L1, h => .cons (h p List.mem_cons_self) (each_map4 L1 fun q hq => h q (List.mem_cons_of_mem _ hq))
theorem each_refs4 {β : Type} {f : β → Value} : ∀ {out : List Value} {L1 : List β}, PySem.W.EachIs (fun u (p : β) => u = f p) out L1 → out = L1.map f
  | _, _, .nil => rfl
  | _, _, .cons a b => by rw [List.map_cons, ← a, ← each_refs4 b]
def rSortT : List V → Hp → VK → Prop := fun xs H Q => ∃ (a : Addr) (ks : List (List Int)), xs = [.ref a] ∧ H a = some (.dT (kvT ks)) ∧ (∀ k ∈ ks, k ≠ []) ∧
  ∀ (p : Addr) (bs : List (Addr × List Int)), (bs.map (·.2)).Perm ks → (∀ b ∈ bs, H b.1 = some (.tup (b.2.map V.int))) → H p = none → Q (.ref p) (upd H p (.lst (bs.map fun b => V.ref b.1)))
/-- what the walk over a dict by tuples gives: the keys where they stand -/
theorem keys_refs {P : Program} {w : World} {es : Array DictEntry} {xs : List (List Key × Addr × Value)} {acc : Array Value} (he : es.toList = xs.map (entryOfKey (tupleKind (mixKind P w)))) (n : acc.size = es.size)
    (it : ∀ (j : Nat) (v : Value), acc[j]? = some v → ∃ en : DictEntry, es[j]? = some en ∧ v = en.key) : acc.toList = xs.map fun x => Value.ref x.2.1 := by
  have k : acc.toList = es.toList.map (·.key) := by
    refine List.ext_getElem (by simp [n]) fun j h1 h2 => ?_
    have hj : j < es.size := by simpa using h2
    obtain ⟨en, q1, q2⟩ := it j _ (Array.getElem?_eq_getElem (show j < acc.size by omega))
    rw [Array.getElem?_eq_getElem hj] at q1
    rw [List.getElem_map, Array.getElem_toList, Array.getElem_toList, q2, Option.some.inj q1]
  rw [k, he, List.map_map]
  rfl
theorem cr_sortDT {X : Cx} (hc : X.calm = true) (hu : X.A.units + 64 < cLine) : CallR X (.builtin "sorted") rSortT := by
  intro pins s σ H xs us Q I r h
  obtain ⟨a, ks, rfl, hd, ne, q⟩ := h
  obtain ⟨u, rfl, rx⟩ := vals1 r
  cases rx
  obtain ⟨z, hs, xs, pr, o, es, ep, ho, hx, hdt, he, hn⟩ := (show ObjOk X.prog X.w H s.heap a (.dT (kvT ks)) from I.hok a _ hd)
  have l1 : es.size = xs.length := size_of_entries he
  have l2 : (kvT ks).length = xs.length := Paired.length pr
  obtain ⟨bs, e1, e2, e3⟩ := kt_pairs pr
  have l3 : bs.length = xs.length := by
    have := congrArg List.length e2
    simpa using this.symm
  refine Calls.call_function_entry kind_sorted plain_sorted entry_sorted (args_sorted1 _) ?_
  unfold Builtin.«sorted»
  refine wpAny_bind (m := checkCount "sorted" 1 1 _) (wpAny_pure ?_)
  refine wpAny_bind (PySem.W.kdu_collect (A := X.A.in1) (kdl_raw hs hx hdt) (I.ok.hd hc) ho (by omega) fun h' tk acc hk it => ?_)
  have ea : acc.toList = bs.map fun b => Value.ref b.1 := by
    have ea := keys_refs he it.1 it.2
    have : (xs.map fun x => Value.ref x.2.1) = (xs.map fun x => x.2.1).map Value.ref := by rw [List.map_map]; rfl
    rw [ea, this, e2, List.map_map]
    rfl
  have I1 : Inv X pins σ H { s with heap := h', toks := tk } := I.kept hk
  refine wpAny_bind (wpAny_newList ?_ (by rw [ea, List.length_map, l3, ← l2]; exact z))
  rw [ea]
  have atL : (h'.push (seqObj "list" (bs.map fun b => Value.ref b.1).toArray 0)).get? h'.objs.size = some (seqObj "list" (bs.map fun b => Value.ref b.1).toArray 0) := Heap.get?_push_size _ rfl
  have rds : ∀ b ∈ bs, Reads h' (.ref b.1) (intsD b.2) [] := fun b hb => by
    have d : Dp X.K H (.ref b.1) (intsD b.2) := .tup (SqT.of (e3 b hb)) (RpL.dp (F := H) (Same.refl _) _ _ (RpL.ints b.2))
    obtain ⟨as, r⟩ := Dp.reads I1 _ _ (.ref b.1) d rfl
    have := readsT r
    subst this
    exact r
  have em : (bs.map fun b => intsD b.2) = ks.map intsD := by rw [← e1, List.map_map]; rfl
  show wpAny _ _ _ _ _ { s with heap := h'.push (seqObj "list" (bs.map fun b => Value.ref b.1).toArray 0), toks := tk }
  refine wpAny_bind (wpAny_holding (PySem.W.list_sort_data (s := { s with heap := h'.push (seqObj "list" (bs.map fun b => Value.ref b.1).toArray 0), toks := tk }) (R := fun u (b : Addr × List Int) => u = Value.ref b.1) (enc := fun b : Addr × List Int => intsD b.2) atL (each_map4 bs fun _ _ => rfl)
    (each_map4 bs fun b hb => ⟨[], PyProof.Rows.Reads.keeps (fun c u e => Heap.get?_push_of_some _ e) (rds b hb), by simp⟩) (by rw [em]; exact alike_all ks) (by rw [em]; exact sort_all ne) (by rw [l3, ← l2]; exact z) (fun b hb => by
      have := depth_ints b.2
      show X.A.units + 1 + 1 + _ < cLine
      omega) fun out lo eo => ?_))
  obtain ⟨cap, at_⟩ := sortedHeap_at (vs := bs.map fun b => Value.ref b.1) (out := out.toArray) atL
  have pm : (bs.mergeSort (PySem.W.dataLe false fun b : Addr × List Int => intsD b.2)).Perm bs := List.mergeSort_perm _ _
  generalize (bs.mergeSort (PySem.W.dataLe false fun b : Addr × List Int => intsD b.2)) = bs2 at eo pm
  have rv : Vals (bs2.map fun b => V.ref b.1) out.toArray.toList := by
    have : out.toArray.toList = bs2.map fun b => Value.ref b.1 := by simpa using each_refs4 eo
    rw [this]
    clear this eo pm
    induction bs2 with
    | nil => exact .nil
    | cons b bs2 ih => exact .cons rfl ih
  have ln : (bs2.map fun b => V.ref b.1).length ≤ sizeLine := by rw [List.length_map, pm.length_eq, l3, ← l2]; exact z
  refine wpAny_pure ⟨_, rfl, .ref h'.objs.size, upd H h'.objs.size (.lst (bs2.map fun b => V.ref b.1)), I1.laid (t' := tk) (fun b u e => ?_) (Nat.le_refl _)
    (show ObjOk X.prog X.w _ _ _ (.lst (bs2.map fun b => V.ref b.1)) from ⟨ln, _, cap, rv, by simpa using at_⟩), rfl, q _ bs2 ?_ (fun b hb => e3 b (pm.mem_iff.mp hb)) (I1.hok.fresh (Nat.le_refl _))⟩
  · have hb : b < h'.objs.size := Heap.lt_size e
    rw [PyProof.Rows.sortedHeap_old (Nat.ne_of_lt hb) (by rw [size_push']; exact Nat.lt_succ_of_lt hb)]
    exact Heap.get?_push_of_some _ e
  · rw [← e1]
    exact pm.map _
def wSortT (i : Nat) : WE := fun ρ Q => match ρ[i]? with
  | some (.dtt ks) => (∀ k ∈ ks, k ≠ []) ∧ ∀ ls : List (List Int), ls.Perm ks → Q (.lt ls)
  | _ => False
theorem tupL_of {H : Hp} {p : Addr} {o : HO} : ∀ {bs : List (Addr × List Int)}, (∀ b ∈ bs, H b.1 = some (.tup (b.2.map V.int))) → H p = none → TupL (upd H p o) (bs.map fun b => V.ref b.1) (bs.map (·.2))
  | [], _, _ => .nil
  | b :: bs, h, n => by
    refine .cons ?_ (tupL_of (fun c hc => h c (List.mem_cons_of_mem _ hc)) n)
    have e := h b List.mem_cons_self
    rw [upd_ne (ne_of_none e n)]
    exact e
theorem sd_sortT {Γ : Gm} (i : Nat) : SndE Γ (tCB rSortT (tCons (tVar i) tNil)) (wSortT i) := fun ρ Q F σ H K m q k => by
  unfold wSortT at q
  split at q
  · rename_i ks e1
    obtain ⟨ne, q⟩ := q
    obtain ⟨a, ev, e2, _⟩ := m.dtt e1
    refine ⟨_, ev, a, ks, rfl, e2, ne, fun p bs pm tb h0 => ?_⟩
    exact k _ _ _ (.lt (bs.map (·.2))) (Stp.new1 m.fh m.gi m.st.box h0) ⟨p, _, rfl, h0, upd_same, tupL_of tb h0⟩ (q _ pm)
  · exact q.elim
theorem pd_sortTA {X : Cx} {Γ : Gm} {e : Expr} {pos p : Pos} {i k : Nat} (hr : Room k X.A) (hm : X.mg "sorted" = none) (h : PE X e (tVar i)) (hc : X.calm = true := by rfl) (hg : Gl X "sorted" := by rfl) (he : starEach [e] X.env = (false, eval e X.env) :: starEach [] X.env := by rfl) (hpl : (backTo pos (starEach [] X.env)).any (·.1) = false := by rfl) :
    PD X Γ (.Call (.Name "sorted" p) [e] [] pos) (tCB rSortT (tCons (tVar i) tNil)) (wSortT i) := ⟨pe_callB (cr_sortDT hc (room64 hr)) hg hm boot_sorted' (pa_cons h pa_nil he) (by decide) (by decide) he hpl, sd_sortT i⟩
/-! ### x not in such a list -/
theorem M.lt {Γ : Gm} {F : Hp} {ρ : List A} {σ : L2.St} {H : Hp} (m : M Γ F ρ σ H) {i : Nat} {ks : List (List Int)} (e : ρ[i]? = some (.lt ks)) : ∃ p vs, σ[i]? = some (some (.ref p)) ∧ H p = some (.lst vs) ∧ TupL H vs ks := by
  obtain ⟨o, e2, q⟩ := m.slot e
  obtain ⟨p, vs, rfl, q, t⟩ := q
  exact ⟨p, vs, e2, m.fh _ _ q, t⟩
theorem TupL.dp {K : PySem.W.Frag} {H : Hp} : ∀ {vs : List V} {ks : List (List Int)}, TupL H vs ks → DpAll K H vs (ks.map intsD)
  | _, _, .nil => .nil
  | _, _, .cons (k := k) h t => .cons (.tup (SqT.of h) (RpL.dp (F := H) (Same.refl _) _ _ (RpL.ints k))) t.dp
theorem any_tups (k : List Int) : ∀ ks : List (List Int), ((ks.map intsD).any fun z => PyData.eqv z (intsD k)) = decide (k ∈ ks)
  | [] => rfl
  | a :: ks => by
    have pl : ∀ k : List Int, plainD (intsD k) = true := fun k => by
      show plainAll (k.map PyData.int) = true
      rw [plainAll_iff]
      intro x hx
      obtain ⟨i, _, rfl⟩ := List.mem_map.mp hx
      rfl
    have e : PyData.eqv (intsD a) (intsD k) = decide (k = a) := by
      rw [Bool.eq_iff_iff, eqv_iff _ _ (pl a) (pl k), decide_eq_true_iff]
      constructor
      · intro h
        exact ((List.map_inj_right (fun a b e => PyData.int.inj e)).mp (PyData.tuple.inj h)).symm
      · rintro rfl; rfl
    rw [List.map_cons, List.any_cons, e, any_tups k ks]
    by_cases z : k = a <;> simp [z]
theorem lay_ints (k : List Int) : PyData.canLay0 (intsD k) = true := by
  have : ∀ k : List Int, PyData.canLayAll0 (k.map PyData.int) = true := fun k => by
    induction k with
    | nil => simp [PyData.canLayAll0]
    | cons a l ih => simp only [List.map_cons, PyData.canLayAll0, ih, PyData.canLay0, Bool.and_self]
  show PyData.canLay0 (.tuple _) = true
  simp only [PyData.canLay0]
  exact this k
theorem shaped_tup (k : List Int) : SeqAt.shaped (intsD k) = true := by
  show (PyData.canLay0 (intsD k) && decide (PyData.depth (intsD k) ≤ 64)) = true
  have := depth_ints k
  rw [lay_ints, decide_eq_true (by omega)]
  rfl
theorem shaped_tups (ks : List (List Int)) : SeqAt.shaped (.list (ks.map intsD)) = true := by
  have h1 : PyData.canLayAll0 (ks.map intsD) = true := by
    induction ks with
    | nil => simp [PyData.canLayAll0]
    | cons a l ih => rw [List.map_cons, PyData.canLayAll0, ih, lay_ints]; rfl
  have h2 : PyData.depthAll (ks.map intsD) ≤ 2 := by
    clear h1
    induction ks with
    | nil => simp [PyData.depthAll]
    | cons a l ih =>
      have := depth_ints a
      rw [List.map_cons, PyData.depthAll]
      omega
  show (PyData.canLay0 (.list (ks.map intsD)) && decide (PyData.depth (.list (ks.map intsD)) ≤ 64)) = true
  rw [PyData.canLay0, h1, Bool.true_and]
  refine decide_eq_true ?_
  rw [PyData.depth]
  omega
def wLnin (i : Nat) (we : WE) : WT := fun ρ Q => match ρ[i]? with
  | some (.lt ks) => we ρ fun y => ∃ k : List Int, y = .d (.tuple (k.map PyData.int)) ∧ Q (!decide (k ∈ ks))
  | _ => False
theorem sd_lnin {Γ : Gm} {K0 : PySem.W.Frag} {te : TE} {we : WE} (i : Nat) (h : SndE Γ te we) : SndT Γ (tTest (tOp (rNotInD K0) te (tVar i))) (wLnin i we) := fun ρ Q F σ H K m q k => by
  unfold wLnin at q
  split at q
  · rename_i ks e1
    refine h ρ _ F σ H _ m q fun F1 H1 v r s rr p => ?_
    obtain ⟨ns, rfl, p⟩ := p
    have m1 := m.step s
    obtain ⟨a, vs, ev, e2, t⟩ := m1.lt e1
    refine ⟨_, ev, intsD ns, ks.map intsD, Rp.dp m1.fh _ _ rr, .lst (SqL.of e2) t.dp, shaped_tup _, shaped_tups _, _, rfl, ?_⟩
    rw [any_tups]
    exact k F1 H1 _ s p
  · exact q.elim
theorem pt_lnin {X : Cx} {Γ : Gm} {K0 : PySem.W.Frag} {k i : Nat} {e o : Expr} {te : TE} {we : WE} {pos : Pos} (hr : Room k X.A) (h : PD X Γ e te we) (ho : PE X o (tVar i)) (hb : behindInMarks .NotIn o = false := by rfl) (hK : X.K = K0 := by rfl) : PDT X Γ (.Compare e [.NotIn] [o] pos) (tTest (tOp (rNotInD K0) te (tVar i))) (wLnin i we) := by
  subst hK
  exact ⟨pt_cmpR (op_notInD (room65 hr)) h.pe ho hb, sd_lnin i h.sd⟩
/-! ### for r in x: r.clear() -/
def clr0K (i r : Nat) (o : Option A) (ρ : List A) (P : Po) : Prop := match o with
  | some (.fr (.list ds)) => i ≠ r ∧ r < ρ.length ∧ (∀ d ∈ ds, ∃ es, d = .list es ∧ turnP es) ∧ P.nx ((((unfr ρ).set i .un).set r .un).set r .un)
  | _ => False
def wClr0 (i r : Nat) : WS := fun ρ P => clr0K i r (ρ[i]?) ρ P
theorem e_clr0 (i r : Nat) (ρ : List A) (P : Po) : wClr0 i r ρ P = clr0K i r (ρ[i]?) ρ P := rfl
theorem clr0K_l (i r : Nat) (ds : List PyData) (ρ : List A) (P : Po) : clr0K i r (some (.fr (.list ds))) ρ P = (i ≠ r ∧ r < ρ.length ∧ (∀ d ∈ ds, ∃ es, d = .list es ∧ turnP es) ∧ P.nx ((((unfr ρ).set i .un).set r .un).set r .un)) := rfl
theorem ss_clr0 {Γ : Gm} {K : PySem.W.Frag} (i r : Nat) : SndS Γ (tFor (iList K (tVar i)) (gName r) (tDrop (tBM0 K "list" rClear (tVar r)))) (wClr0 i r) := fun ρ P F σ H D m h kk => by
  unfold wClr0 clr0K at h
  split at h
  · rename_i ds e
    obtain ⟨nir, hr, hd, hP⟩ := h
    obtain ⟨v, Fs, ev, rv, ss, n⟩ := m.fr i _ e
    cases rv with
    | @lst a vs _ f1 l1 =>
    have hσ : σ.length = ρ.length := m.len
    have start : Scr Γ F ρ σ i r r Fs a vs σ H := by
      have nofr : ∀ (j : Nat) (x : PyData), (unfr ρ)[j]? ≠ some (.fr x) := fun j x hx => by
        obtain ⟨b, _, e2⟩ := unfr_get hx
        cases b <;> cases e2
      have nofr2 : ∀ (k j : Nat) (x : PyData), ((unfr ρ).set k .un)[j]? ≠ some (.fr x) := fun k j x hx => by
        by_cases hk : k = j
        · subst hk
          obtain ⟨z1, e1⟩ := List.getElem?_eq_some_iff.mp hx
          rw [List.getElem_set_self] at e1
          cases e1
        · rw [List.getElem?_set_ne hk] at hx
          exact nofr j x hx
      have nofr3 : ∀ (k l j : Nat) (x : PyData), (((unfr ρ).set k .un).set l .un)[j]? ≠ some (.fr x) := fun k l j x hx => by
        by_cases hk : l = j
        · subst hk
          obtain ⟨z1, e1⟩ := List.getElem?_eq_some_iff.mp hx
          rw [List.getElem_set_self] at e1
          cases e1
        · rw [List.getElem?_set_ne hk] at hx
          exact nofr2 k j x hx
      refine ⟨((m.unfr.drop i nofr).drop r (nofr2 i)).drop r (nofr3 i r), rfl, fun _ _ _ => rfl, ss _ _ f1, fun b es h1 h2 => ?_, fun b xs h1 h2 => ?_⟩
      · cases h2 with
        | lst f2 _ => exact .inl (by rw [ss _ _ f2, f2])
      · cases h2 with
        | lst f2 _ => exact ⟨_, ss _ _ f2⟩
    have ra : Rp Fs (.ref a) (.list ds) := .lst f1 l1
    refine ⟨_, ev, a, rfl, ⟨_, SqL.of (ss _ _ f1)⟩, for_list (K := K) (a := a) (xs := vs) (fun _ σ' H' => Scr Γ F ρ σ i r r Fs a vs σ' H') start (fun _ _ _ _ q => SqL.of q.top) ?_ ?_⟩
    · intro j x σ' H' hx sc
      obtain ⟨d, hd1, rd⟩ := l1.get' hx
      have hm := List.mem_of_getElem? hd1
      obtain ⟨es, rfl, hrow⟩ := hd d hm
      have sc1 := sc.set (.inl rfl) hr x
      have er : (σ'.set r (some x))[r]? = some (some x) := by
        rw [List.getElem?_set_self (by rw [sc.len, hσ]; exact hr)]
      cases rd with
      | @lst b ws _ f2 l2 =>
      have rb : Rp Fs (.ref b) (.list es) := .lst f2 l2
      have nab : b ≠ a := rb.ne ra (list_mem_ne hm)
      obtain ⟨wsb, hb⟩ := sc1.trn b es hrow rb
      exact ⟨_, er, ty_list hb, b, wsb, rfl, rfl, hb, sc1.clr n rb nab⟩
    · intro σ' H' sc
      exact kk.nx F σ' H' _ (Same.refl _) sc.m hP
  · exact h.elim
theorem ps_clr0 {X : Cx} {Γ : Gm} {K : PySem.W.Frag} {tg e e4 : Expr} {i r : Nat} {pos p4 apos4 pos4 : Pos} {wg : WG} (hv : PD X Γ e (tVar i) (wName i)) (hg : PDG X Γ tg (gName r) wg) (hv4 : PD X Γ e4 (tVar r) (wName r)) (hp : PassesOwn (model X.prog X.w) X.A X.env X.xe) (hc : X.calm = true := by rfl)
    (hs : ∀ x, foldedSetIterable e X.env x = pure x := by intro _; rfl)
    (hs4 : swapsWith (.Call (.Attribute e4 "clear" apos4) [] [] p4) none pos4.line X.env = pure false := by rfl)
    (hb4 : attributeBase e4 "clear" X.env (eval e4 X.env) = eval e4 X.env := by rfl)
    (hl4 : (apos4.endLine == p4.line) = true := by rfl) (hK : X.K = K := by rfl) :
    PDS X Γ (.For tg e [.Expr (.Call (.Attribute e4 "clear" apos4) [] [] p4) pos4] [] pos) (tFor (iList K (tVar i)) (gName r) (tDrop (tBM0 K "list" rClear (tVar r)))) (wClr0 i r) := by
  subst hK
  exact ⟨ps_for hp hc (pi_list hv.pe) hg.pg (pss_one (ps_expr (pe_bm0 PySem.F.plainAttrs_list PySem.F.slot_list_clear PySem.F.type_list_clear mt_clear hv4.pe hb4 hl4) hs4)) hs, ss_clr0 i r⟩
/-! ### for the walk -/
def dttK (o : Option A) (K : List (List Int) → Prop) : Prop := match o with
  | some (.dtt ks) => K ks
  | _ => False
theorem dttK_d (ks : List (List Int)) (K : List (List Int) → Prop) : dttK (some (.dtt ks)) K = K ks := rfl
def dnK (o : Option A) (K : List (List Int) → Prop) : Prop := match o with
  | some (.dtt ks) => K ks
  | some (.ft ks) => K ks
  | _ => False
theorem dnK_d (ks : List (List Int)) (K : List (List Int) → Prop) : dnK (some (.dtt ks)) K = K ks := rfl
theorem dnK_f (ks : List (List Int)) (K : List (List Int) → Prop) : dnK (some (.ft ks)) K = K ks := rfl
def ftK (o : Option A) (K : List (List Int) → Prop) : Prop := match o with
  | some (.ft ks) => K ks
  | _ => False
theorem ftK_f (ks : List (List Int)) (K : List (List Int) → Prop) : ftK (some (.ft ks)) K = K ks := rfl
def ltK (o : Option A) (K : List (List Int) → Prop) : Prop := match o with
  | some (.lt ks) => K ks
  | _ => False
theorem ltK_l (ks : List (List Int)) (K : List (List Int) → Prop) : ltK (some (.lt ks)) K = K ks := rfl
/-- a tuple of ints -/
def tuK (r : A) (K : List Int → Prop) : Prop := ∃ k : List Int, r = .d (.tuple (k.map PyData.int)) ∧ K k
/-- a tuple of names, as a key -/
def nsI (l : List Nat) : List Int := l.map fun x : Nat => (x : Int)
theorem nsI_d (l : List Nat) : (nsI l).map PyData.int = l.map nI := by unfold nsI; rw [List.map_map]; rfl
theorem nsI_inj : ∀ {a b : List Nat}, nsI a = nsI b → a = b
  | [], [], _ => rfl
  | [], _ :: _, h => by cases h
  | _ :: _, [], h => by cases h
  | x :: a, y :: b, h => by
    obtain ⟨h1, h2⟩ := List.cons.inj (show (x : Int) :: nsI a = (y : Int) :: nsI b from h)
    rw [nsI_inj h2]
    congr 1
    omega
theorem nsI_mem {a : List Nat} {ks : List (List Nat)} : nsI a ∈ ks.map nsI ↔ a ∈ ks := by
  rw [List.mem_map]
  exact ⟨fun ⟨b, hb, e⟩ => by rw [← nsI_inj e]; exact hb, fun h => ⟨a, h, rfl⟩⟩
theorem tuK_n (l : List Nat) (K : List Int → Prop) : tuK (.d (.tuple (l.map nI))) K = K (nsI l) := by
  unfold tuK
  refine propext ⟨fun ⟨k, h, q⟩ => ?_, fun h => ⟨_, by rw [nsI_d], h⟩⟩
  have h := PyData.tuple.inj (A.d.inj h)
  rw [← nsI_d] at h
  rw [(List.map_inj_right (fun a b e => PyData.int.inj e)).mp h]
  exact q
theorem e_tnew (wk wv : WE) (ρ : List A) (Q : A → Prop) : wTnew wk wv ρ Q = wk ρ fun y => tuK y fun k => wv ρ fun x => x = .d (.bool true) ∧ Q (.dtt [k]) := rfl
theorem e_tfz (i : Nat) (w : WS) (ρ : List A) (P : Po) : wTfz i w ρ P = dttK (ρ[i]?) fun ks => w ((unfr ρ).set i (.ft ks)) P := by unfold wTfz dttK; rfl
theorem e_lenT (i : Nat) (ρ : List A) (Q : A → Prop) : wLenT i ρ Q = ftK (ρ[i]?) fun ks => Q (.d (.int ks.length)) := by unfold wLenT ftK; rfl
theorem e_sortT (i : Nat) (ρ : List A) (Q : A → Prop) : wSortT i ρ Q = dttK (ρ[i]?) fun ks => (∀ k ∈ ks, k ≠ []) ∧ ∀ ls : List (List Int), ls.Perm ks → Q (.lt ls) := by unfold wSortT dttK; rfl
theorem e_lnin (i : Nat) (we : WE) (ρ : List A) (Q : Bool → Prop) : wLnin i we ρ Q = ltK (ρ[i]?) fun ks => we ρ fun y => tuK y fun k => Q (!decide (k ∈ ks)) := by unfold wLnin ltK tuK; rfl
theorem e_tnin (i : Nat) (we : WE) (ρ : List A) (Q : Bool → Prop) : wTnin i we ρ Q = dnK (ρ[i]?) fun ks => we ρ fun y => tuK y fun k => Q (!decide (k ∈ ks)) := by
  unfold wTnin dnK tuK
  cases ρ[i]? with
  | none => rfl
  | some a => cases a <;> rfl
theorem e_tput (i : Nat) (wk wv : WE) (ρ : List A) (P : Po) : wTput i wk wv ρ P = dttK (ρ[i]?) fun ks => wv ρ fun x => x = .d (.bool true) ∧ wk ρ fun y => tuK y fun k => ks.length < sizeLine ∧ k ∉ ks ∧ P.nx ((unfr ρ).set i (.dtt (ks ++ [k]))) := by unfold wTput dttK tuK; rfl
theorem tr_bl : (A.d (.bool true) = A.d (.bool true)) = True := eq_self _
section
variable {X : Cx} {Γ : Gm} {K : PySem.W.Frag} {e o v : Expr} {te tk tv : TE} {we wk wv : WE} {pos pos' p : Pos} {i k : Nat}
theorem pt_tninA (hr : Room k X.A) (h : PD X Γ e te we) (ho : PD X Γ o (tVar i) (wName i)) (hb : behindInMarks .NotIn o = false := by rfl) : PDT X Γ (.Compare e [.NotIn] [o] pos) (tB (tDNotIn te (tVar i))) (wTnin i we) := pt_tnin (wo := wName i) hr h ho.pe hb
theorem pt_lninA (hr : Room k X.A) (h : PD X Γ e te we) (ho : PD X Γ o (tVar i) (wName i)) (hb : behindInMarks .NotIn o = false := by rfl) (hK : X.K = K := by rfl) : PDT X Γ (.Compare e [.NotIn] [o] pos) (tTest (tOp (rNotInD K) te (tVar i))) (wLnin i we) := pt_lnin hr h ho.pe hb hK
theorem ps_tputB (hr : Room k X.A) (ho : PD X Γ o (tVar i) (wName i)) (hk : PD X Γ e tk wk) (hv : PD X Γ v tv wv) (hs : swapsWith v (some (.Subscript o e pos')) pos.line X.env = pure false := by rfl) : PDS X Γ (.Assign [.Subscript o e pos'] v pos) (sDPut (tVar i) tk tv) (wTput i wk wv) := ps_tputA (wo := wName i) hr ho.pe hk hv hs
theorem pd_sortTB (hr : Room k X.A) (hm : X.mg "sorted" = none) (h : PD X Γ e (tVar i) (wName i)) (hc : X.calm = true := by rfl) (hg : Gl X "sorted" := by rfl) (he : starEach [e] X.env = (false, eval e X.env) :: starEach [] X.env := by rfl) (hpl : (backTo pos (starEach [] X.env)).any (·.1) = false := by rfl) :
    PD X Γ (.Call (.Name "sorted" p) [e] [] pos) (tCB rSortT (tCons (tVar i) tNil)) (wSortT i) := pd_sortTA hr hm h.pe hc hg he hpl
end
/-! ### tuple(range(..)) -/
def wTupRg (e : List A → (Int → Int → Prop) → Prop) : WE := fun ρ Q => e ρ fun a b => RgOk a b ∧ Q (.d (.tuple (rgD a (b - a).toNat)))
theorem e_tupRg (w : List A → (Int → Int → Prop) → Prop) (ρ : List A) (Q : A → Prop) : wTupRg w ρ Q = w ρ fun a b => RgOk a b ∧ Q (.d (.tuple (rgD a (b - a).toNat))) := rfl
theorem sd_tupRg {Γ : Gm} {t : L2.St → Hp → (Int → Int → Hp → Prop) → Prop} {w : List A → (Int → Int → Prop) → Prop} (h : SndRg Γ t w) : SndE Γ (tTupRg t) (wTupRg w) := fun ρ Q F σ H K m q k =>
  h ρ _ F σ H _ m q fun F1 H1 a b s p => by
    refine ⟨p.1, fun x hx => ?_⟩
    have s2 := Stp.new1 (o := .tup (rgV a b)) s.fh s.gi s.box hx
    exact k _ _ _ (.d (.tuple _)) (s.trans m.gi s2) (Rp.tup upd_same (rp_rg a b)) p.2
theorem pd_tupRg {X : Cx} {Γ : Gm} {e : Expr} {pos p : Pos} {t : L2.St → Hp → (Int → Int → Hp → Prop) → Prop} {w : List A → (Int → Int → Prop) → Prop} (hm : X.mg "tuple" = none) (h : PDR X Γ e t w) (hc : X.calm = true := by rfl) (hg : Gl X "tuple" := by rfl) (na : starEach [e] X.env = (false, eval e X.env) :: starEach [] X.env := by rfl) :
    PD X Γ (.Call (.Name "tuple" p) [e] [] pos) (tTupRg t) (wTupRg w) := ⟨pe_tupRg hc hg hm h.pr na, sd_tupRg h.sd⟩
end Yd

namespace Yd
open PySem L2
def topS (i : Nat) : Stmt := PySem.Challenge.pw_sameyard_k12_whole_few_tell_all.main.body.getD i (.Pass ⟨0, 0, 0, 0⟩)
abbrev s_wall : Stmt := topS 0
abbrev n_wall : List Str := ["k"]
abbrev p_wall : List Str := ["k"]
theorem sc_wall : FnScope n_wall p_wall (defScope s_wall) := ⟨rfl, rfl, rfl, by decide +kernel, rfl, by decide +kernel, by decide +kernel⟩
abbrev s_BadYard_init : Stmt := inClass (topS 3) 0
abbrev n_BadYard_init : List Str := ["self", "word", "number"]
abbrev p_BadYard_init : List Str := ["self", "word", "number"]
theorem sc_BadYard_init : FnScope n_BadYard_init p_BadYard_init (defScope s_BadYard_init) := ⟨rfl, rfl, rfl, by decide +kernel, rfl, by decide +kernel, by decide +kernel⟩
abbrev s_clash : Stmt := topS 5
abbrev n_clash : List Str := ["one", "other", "names", "place", "name", "elder"]
abbrev p_clash : List Str := ["one", "other", "names", "place", "name"]
theorem sc_clash : FnScope n_clash p_clash (defScope s_clash) := ⟨rfl, rfl, rfl, by decide +kernel, rfl, by decide +kernel, by decide +kernel⟩
abbrev s_first : Stmt := topS 6
abbrev n_first : List Str := ["one", "other", "given", "names", "place"]
abbrev p_first : List Str := ["one", "other", "given"]
theorem sc_first : FnScope n_first p_first (defScope s_first) := ⟨rfl, rfl, rfl, by decide +kernel, rfl, by decide +kernel, by decide +kernel⟩
abbrev s_led_on : Stmt := topS 7
abbrev n_led_on : List Str := ["one", "other", "names", "name", "found"]
abbrev p_led_on : List Str := ["one", "other", "names"]
theorem sc_led_on : FnScope n_led_on p_led_on (defScope s_led_on) := ⟨rfl, rfl, rfl, by decide +kernel, rfl, by decide +kernel, by decide +kernel⟩
abbrev s_must_be : Stmt := topS 11
abbrev n_must_be : List Str := ["good", "word", "number"]
abbrev p_must_be : List Str := ["good", "word", "number"]
theorem sc_must_be : FnScope n_must_be p_must_be (defScope s_must_be) := ⟨rfl, rfl, rfl, by decide +kernel, rfl, by decide +kernel, by decide +kernel⟩
abbrev s_Yard_init : Stmt := inClass (topS 12) 0
abbrev n_Yard_init : List Str := ["self", "marks", "ties", "many", "place", "other", "number", "one", "kind"]
abbrev p_Yard_init : List Str := ["self", "marks", "ties"]
theorem sc_Yard_init : FnScope n_Yard_init p_Yard_init (defScope s_Yard_init) := ⟨rfl, rfl, rfl, by decide +kernel, rfl, by decide +kernel, by decide +kernel⟩
abbrev s_Yard_many : Stmt := inClass (topS 12) 1
abbrev n_Yard_many : List Str := ["self"]
abbrev p_Yard_many : List Str := ["self"]
theorem sc_Yard_many : FnScope n_Yard_many p_Yard_many (defScope s_Yard_many) := ⟨rfl, rfl, rfl, by decide +kernel, rfl, by decide +kernel, by decide +kernel⟩
abbrev s_Yard_marks : Stmt := inClass (topS 12) 2
abbrev n_Yard_marks : List Str := ["self"]
abbrev p_Yard_marks : List Str := ["self"]
theorem sc_Yard_marks : FnScope n_Yard_marks p_Yard_marks (defScope s_Yard_marks) := ⟨rfl, rfl, rfl, by decide +kernel, rfl, by decide +kernel, by decide +kernel⟩
abbrev s_Yard_ties : Stmt := inClass (topS 12) 3
abbrev n_Yard_ties : List Str := ["self", "found", "one", "other"]
abbrev p_Yard_ties : List Str := ["self"]
theorem sc_Yard_ties : FnScope n_Yard_ties p_Yard_ties (defScope s_Yard_ties) := ⟨rfl, rfl, rfl, by decide +kernel, rfl, by decide +kernel, by decide +kernel⟩
abbrev s_Yard_need_place : Stmt := inClass (topS 12) 4
abbrev n_Yard_need_place : List Str := ["self", "place"]
abbrev p_Yard_need_place : List Str := ["self", "place"]
theorem sc_Yard_need_place : FnScope n_Yard_need_place p_Yard_need_place (defScope s_Yard_need_place) := ⟨rfl, rfl, rfl, by decide +kernel, rfl, by decide +kernel, by decide +kernel⟩
abbrev s_behind : Stmt := topS 14
abbrev n_behind : List Str := ["one", "other", "name"]
abbrev p_behind : List Str := ["one", "other"]
theorem sc_behind : FnScope n_behind p_behind (defScope s_behind) := ⟨rfl, rfl, rfl, by decide +kernel, rfl, by decide +kernel, by decide +kernel⟩
abbrev s_steps : Stmt := topS 15
abbrev n_steps : List Str := ["yard", "found", "place", "row", "name", "turn"]
abbrev p_steps : List Str := ["yard"]
theorem sc_steps : FnScope n_steps p_steps (defScope s_steps) := ⟨rfl, rfl, rfl, by decide +kernel, rfl, by decide +kernel, by decide +kernel⟩
abbrev s_count : Stmt := topS 16
abbrev n_count : List Str := ["yard", "found", "row"]
abbrev p_count : List Str := ["yard"]
theorem sc_count : FnScope n_count p_count (defScope s_count) := ⟨rfl, rfl, rfl, by decide +kernel, rfl, by decide +kernel, by decide +kernel⟩
abbrev s_told_by : Stmt := topS 17
abbrev n_told_by : List Str := ["some", "many", "found", "waiting", "here", "turn", "more"]
abbrev p_told_by : List Str := ["some", "many"]
theorem sc_told_by : FnScope n_told_by p_told_by (defScope s_told_by) := ⟨rfl, rfl, rfl, by decide +kernel, rfl, by decide +kernel, by decide +kernel⟩
abbrev s_few : Stmt := topS 18
abbrev n_few : List Str := ["yard", "found", "told", "row", "turn"]
abbrev p_few : List Str := ["yard"]
theorem sc_few : FnScope n_few p_few (defScope s_few) := ⟨rfl, rfl, rfl, by decide +kernel, rfl, by decide +kernel, by decide +kernel⟩
abbrev s_law_box : Stmt := topS 20
abbrev n_law_box : List Str := ["_law_script", "_law_mixed", "_law_cell"]
abbrev p_law_box : List Str := ["_law_script"]
theorem sc_law_box : FnScope n_law_box p_law_box (defScope s_law_box) := ⟨rfl, rfl, rfl, by decide +kernel, rfl, by decide +kernel, by decide +kernel⟩
abbrev s_law_take : Stmt := topS 21
abbrev n_law_take : List Str := ["_law_box_here", "_law_many", "_law_number"]
abbrev p_law_take : List Str := ["_law_box_here", "_law_many"]
theorem sc_law_take : FnScope n_law_take p_law_take (defScope s_law_take) := ⟨rfl, rfl, rfl, by decide +kernel, rfl, by decide +kernel, by decide +kernel⟩
abbrev s_law_alike : Stmt := topS 22
abbrev n_law_alike : List Str := ["_law_found", "_law_due", "_law_k"]
abbrev p_law_alike : List Str := ["_law_found", "_law_due"]
theorem sc_law_alike : FnScope n_law_alike p_law_alike (defScope s_law_alike) := ⟨rfl, rfl, rfl, by decide +kernel, rfl, by decide +kernel, by decide +kernel⟩
abbrev s_law_yard : Stmt := topS 23
abbrev n_law_yard : List Str := ["_law_box_here", "_law_most", "_law_many", "_law_marks", "_law_kinds_here", "_law_ties", "_law_one", "_law_other", "_law_kind_here", "_law_place"]
abbrev p_law_yard : List Str := ["_law_box_here", "_law_most"]
theorem sc_law_yard : FnScope n_law_yard p_law_yard (defScope s_law_yard) := ⟨rfl, rfl, rfl, by decide +kernel, rfl, by decide +kernel, by decide +kernel⟩
abbrev s_law_even : Stmt := topS 24
abbrev n_law_even : List Str := ["_law_box_here", "_law_many", "_law_gaps", "_law_ties", "_law_one", "_law_other", "_law_k"]
abbrev p_law_even : List Str := ["_law_box_here"]
theorem sc_law_even : FnScope n_law_even p_law_even (defScope s_law_even) := ⟨rfl, rfl, rfl, by decide +kernel, rfl, by decide +kernel, by decide +kernel⟩
abbrev s_law_drawn : Stmt := topS 25
abbrev n_law_drawn : List Str := ["_law_box_here", "_law_most", "_law_rows"]
abbrev p_law_drawn : List Str := ["_law_box_here", "_law_most"]
theorem sc_law_drawn : FnScope n_law_drawn p_law_drawn (defScope s_law_drawn) := ⟨rfl, rfl, rfl, by decide +kernel, rfl, by decide +kernel, by decide +kernel⟩
abbrev s_law_kind : Stmt := topS 28
abbrev n_law_kind : List Str := ["_law_rows", "_law_one", "_law_other", "_law_tie"]
abbrev p_law_kind : List Str := ["_law_rows", "_law_one", "_law_other"]
theorem sc_law_kind : FnScope n_law_kind p_law_kind (defScope s_law_kind) := ⟨rfl, rfl, rfl, by decide +kernel, rfl, by decide +kernel, by decide +kernel⟩
abbrev s_law_kinds : Stmt := topS 29
abbrev n_law_kinds : List Str := ["_law_rows", "_law_many", "_law_found", "_law_one", "_law_other"]
abbrev p_law_kinds : List Str := ["_law_rows"]
theorem sc_law_kinds : FnScope n_law_kinds p_law_kinds (defScope s_law_kinds) := ⟨rfl, rfl, rfl, by decide +kernel, rfl, by decide +kernel, by decide +kernel⟩
abbrev s_law_all : Stmt := topS 30
abbrev n_law_all : List Str := ["_law_one", "_law_other", "_law_given", "_law_mine", "_law_theirs", "_law_found", "_law_place", "_law_longer", "_law_names_here", "_law_some", "_law_name", "_law_good", "_law_k"]
abbrev p_law_all : List Str := ["_law_one", "_law_other", "_law_given"]
theorem sc_law_all : FnScope n_law_all p_law_all (defScope s_law_all) := ⟨rfl, rfl, rfl, by decide +kernel, rfl, by decide +kernel, by decide +kernel⟩
abbrev s_law_come_of : Stmt := topS 31
abbrev n_law_come_of : List Str := ["_law_some", "_law_many", "_law_front", "_law_found", "_law_here", "_law_turn", "_law_more", "_law_name"]
abbrev p_law_come_of : List Str := ["_law_some", "_law_many"]
theorem sc_law_come_of : FnScope n_law_come_of p_law_come_of (defScope s_law_come_of) := ⟨rfl, rfl, rfl, by decide +kernel, rfl, by decide +kernel, by decide +kernel⟩
abbrev s_law_doubled : Stmt := topS 32
abbrev n_law_doubled : List Str := ["_law_many", "_law_found", "_law_k"]
abbrev p_law_doubled : List Str := ["_law_many"]
theorem sc_law_doubled : FnScope n_law_doubled p_law_doubled (defScope s_law_doubled) := ⟨rfl, rfl, rfl, by decide +kernel, rfl, by decide +kernel, by decide +kernel⟩
abbrev s_law : Stmt := topS 33
abbrev n_law : List Str := ["_law_script", "_law_box_here", "_law_rows", "_law_many", "_law_yard_here", "_law_turns", "_law_found", "_law_turn", "_law_due", "_law_told", "_law_row"]
abbrev p_law : List Str := ["_law_script"]
theorem sc_law : FnScope n_law p_law (defScope s_law) := ⟨rfl, rfl, rfl, by decide +kernel, rfl, by decide +kernel, by decide +kernel⟩
/-- what the walk asks of the text's names as the top has left them -/
structure Txt (K : PySem.W.Frag) (mg : Str → Option Value) (C : Addr) : Prop where
  bool : mg "bool" = none
  int : mg "int" = none
  isinstance : mg "isinstance" = none
  len : mg "len" = none
  list : mg "list" = none
  max : mg "max" = none
  min : mg "min" = none
  range : mg "range" = none
  reversed : mg "reversed" = none
  sorted : mg "sorted" = none
  str : mg "str" = none
  tuple : mg "tuple" = none
  cY : Cls K C
  n_marked : NoAttr K C "marked"
  n_kinds : NoAttr K C "kinds"
  mg_Yard : mg "Yard" = some (.ref C)
  mkY : PySem.W.makesIn K C = true
  kpY : PySem.W.keepIn K (.ref C) = true
  mg_MOST_PLACES : ∃ tk, mg "MOST_PLACES" = some (.int 7 tk)
  mg_MOST_NUMBER : ∃ tk, mg "MOST_NUMBER" = some (.int 9 tk)
  d_wall : Dfn K mg "_wall" s_wall p_wall
  d_clash : Dfn K mg "clash" s_clash p_clash
  d_first : Dfn K mg "first" s_first p_first
  d_led_on : Dfn K mg "led_on" s_led_on p_led_on
  d_must_be : Dfn K mg "must_be" s_must_be p_must_be
  d_Yard_init : Mfn K C "__init__" "Yard.__init__" s_Yard_init p_Yard_init
  d_Yard_many : Mfn K C "many" "Yard.many" s_Yard_many p_Yard_many
  d_Yard_marks : Mfn K C "marks" "Yard.marks" s_Yard_marks p_Yard_marks
  d_Yard_ties : Mfn K C "ties" "Yard.ties" s_Yard_ties p_Yard_ties
  d_Yard_need_place : Mfn K C "need_place" "Yard.need_place" s_Yard_need_place p_Yard_need_place
  d_behind : Dfn K mg "behind" s_behind p_behind
  d_steps : Dfn K mg "steps" s_steps p_steps
  d_count : Dfn K mg "count" s_count p_count
  d_told_by : Dfn K mg "told_by" s_told_by p_told_by
  d_few : Dfn K mg "few" s_few p_few
  d_law_box : Dfn K mg "_law_box" s_law_box p_law_box
  d_law_take : Dfn K mg "_law_take" s_law_take p_law_take
  d_law_alike : Dfn K mg "_law_alike" s_law_alike p_law_alike
  d_law_yard : Dfn K mg "_law_yard" s_law_yard p_law_yard
  d_law_even : Dfn K mg "_law_even" s_law_even p_law_even
  d_law_drawn : Dfn K mg "_law_drawn" s_law_drawn p_law_drawn
  d_law_kind : Dfn K mg "_law_kind" s_law_kind p_law_kind
  d_law_kinds : Dfn K mg "_law_kinds" s_law_kinds p_law_kinds
  d_law_all : Dfn K mg "_law_all" s_law_all p_law_all
  d_law_come_of : Dfn K mg "_law_come_of" s_law_come_of p_law_come_of
  d_law_doubled : Dfn K mg "_law_doubled" s_law_doubled p_law_doubled
  d_law : Dfn K mg "law" s_law p_law

local macro_rules | `(tactic| walk_at "wp") => `(tactic| (try simp only [e_startA, List.length_cons, List.length_nil, List.replicate, List.cons_append, List.nil_append, List.append_nil, Nat.reduceAdd, Nat.reduceSub, List.set_cons_zero, List.set_cons_succ, List.getElem?_cons_zero, List.getElem?_cons_succ, optK_some, ownK_own, nameK_own, nameK_d, nameK_yard, nameK_box, nameK_raw, nameK_k, frK_k, frK_fr, fzK_fr, fzK_yard, fzK_box, fzK_raw, fzK_k, e_unfr, unfrA_un, unfrA_d, unfrA_own, unfrA_yard, unfrA_box, unfrA_raw, unfrA_k, unfrA_fr, ixA_kt, ixA_kl, lenA_k, listA_k, kA_i, kA_l, kA_t, e_callF, frR_d, frR_o, frOk_y, frOk_i, List.all_cons, List.all_nil, Bool.and_self, e_name, blK_bl, intK_int, ydK_y, frK_d, frK_own, frK_yard, frK_raw, frK_box, rtK_d, rtK_own, rtK_bor, rtK_yard, lsK_d, lsK_own, tpK_d, fzK_own, fzK_d, fzK_un, e_next, e_do, e_doT, e_seq, e_break, e_cont, e_drop, e_ret, e_retN, e_if, e_set, e_fz, e_app, e_put, e_clear, e_popSet, e_appPop, e_ext, e_for, e_while, e_asg, e_gN, e_gT, e_gNil, e_gCons, e_c, e_op, e_un, e_test, e_and, e_or, e_not, e_andV, e_orV, e_notV, e_ifE, e_nil, e_cons, e_tup, e_lst, e_cb, e_chain, e_marked, e_kinds, e_meth, e_make, e_call, e_lc, e_wipe0, e_wipe, e_yes, e_range1, e_range2, e_list, e_tupI, e_enum, e_rev, e_noPart, e_part, e_sl, e_lstRg, e_rg1, e_rg2, e_borT, e_bor, addA_int, addA_str, addA_tup, addA_dd, addA_do, addA_od, addA_oo, addA_bo, addA_ob, subA_int, mulA_int, mulA_own, fdivA_int, modA_int, negA_int, cmpA_int, eqA_int, eqA_str, neA_int, neA_str, eqA_dd, eqA_tt, eqA_do, eqA_od, eqA_oo, eqA_bo, eqA_ob, eqA_bd, eqA_db, eqA_bb, neA_dd, neA_tt, neA_do, neA_od, neA_oo, neA_bo, neA_ob, neA_bd, neA_db, neA_bb, isA_n, notA_n, isN_none, isN_int, isN_str, isN_bool, isN_list, isN_tup, isN_own, isN_bor, inA_dd, inA_do, inA_db, inA_od, inA_bd, inA_bb, inA_tup, ixA_d, ixA_t, ixA_o, ixA_b, slA_d, slA_o, slA_b, slA_t, lenA_d, lenA_t, lenA_o, lenA_b, lenA_s, listA_d, listA_t, listA_o, listA_b, tupleA_d, tupleA_t, tupleA_o, tupleA_b, intA_i, intA_b, minA_i, maxA_i, sortA_d, sortA_o, sortA_b, eqA_bl, neA_bl, isBA_bl, e_clrIx, clrK_fr, isi_nonetype_bool, isi_nonetype_int, isi_nonetype_str, isi_nonetype_tuple, isi_nonetype_list, isi_bool_bool, isi_bool_int, isi_bool_str, isi_bool_tuple, isi_bool_list, isi_int_bool, isi_int_int, isi_int_str, isi_int_tuple, isi_int_list, isi_str_bool, isi_str_int, isi_str_str, isi_str_tuple, isi_str_list, isi_list_bool, isi_list_int, isi_list_str, isi_list_tuple, isi_list_list, isi_tuple_bool, isi_tuple_int, isi_tuple_str, isi_tuple_tuple, isi_tuple_list, sortTA_d, sortTA_o, sortTA_b, toD_d, toD_o, consO_s, allD_nil, allD_cons, fzs_nil, fzs_cons, fz_d, fz_o, fz_y, fz_x, fz_r, scal_i, scal_b, scal_n, scal_s, List.length_map, List.length_range, List.map_cons, List.map_nil, Int.toNat_natCast, rgD_length]))
local macro_rules | `(tactic| walk_at "wy") => `(tactic| (try simp only [w_mark_tie, w_mark_cases, w_mark_many, w_mark_none, w_mark_renaming, w_mark_apart, w_mark_turn, w_tie_mark, w_tie_cases, w_tie_many, w_tie_none, w_tie_renaming, w_tie_apart, w_tie_turn, w_cases_mark, w_cases_tie, w_cases_many, w_cases_none, w_cases_renaming, w_cases_apart, w_cases_turn, w_many_mark, w_many_tie, w_many_cases, w_many_none, w_many_renaming, w_many_apart, w_many_turn, w_none_mark, w_none_tie, w_none_cases, w_none_many, w_none_renaming, w_none_apart, w_none_turn, w_renaming_mark, w_renaming_tie, w_renaming_cases, w_renaming_many, w_renaming_none, w_renaming_apart, w_renaming_turn, w_apart_mark, w_apart_tie, w_apart_cases, w_apart_many, w_apart_none, w_apart_renaming, w_apart_turn, w_turn_mark, w_turn_tie, w_turn_cases, w_turn_many, w_turn_none, w_turn_renaming, w_turn_apart, decide_true, decide_false, Bool.false_eq_true, Bool.true_eq_false, reduceCtorEq, false_implies, true_implies, and_true, true_and, Bool.not_false, Bool.not_true, Bool.true_and, Bool.and_true, Bool.false_and, Bool.and_false, Bool.or_true, Bool.true_or, Bool.false_or, Bool.or_false, if_true, if_false]))
local macro_rules | `(tactic| walk_at "wx") => `(tactic| ((walk_at "wp"); (walk_at "wy"); (walk_at "wp"); (walk_at "wy"); (walk_at "wp"); (walk_at "wy")))
local macro_rules | `(tactic| walk_at "wk") => `(tactic| ((walk_at "wp"); (try simp only [dctK_d, datK_d, frK_dct, unfrA_dct, e_dnew, e_dnin, e_dget, e_dsort, e_dput, frlK_l, e_clr2]); (walk_at "wp"); (try simp only [dctK_d, datK_d, frK_dct, unfrA_dct, e_dnew, e_dnin, e_dget, e_dsort, e_dput, frlK_l, e_clr2]); (walk_at "wp"); (try simp only [dctK_d, datK_d, frK_dct, unfrA_dct, e_dnew, e_dnin, e_dget, e_dsort, e_dput, frlK_l, e_clr2]); (walk_at "wp")))
local macro_rules | `(tactic| walk_at "wt") => `(tactic| ((walk_at "wp"); (try simp only [strK_s, e_m1, splitA_s, joinA_o, joinA_d, joinA_b, tostrA_i, intSA_s, ninSA_s, leTA_t, e_lrev, lrK_o, lrK_d, lrK_b]); (walk_at "wp"); (try simp only [strK_s, e_m1, splitA_s, joinA_o, joinA_d, joinA_b, tostrA_i, intSA_s, ninSA_s, leTA_t, e_lrev, lrK_o, lrK_d, lrK_b]); (walk_at "wp"); (try simp only [strK_s, e_m1, splitA_s, joinA_o, joinA_d, joinA_b, tostrA_i, intSA_s, ninSA_s, leTA_t, e_lrev, lrK_o, lrK_d, lrK_b]); (walk_at "wp")))
variable {P : Program} {w : World} {K : PySem.W.Frag} {mg : Str → Option Value} {base : Heap} {C : Addr}

/-! ### ties, as a list -/
abbrev Tie := Nat × Nat × Int
abbrev tieD (t : Tie) : PyData := .tuple [nI t.1, nI t.2.1, .int t.2.2]
/-- the ties of place i to later ones, up to (not with) i + 1 + t -/
def rowT (k : Nat → Nat → Int) (i t : Nat) : List Tie := (List.range' (i + 1) t).filterMap fun j => if 0 < k i j then some (i, j, k i j) else none
def tiesOf (k : Nat → Nat → Int) (n i : Nat) : List Tie := (List.range i).flatMap fun a => rowT k a (n - (a + 1))
def Y.ties (y : Y) : List Tie := tiesOf y.k y.n y.n
abbrev rowsD (y : Y) : PyData := .tuple [.list (y.ml.map PyData.int), .list (y.ties.map tieD)]
structure Y.Ok (y : Y) : Prop where
  n1 : 1 ≤ y.n
  n7 : y.n ≤ 7
  m0 : ∀ i, i < y.n → 0 ≤ y.m i ∧ y.m i ≤ 9
  sy : ∀ i j, y.k i j = y.k j i
  dg : ∀ i, y.k i i = 0
  k0 : ∀ i j, 0 ≤ y.k i j ∧ y.k i j ≤ 9
theorem rowT_succ (k : Nat → Nat → Int) (i t : Nat) : rowT k i (t + 1) = rowT k i t ++ (if 0 < k i (i + 1 + t) then [(i, i + 1 + t, k i (i + 1 + t))] else []) := by
  unfold rowT
  rw [List.range'_concat, List.filterMap_append]
  simp only [Nat.one_mul]
  congr 1
  by_cases h : 0 < k i (i + 1 + t) <;> simp [h]
theorem tiesOf_succ (k : Nat → Nat → Int) (n i : Nat) : tiesOf k n (i + 1) = tiesOf k n i ++ rowT k i (n - (i + 1)) := by
  unfold tiesOf
  rw [List.range_succ, List.flatMap_append]
  simp
theorem rowT_length (k : Nat → Nat → Int) (i t : Nat) : (rowT k i t).length ≤ t := by
  unfold rowT
  exact Nat.le_trans (List.length_filterMap_le _ _) (by simp)
theorem tiesOf_length (k : Nat → Nat → Int) (n : Nat) : ∀ i, (tiesOf k n i).length ≤ i * n
  | 0 => by simp [tiesOf]
  | i + 1 => by
    rw [tiesOf_succ, List.length_append, Nat.succ_mul]
    have h1 := tiesOf_length k n i
    have h2 := rowT_length k i (n - (i + 1))
    omega
theorem mem_rowT {k : Nat → Nat → Int} {i t : Nat} {x : Tie} : x ∈ rowT k i t ↔ x.1 = i ∧ i < x.2.1 ∧ x.2.1 < i + 1 + t ∧ x.2.2 = k x.1 x.2.1 ∧ 0 < x.2.2 := by
  obtain ⟨a, b, c⟩ := x
  unfold rowT
  simp only [List.mem_filterMap, List.mem_range'_1]
  constructor
  · rintro ⟨j, hj, e⟩
    split at e
    · rename_i h
      obtain ⟨rfl, rfl, rfl⟩ : i = a ∧ j = b ∧ k i j = c := by simpa using e
      exact ⟨rfl, by omega, by omega, rfl, h⟩
    · cases e
  · rintro ⟨rfl, h1, h2, h3, h4⟩
    subst h3
    exact ⟨b, by omega, by simp [h4]⟩
theorem mem_tiesOf {k : Nat → Nat → Int} {n i : Nat} {x : Tie} : x ∈ tiesOf k n i ↔ x.1 < i ∧ x.1 < x.2.1 ∧ x.2.1 < n ∧ x.2.2 = k x.1 x.2.1 ∧ 0 < x.2.2 := by
  unfold tiesOf
  simp only [List.mem_flatMap, List.mem_range, mem_rowT]
  constructor
  · rintro ⟨a, ha, rfl, h1, h2, h3, h4⟩
    exact ⟨ha, h1, by omega, h3, h4⟩
  · rintro ⟨h0, h1, h2, h3, h4⟩
    exact ⟨x.1, h0, rfl, h1, by omega, h3, h4⟩
theorem fm_congr {α β : Type} {f g : α → Option β} : ∀ {l : List α}, (∀ x ∈ l, f x = g x) → l.filterMap f = l.filterMap g
  | [], _ => rfl
  | x :: l, h => by
    rw [List.filterMap_cons, List.filterMap_cons, h x List.mem_cons_self, fm_congr fun y hy => h y (List.mem_cons_of_mem _ hy)]
theorem rowT_congr {k k' : Nat → Nat → Int} {i t : Nat} (h : ∀ j, i < j → j < i + 1 + t → k i j = k' i j) : rowT k i t = rowT k' i t := by
  unfold rowT
  refine fm_congr fun j hj => ?_
  rw [List.mem_range'_1] at hj
  rw [h j (by omega) (by omega)]
theorem tiesOf_congr {k k' : Nat → Nat → Int} {n i : Nat} (h : ∀ a j, a < i → a < j → j < n → k a j = k' a j) : tiesOf k n i = tiesOf k' n i := by
  unfold tiesOf
  rw [List.flatMap_def, List.flatMap_def]
  congr 1
  apply List.map_congr_left
  intro a ha
  rw [List.mem_range] at ha
  exact rowT_congr fun j h1 h2 => h a j ha h1 (by omega)
theorem sz_of {n : Nat} (h : n ≤ 100000) : n ≤ sizeLine := Nat.le_trans h (by decide)
theorem sz_lt {n : Nat} (h : n < 100000) : n < sizeLine := Nat.lt_of_lt_of_le h (by decide)
theorem rgD1_get {lo n i : Nat} {d : PyData} (h : (rgD ((lo : Nat) : Int) n)[i]? = some d) : i < n ∧ d = nI (lo + i) := by
  obtain ⟨h1, h2⟩ := rgD_get h
  exact ⟨h1, by rw [h2]; congr 1⟩

/-! ### the box of draws -/
theorem Stp.boxed {R F H H' : Hp} {b l : Addr} (gr : Same R H) (nG : bDj ⟨some (b, l), R⟩) (fh : Same F H) (fb : ∀ a, isBox ⟨some (b, l), R⟩ a → F a = none) (hk : ∀ a o, H a = some o → a ≠ b → a ≠ l → H' a = some o) (bx : BoxAt H' b l) : Stp ⟨some (b, l), R⟩ F H F H' := by
  have d1 : R b = none := nG.1
  have d2 : R l = none := nG.2
  refine ⟨Same.refl _, fun a o e => hk a o (fh a o e) (fun z => ?_) (fun z => ?_), ⟨bx, fun a o e => hk a o (gr a o e) (fun z => ?_) (fun z => ?_), nG⟩, fun a o e n => hk a o e (fun z => n (.inl (.inl z))) fun z => n (.inl (.inr z)), fun a h => .inl h, fb⟩
  · rw [fb a (.inl (.inl z))] at e; cases e
  · rw [fb a (.inl (.inr z))] at e; cases e
  · have e : R a = some o := e
    rw [z, d1] at e; cases e
  · have e : R a = some o := e
    rw [z, d2] at e; cases e
def spTake : Spc := fun as Q => ∃ n : Nat, as = [.box, .d (nI n)] ∧ 0 < n ∧ n ≤ 100000 ∧ ∀ k : Nat, k < n → Q (.d (nI k))
theorem dp_ints {K : PySem.W.Frag} {H : Hp} {l : Addr} (ns : List Int) (h : H l = some (.lst (ns.map V.int))) : Dp K H (.ref l) (.list (ns.map PyData.int)) := .lst (SqL.of h) (RpL.dp (Same.refl H) _ _ (RpL.ints ns))
theorem dp_nil {K : PySem.W.Frag} {H : Hp} {l : Addr} (h : H l = some (.lst [])) : Dp K H (.ref l) (.list []) := .lst (SqL.of h) .nil
theorem shaped_ints' (ns : List Int) : SeqAt.shaped (.list (ns.map PyData.int)) = true := by
  have h1 : PyData.canLayAll0 (ns.map PyData.int) = true := by
    induction ns with
    | nil => simp [PyData.canLayAll0]
    | cons a l ih => simp only [List.map_cons, PyData.canLayAll0, ih, PyData.canLay0, Bool.and_self]
  have h2 : PyData.depthAll (ns.map PyData.int) ≤ 1 := by
    clear h1
    induction ns with
    | nil => simp [PyData.depthAll]
    | cons a l ih => simp only [List.map_cons, PyData.depthAll, PyData.depth]; omega
  show (PyData.canLay0 (.list (ns.map PyData.int)) && decide (PyData.depth (.list (ns.map PyData.int)) ≤ 64)) = true
  rw [Bool.and_eq_true]
  refine ⟨by simp only [PyData.canLay0]; exact h1, decide_eq_true ?_⟩
  simp only [PyData.depth]
  omega
theorem rp_nat {F : Hp} {z : Int} (h : 0 ≤ z) : Rp F (.int z) (nI z.toNat) := by
  obtain ⟨j, rfl⟩ : ∃ j : Nat, z = (j : Int) := ⟨z.toNat, by omega⟩
  simpa using Rp.int (F := F) (j : Int)
theorem ixN_nat {n j : Nat} (h : j < n) : ixN n (j : Int) = some j := by
  unfold ixN
  rw [if_pos (by omega), if_pos (by omega)]
  simp
theorem eqv_nil (ns : List Int) : PyData.eqv (.list (ns.map PyData.int)) (.list []) = ns.isEmpty := by
  cases ns <;> simp [PyData.eqv, PyData.eqvAll]
theorem c_law_take (T : Txt K mg C) : Cal P w K mg base C "_law_take" 1 spTake := by
  obtain ⟨f, fd, F, hm, bd⟩ := T.d_law_take
  refine ⟨f, fd, p_law_take, F.ok sc_law_take (fun vs H Q E h => spA_len (fun as P h => by obtain ⟨_, rfl, _⟩ := h; rfl) h) (fun cdv A outer s H vs Q E hr h => ?_), hm, F.kp, bd⟩
  obtain ⟨G, F0, as, P0, fh, gi, bx, ar, ⟨n, rfl, n0, nb, hP⟩, k⟩ := h
  cases ar with
  | cons r1 t =>
  cases t with
  | cons r2 t =>
  cases t
  obtain ⟨b, l, hG, rfl⟩ := r1
  cases (show Rp F0 _ (.int _) from r2)
  obtain ⟨Gb, R⟩ := G
  have hG : Gb = some (b, l) := hG
  subst hG
  obtain ⟨⟨ne, ns, m, hb, hl, hz, m0, m1⟩, gr, nG⟩ := gi
  have hu := room64 hr
  have n0' : (0 : Int) < (n : Int) := by omega
  have nd : CDiv (5 : Int) (n : Int) := ⟨n0', by omega⟩
  refine ⟨_, pss_cons (ps_if (pt_cmpR (op_eqD hu) (pe_ix ix_list (pv 0) pe_int (fun _ _ => rfl)) (pe_lst pa_nil) (nomark _))
      (pss_cons (ps_asg (pe_op op_mod (pe_op op_mul (pe_ix ix_list (pv 0) pe_int (fun _ _ => rfl)) pe_int) pe_int) (pg_sub (pv 0) pe_int set_list))
        (pss_one (ps_ret (pe_op op_mod (pe_op op_fdiv (pe_ix ix_list (pv 0) pe_int (fun _ _ => rfl)) pe_int) (pv 1))))) pss_nil)
    (pss_cons (ps_set (i := 2) sc_law_take.nd rfl (Or.inl rfl) (pe_ix ix_list (pe_ix ix_list (pv 0) pe_int (fun _ _ => rfl)) pe_int (fun _ _ => rfl)))
    (pss_cons (ps_asg (pe_op op_fdiv (pv 2) (pv 1)) (pg_sub (pe_ix ix_list (pv 0) pe_int (fun _ _ => rfl)) pe_int set_list))
    (pss_cons (ps_if (PW.pt (pw_or (pt_cmpR op_eq (pe_ix ix_list (pe_ix ix_list (pv 0) pe_int (fun _ _ => rfl)) pe_int (fun _ _ => rfl)) pe_int (nomark _))
        (pw_or1 (pt_cmpR op_eq (pe_ix ix_list (pe_ix ix_list (pv 0) pe_int (fun _ _ => rfl)) pe_int (fun _ _ => rfl)) (pe_un un_neg pe_int) (nomark _)))))
      (pss_one (ps_expr (pe_bm PySem.F.plainAttrs_list PySem.F.slot_list_pop PySem.F.type_list_pop mt_popAt (pe_ix ix_list (pv 0) pe_int (fun _ _ => rfl)) (pa_cons pe_int pa_nil)))) pss_nil)
    (pss_one (ps_ret (pe_op op_mod (pv 2) (pv 1))))))), ?_⟩
  -- box[0] == []
  refine ⟨_, rfl, b, _, 0, _, rfl, rfl, SqL.of hb, atI_nat (j := 0) rfl, by show 0 ≤ sizeLine; exact Nat.zero_le _, fun q hq => ?_⟩
  have nqb : b ≠ q := ne_of_none hb hq
  have nql : l ≠ q := ne_of_none hl hq
  have hb1 : (upd H q (.lst [])) b = some (.lst [.ref l, .int m]) := by rw [upd_ne nqb]; exact hb
  have hl1 : (upd H q (.lst [])) l = some (.lst (ns.map V.int)) := by rw [upd_ne nql]; exact hl
  refine ⟨_, _, dp_ints ns hl1, dp_nil upd_same, shaped_ints' ns, shaped_ints' [], _, rfl, ?_⟩
  rw [eqv_nil]
  have old : ∀ {H' : Hp}, (∀ a o, (upd H q (.lst [])) a = some o → a ≠ b → a ≠ l → H' a = some o) → ∀ a o, H a = some o → a ≠ b → a ≠ l → H' a = some o := fun {H'} z a o e n1 n2 => z a o (by rw [upd_ne (ne_of_none e hq)]; exact e) n1 n2
  cases ns with
  | nil =>
    refine iteT ?_
    have m' : (0 : Int) ≤ m * 48271 % 2147483647 := Int.emod_nonneg _ (by decide)
    have m2 : m * 48271 % 2147483647 < 2147483647 := Int.emod_lt_of_pos _ (by decide)
    refine ⟨_, rfl, b, _, 1, _, rfl, rfl, SqL.of hb1, atI_nat (j := 1) rfl, _, _, rfl, rfl, .inr ⟨by decide, by decide⟩, _, _, rfl, rfl, (by show (0 : Int) < 2147483647; decide), ?_⟩
    refine ⟨_, rfl, b, _, 1, 1, rfl, rfl, hb1, rfl, ?_⟩
    refine ⟨_, rfl, b, _, 1, _, rfl, rfl, SqL.of upd_same, atI_nat (j := 1) rfl, _, _, rfl, rfl, ⟨by decide, by decide⟩, _, rfl, _, _, rfl, rfl, n0', ?_⟩
    have hr0 := Int.emod_nonneg (m * 48271 % 2147483647 / 7) (show (n : Int) ≠ 0 by omega)
    have hr1 := Int.emod_lt_of_pos (m * 48271 % 2147483647 / 7) n0'
    refine k F0 _ _ (.d (nI _)) (Stp.boxed gr nG fh bx (old fun a o e n1 n2 => by rw [upd_ne n1]; exact e) ⟨ne, [], _, upd_same, by rw [upd_ne ne.symm]; exact hl1, Nat.zero_le _, m', m2⟩) (rp_nat hr0) (hP (m * 48271 % 2147483647 / 7 % (n : Int)).toNat (by omega))
  | cons x r =>
    refine iteF ?_
    refine ⟨_, rfl, b, _, 0, _, rfl, rfl, SqL.of hb1, atI_nat (j := 0) rfl, _, _, 0, _, rfl, rfl, SqL.of hl1, atI_nat (j := 0) rfl, ?_⟩
    refine ⟨_, rfl, _, rfl, _, _, rfl, rfl, ⟨n0', by omega⟩, ?_⟩
    refine ⟨_, rfl, b, _, 0, _, rfl, rfl, SqL.of hb1, atI_nat (j := 0) rfl, _, _, 0, 0, rfl, rfl, hl1, ixN_nat (j := 0) (by simp), ?_⟩
    have z1 : (r.length + 1) ≤ 1000 := hz
    have e2 : (((x :: r).map V.int).set 0 (.int (x / (n : Int)))) = ((x / (n : Int)) :: r).map V.int := rfl
    show tSeq _ _ _ _ (upd (upd H q (.lst [])) l (.lst (((x :: r).map V.int).set 0 (.int (x / (n : Int))))))
    rw [e2]
    have hb2 : (upd (upd H q (.lst [])) l (.lst (((x / (n : Int)) :: r).map V.int))) b = some (.lst [.ref l, .int m]) := by rw [upd_ne ne]; exact hb1
    have hl2 : (upd (upd H q (.lst [])) l (.lst (((x / (n : Int)) :: r).map V.int))) l = some (.lst (((x / (n : Int)) :: r).map V.int)) := upd_same
    have k2 : ∀ a o, (upd H q (.lst [])) a = some o → a ≠ b → a ≠ l → (upd (upd H q (.lst [])) l (.lst (((x / (n : Int)) :: r).map V.int))) a = some o := fun a o e _ n2 => by rw [upd_ne n2]; exact e
    generalize (upd (upd H q (.lst [])) l (.lst (((x / (n : Int)) :: r).map V.int))) = H2 at hb2 hl2 k2 ⊢
    have fin : ∀ (ys : List Int) (H' : Hp), H' b = some (.lst [.ref l, .int m]) → H' l = some (.lst (ys.map V.int)) → ys.length ≤ 1000 → (∀ a o, (upd H q (.lst [])) a = some o → a ≠ b → a ≠ l → H' a = some o) → Q (.int (x % (n : Int))) H' := fun ys H' g1 g2 g3 g4 => by
      have hr0 := Int.emod_nonneg x (show (n : Int) ≠ 0 by omega)
      have hr1 := Int.emod_lt_of_pos x n0'
      exact k F0 _ _ (.d (nI _)) (Stp.boxed gr nG fh bx (old g4) ⟨ne, ys, m, g1, g2, g3, m0, m1⟩) (rp_nat hr0) (hP (x % (n : Int)).toNat (by omega))
    have sx : seqIndex? 0 (((x / (n : Int)) :: r).map V.int).length = some 0 := seqIx (Int.le_refl 0) (by simp)
    have popt : Q (.int (x % (n : Int))) (upd H2 l (.lst ((((x / (n : Int)) :: r).map V.int).eraseIdx 0))) := by
      refine fin r _ (by rw [upd_ne ne]; exact hb2) (by rw [upd_same]; rfl) (by omega) fun a o e n1 n2 => ?_
      rw [upd_ne n2]
      exact k2 a o e n1 n2
    refine ⟨_, rfl, b, _, 0, _, rfl, rfl, SqL.of hb2, atI_nat (j := 0) rfl, _, _, 0, _, rfl, rfl, SqL.of hl2, atI_nat (j := 0) rfl, rfl, _, rfl, ?_⟩
    refine ite2 (fun _ => iteT ?_) fun _ => ?_
    · exact ⟨_, rfl, b, _, 0, _, rfl, rfl, SqL.of hb2, atI_nat (j := 0) rfl, ty_list hl2, l, _, 0, 0, _, rfl, rfl, hl2, by decide, by decide, sx, rfl, _, rfl, _, rfl, _, _, rfl, rfl, n0', popt⟩
    · refine ⟨_, rfl, b, _, 0, _, rfl, rfl, SqL.of hb2, atI_nat (j := 0) rfl, _, _, 0, _, rfl, rfl, SqL.of hl2, atI_nat (j := 0) rfl, _, rfl, rfl, _, rfl, ?_⟩
      refine ite2 (fun _ => ?_) fun _ => ?_
      · exact ⟨_, rfl, b, _, 0, _, rfl, rfl, SqL.of hb2, atI_nat (j := 0) rfl, ty_list hl2, l, _, 0, 0, _, rfl, rfl, hl2, by decide, by decide, sx, rfl, _, rfl, _, rfl, _, _, rfl, rfl, n0', popt⟩
      · exact ⟨_, rfl, _, rfl, _, _, rfl, rfl, n0', fin _ H2 hb2 hl2 z1 k2⟩

/-- the box made of the script -/
def spBox (K : PySem.W.Frag) : Sp := fun vs H Q _ => ∃ (a : Addr) (ns : List Int), vs = [.ref a] ∧ SqL K H a (ns.map V.int) ∧ ns.length ≤ 63 ∧ ∀ b l H', H b = none → H l = none → BoxAt H' b l → Same H H' → Q (.ref b) H'
theorem c_law_box (T : Txt K mg C) : ∃ (f : Addr) (fd : FuncData), FnOk P w K mg base CX0 1 f fd p_law_box (spBox K) ∧ mg "_law_box" = some (.ref f) ∧ PySem.W.keepIn K (.ref f) = true ∧ Binds K fd p_law_box [] := by
  obtain ⟨f, fd, F, hm, bd⟩ := T.d_law_box
  refine ⟨f, fd, F.ok sc_law_box (fun vs H Q E h => by obtain ⟨a, ns, rfl, _⟩ := h; rfl) (fun cdv A outer s H vs Q E hr h => ?_), hm, F.kp, bd⟩
  obtain ⟨a, ns, rfl, hS, hz, k⟩ := h
  refine ⟨_, pss_cons (ps_set (i := 1) sc_law_box.nd rfl (Or.inl rfl) pe_int)
    (pss_cons (ps_for PassesOwn.never rfl (pi_list (pv 0)) (pg_name (i := 2) sc_law_box.nd rfl (Or.inl rfl)) (pss_one (ps_set (i := 1) sc_law_box.nd rfl (Or.inl rfl) (pe_op op_mod (pe_op op_add (pe_op op_add (pe_op op_mul (pv 1) pe_int) (pe_op op_mul (pv 2) pe_int)) pe_int) pe_int))))
    (pss_one (ps_ret (pe_lst (pa_cons (pe_callTy call_list_of (by rfl) T.list boot_list' (pa_cons (pv 0) pa_nil)) (pa_cons (pe_op op_mul (pv 1) (pe_callTy call_int1 (by rfl) T.int boot_int' (pa_cons (pe_cmpR op_gt (pe_callB call_len_seq (by rfl) T.len PySem.boot_len (pa_cons (pv 0) pa_nil)) pe_int (nomark _)) pa_nil))) pa_nil)))))), ?_⟩
  refine ⟨_, rfl, a, rfl, ⟨_, hS⟩, for_list (K := K) (a := a) (xs := ns.map V.int) (fun i σ H2 => H2 = H ∧ ∃ (m : Int) (v : Option V), 0 ≤ m ∧ m < 2147483647 ∧ σ = [some (.ref a), some (.int m), v]) ⟨rfl, 0, none, by decide, by decide, rfl⟩ (fun i σ H2 _ h => by rw [h.1]; exact hS) ?_ ?_⟩
  · rintro i x σ H2 hi ⟨rfl, m, v, m0, m1, rfl⟩
    rw [List.getElem?_map] at hi
    obtain ⟨z, _, rfl⟩ := Option.map_eq_some_iff.mp hi
    refine ⟨_, rfl, _, _, rfl, rfl, .inl ⟨by omega, by omega⟩, _, rfl, _, _, rfl, rfl, .inr ⟨by decide, by decide⟩, _, _, rfl, rfl, _, _, rfl, rfl, _, _, rfl, rfl, (by show (0 : Int) < 2147483647; decide), ?_⟩
    exact ⟨rfl, _, _, Int.emod_nonneg _ (by decide), Int.emod_lt_of_pos _ (by decide), rfl⟩
  · rintro σ H2 ⟨rfl, m, v, m0, m1, rfl⟩
    refine ⟨_, rfl, a, _, rfl, .inl hS, fun l hl => ?_⟩
    have sl : Same H2 (upd H2 l (.lst (ns.map V.int))) := fun b o e => by rw [upd_ne (ne_of_none e hl)]; exact e
    refine ⟨_, rfl, _, rfl, a, _, rfl, .inl (sl.seq hS), _, _, rfl, rfl, .inr ⟨_, rfl, ?_⟩⟩
    have hm : ∀ c : Bool, 0 ≤ m * (if c = true then 1 else 0) ∧ m * (if c = true then 1 else 0) < 2147483647 := fun c => by cases c <;> simp <;> omega
    refine ⟨_, _, rfl, rfl, .inl ⟨by omega, by omega⟩, by show 2 ≤ sizeLine; decide, fun b hb => ?_⟩
    have hb2 : H2 b = none := sl.free hb
    have nbl : b ≠ l := fun z => by subst z; rw [upd_same] at hb; cases hb
    exact k b l _ hb2 hl ⟨nbl, ns, _, upd_same, by rw [upd_ne nbl.symm, upd_same], by omega, (hm _).1, (hm _).2⟩ (sl.trans fun c o e => by rw [upd_ne (ne_of_none e hb)]; exact e)
def spLaw (K : PySem.W.Frag) : Sp := fun vs H Q _ => ∃ (a : Addr) (ns : List Int), vs = [.ref a] ∧ SqL K H a (ns.map V.int) ∧ ns.length ≤ 63 ∧ ∀ H', Q (.bl true) H'
/-- behind the law's first row the box stands; the rest of its body over abstract values -/
theorem law_rest {C : Addr} {X : Cx} {rest : List Stmt} {a : Addr} {H : Hp} {Q : VK} {n : Nat} {b l : Addr} {H' : Hp} {t : TS} {wt : WS} (hQ : ∀ H', Q (.bl true) H') (bx : BoxAt H' b l)
    (d : PDSs X ⟨⟨some (b, l), fun _ => none⟩, C, fun _ => none, H'⟩ rest t wt) (hw : wt (.un :: .box :: List.replicate n .un) { nx := fun _ => False, rt := fun r => r = .bl true }) :
    t { nx := fun _ H' => Q .non H', rt := Q } (some (.ref a) :: some (.ref b) :: List.replicate n none) H' := by
  have m : M ⟨⟨some (b, l), fun _ => none⟩, C, fun _ => none, H'⟩ (fun _ => none) (.un :: .box :: List.replicate n .un) (some (.ref a) :: some (.ref b) :: List.replicate n none) H' := by
    refine ⟨Stp.refl (fun _ _ h => nomatch h) ⟨bx, (fun _ _ h => nomatch h), rfl, rfl⟩ (fun _ _ => rfl), ⟨bx, (fun _ _ h => nomatch h), rfl, rfl⟩, by simp, fun i a' o h1 h2 => ?_, fun i j p h1 h2 => ?_, fun i x h1 => ?_⟩
    rotate_left 2
    · match i with
      | 0 => simp at h1
      | 1 => simp at h1
      | i + 2 => simp [List.getElem?_replicate] at h1
    · match i with
      | 0 => simp at h1; subst h1; trivial
      | 1 => simp at h1 h2; subst h1; subst h2; exact ⟨b, l, rfl, rfl⟩
      | i + 2 =>
        simp [List.getElem?_replicate] at h1
        obtain ⟨_, rfl⟩ := h1
        trivial
    · obtain ⟨⟨xs, e⟩, _⟩ := h1
      match i with
      | 0 => simp at e
      | 1 => simp at e
      | i + 2 => simp [List.getElem?_replicate] at e
  refine d.sd _ _ _ _ H' _ m hw ⟨fun _ _ _ _ _ _ z => z.elim, fun F' H2 v r s st q p => ?_, fun _ _ _ _ _ _ z => z.elim, fun _ _ _ _ _ _ z => z.elim⟩
  subst p
  cases (show Rp F' v (.bool true) from q)
  exact hQ H2

/-! ### Yard's reading methods -/
def spMany : Spc := fun as Q => ∃ y : Y, as = [yA y] ∧ Q (.d (nI y.n))
theorem m_many (T : Txt K mg C) : CalM P w K mg base C "many" 1 spMany := by
  refine calM_of T.d_Yard_many T.cY sc_Yard_many (fun as Q h => by obtain ⟨_, rfl, _⟩ := h; rfl) fun f cdv A0 outer s H E hr G F as Q hs => ?_
  obtain ⟨y, rfl, hQ⟩ := hs
  refine ⟨_, _, (pss_oneA (ps_retA (pd_len (K := K) T.len (pda_cons (pd_marked (K := K) T.cY T.n_marked (pd_var 0)) pda_nil)))), ?_⟩
  walk_at "wp"
  simpa using hQ
def spMarks : Spc := fun as Q => ∃ y : Y, as = [yA y] ∧ Q (.own (y.ml.map PyData.int))
theorem m_marks (T : Txt K mg C) : CalM P w K mg base C "marks" 1 spMarks := by
  refine calM_of T.d_Yard_marks T.cY sc_Yard_marks (fun as Q h => by obtain ⟨_, rfl, _⟩ := h; rfl) fun f cdv A0 outer s H E hr G F as Q hs => ?_
  obtain ⟨y, rfl, hQ⟩ := hs
  refine ⟨_, _, (pss_oneA (ps_retA (pd_list (K := K) T.list (pda_cons (pd_marked (K := K) T.cY T.n_marked (pd_var 0)) pda_nil)))), ?_⟩
  walk_at "wp"
  exact ⟨_, rfl, hQ⟩
def spTies : Spc := fun as Q => ∃ y : Y, as = [yA y] ∧ y.n ≤ 7 ∧ Q (.own (y.ties.map tieD))
theorem m_ties (T : Txt K mg C) (m_many : CalM P w K mg base C "many" 1 spMany) : CalM P w K mg base C "ties" 2 spTies := by
  refine calM_of T.d_Yard_ties T.cY sc_Yard_ties (fun as Q h => by obtain ⟨_, rfl, _⟩ := h; rfl) fun f cdv A0 outer s H E hr G F as Q hs => ?_
  obtain ⟨y, rfl, h7, hQ⟩ := hs
  refine ⟨_, _, (pss_consA (ps_setA (i := 1) sc_Yard_ties.nd (pd_lst pda_nil))
  (pss_consA (ps_forA (pi_range1A T.range (pda_cons (pd_meth0 m_many hr (by omega) (pd_var 0)) pda_nil)) (pg_nameA 2 sc_Yard_ties.nd) (pss_oneA (ps_forA (pi_range2A T.range (pda_cons (pd_add (K := K) (pd_var 2) pd_int) (pda_cons (pd_meth0 m_many hr (by omega) (pd_var 0)) pda_nil))) (pg_nameA 3 sc_Yard_ties.nd) (pss_oneA (ps_ifA (pt_gt (pd_ix (K := K) (pd_ix (K := K) (pd_kinds (K := K) T.cY T.n_kinds (pd_var 0)) (pd_var 2)) (pd_var 3)) pd_int) (pss_oneA (ps_appA (pd_var 1) (pd_tup (pda_cons (pd_var 2) (pda_cons (pd_var 3) (pda_cons (pd_ix (K := K) (pd_ix (K := K) (pd_kinds (K := K) T.cY T.n_kinds (pd_var 0)) (pd_var 2)) (pd_var 3)) pda_nil)))))) pss_nilA)) PassesOwn.never)) PassesOwn.never)
  (pss_oneA (ps_retA (pd_var 1))))), ?_⟩
  walk_at "wp"
  refine ⟨by decide, y, rfl, ?_⟩
  walk_at "wp"
  refine ⟨by omega, by omega, fun i ρ => ∃ a b, ρ = [yA y, .own ((tiesOf y.k y.n i).map tieD), a, b], ⟨_, _, rfl⟩, fun i d ρ hd hI => ?_, fun ρ hI => ?_⟩
  · obtain ⟨hi, rfl⟩ := rgD0_get hd
    obtain ⟨a, b, rfl⟩ := hI
    walk_at "wp"
    refine ⟨y, rfl, ?_⟩
    walk_at "wp"
    refine ⟨by omega, fun t ρ => ∃ b, ρ = [yA y, .own ((tiesOf y.k y.n i ++ rowT y.k i t).map tieD), .d (nI i), b], ⟨b, by simp [rowT]⟩, fun t d ρ hd hI => ?_, fun ρ hI => ?_⟩
    · have e1 : ((i : Int) + 1) = ((i + 1 : Nat) : Int) := by omega
      have e2 : ((y.n : Int) - ((i : Int) + 1)).toNat = y.n - (i + 1) := by omega
      rw [e1, show ((y.n : Int) - ((i + 1 : Nat) : Int)).toNat = y.n - (i + 1) by omega] at hd
      obtain ⟨ht, rfl⟩ := rgD1_get hd
      obtain ⟨b, rfl⟩ := hI
      walk_at "wp"
      have hj : i + 1 + t < y.n := by omega
      refine ⟨_, at_kinds y hi, ?_⟩
      walk_at "wp"
      refine ⟨_, at_kind y hj, ?_⟩
      walk_at "wp"
      refine ⟨fun h => ⟨_, at_kinds y hi, ?_⟩, fun h => ?_⟩
      · walk_at "wp"
        refine ⟨_, at_kind y hj, ?_⟩
        walk_at "wp"
        refine ⟨by decide, ?_, ?_⟩
        · have h1 := tiesOf_length y.k y.n i
          have h2 := rowT_length y.k i t
          have h3 : i * y.n ≤ 7 * 7 := Nat.mul_le_mul (by omega) h7
          apply sz_lt
          rw [List.length_append]
          omega
        · rw [rowT_succ, if_pos (of_decide_eq_true h)]
          simp only [List.map_append, List.append_assoc, List.map_cons, List.map_nil]
          exact ⟨_, rfl⟩
      · rw [rowT_succ, if_neg (of_decide_eq_false h), List.append_nil]
        exact ⟨_, rfl⟩
    · obtain ⟨b, rfl⟩ := hI
      rw [show ((y.n : Int) - ((i : Int) + 1)).toNat = y.n - (i + 1) by omega, ← tiesOf_succ]
      exact ⟨_, _, rfl⟩
  · obtain ⟨a, b, rfl⟩ := hI
    walk_at "wp"
    exact hQ

/-! ### a yard is made -/
def kmt (t : Tie) (a b : Nat) : Bool := (t.1 == a && t.2.1 == b) || (t.1 == b && t.2.1 == a)
def kOf (ts : List Tie) (a b : Nat) : Int := match ts.find? fun t => kmt t a b with
  | some t => t.2.2
  | none => 0
structure TiesOk (n : Nat) (ts : List Tie) : Prop where
  bd : ∀ t ∈ ts, t.1 < n ∧ t.2.1 < n ∧ t.1 ≠ t.2.1 ∧ 1 ≤ t.2.2 ∧ t.2.2 ≤ 9
  pw : ts.Pairwise fun t u => kmt t u.1 u.2.1 = false
  sz : ts.length ≤ 100000
theorem kmt_comm (t : Tie) (a b : Nat) : kmt t a b = kmt t b a := by unfold kmt; rw [Bool.or_comm]
theorem kOf_comm (ts : List Tie) (a b : Nat) : kOf ts a b = kOf ts b a := by
  unfold kOf
  have e : (fun t : Tie => kmt t a b) = fun t => kmt t b a := by funext t; exact kmt_comm t a b
  rw [e]
theorem kOf_none {ts : List Tie} {a b : Nat} (h : ∀ t ∈ ts, kmt t a b = false) : kOf ts a b = 0 := by
  unfold kOf
  have e : ts.find? (fun t => kmt t a b) = none := List.find?_eq_none.mpr fun t ht => by rw [h t ht]; exact Bool.false_ne_true
  rw [e]
theorem kOf_snoc_no {l : List Tie} {t : Tie} {a b : Nat} (h : kmt t a b = false) : kOf (l ++ [t]) a b = kOf l a b := by
  unfold kOf
  rw [List.find?_append]
  have e : [t].find? (fun t => kmt t a b) = none := by simp [h]
  rw [e, Option.or_none]
theorem kOf_snoc_yes {l : List Tie} {t : Tie} {a b : Nat} (h : kmt t a b = true) (h0 : ∀ u ∈ l, kmt u a b = false) : kOf (l ++ [t]) a b = t.2.2 := by
  unfold kOf
  rw [List.find?_append]
  have e : l.find? (fun t => kmt t a b) = none := List.find?_eq_none.mpr fun t ht => by rw [h0 t ht]; exact Bool.false_ne_true
  have e2 : [t].find? (fun t => kmt t a b) = some t := by simp [h]
  rw [e, e2]
  rfl
theorem kmt_iff {t : Tie} {a b : Nat} : kmt t a b = true ↔ (t.1 = a ∧ t.2.1 = b) ∨ (t.1 = b ∧ t.2.1 = a) := by
  unfold kmt; simp
theorem kmt_trans {u t : Tie} {a b : Nat} (h : kmt t a b = true) (h2 : kmt u t.1 t.2.1 = false) : kmt u a b = false := by
  rcases kmt_iff.mp h with ⟨h1, h3⟩ | ⟨h1, h3⟩
  · rw [← h1, ← h3]; exact h2
  · rw [kmt_comm, ← h1, ← h3]; exact h2
theorem take_pw {ts : List Tie} (pw : ts.Pairwise fun t u => kmt t u.1 u.2.1 = false) {i : Nat} {t : Tie} (h : ts[i]? = some t) : ∀ u ∈ ts.take i, kmt u t.1 t.2.1 = false := fun u hu => by
  obtain ⟨j, hj⟩ := List.mem_iff_getElem?.mp hu
  rw [List.getElem?_take] at hj
  split at hj
  · rename_i hji
    obtain ⟨h1, e1⟩ := List.getElem?_eq_some_iff.mp hj
    obtain ⟨h2, e2⟩ := List.getElem?_eq_some_iff.mp h
    have := List.pairwise_iff_getElem.mp pw j i h1 h2 hji
    rw [e1, e2] at this
    exact this
  · cases hj
theorem set_range {β : Type} (n : Nat) (f : Nat → β) (j : Nat) (v : β) : ((List.range n).map f).set j v = (List.range n).map fun x => if x = j then v else f x := by
  apply List.ext_getElem?
  intro i
  rw [List.getElem?_set, List.getElem?_map]
  by_cases hij : j = i
  · subst hij
    by_cases hj : j < n
    · simp [hj]
    · simp [hj]
  · rw [if_neg hij, List.getElem?_map]
    by_cases hi : i < n
    · have : ¬ i = j := fun z => hij z.symm
      simp [hi, this]
    · simp [hi]
def matL (n : Nat) (k : Nat → Nat → Int) : List (List Int) := (List.range n).map fun i => (List.range n).map fun j => k i j
def spYd : SpI := fun as P => ∃ (n : Nat) (m : Nat → Int) (ts : List Tie), as = [.d (.list (((List.range n).map m).map PyData.int)), .d (.list (ts.map tieD))] ∧ 1 ≤ n ∧ n ≤ 7 ∧ (∀ i, i < n → 0 ≤ m i ∧ m i ≤ 9) ∧ TiesOk n ts ∧ P ((List.range n).map m) (matL n (kOf ts))
/-- must_be of what is so: nothing happens -/
def spMust : Sp := fun vs H Q _ => ∃ x y, vs = [.bl true, x, y] ∧ Q .non H
theorem c_must_be (T : Txt K mg C) : ∃ (f : Addr) (fd : FuncData), FnOk P w K mg base CX0 1 f fd p_must_be spMust ∧ mg "must_be" = some (.ref f) ∧ PySem.W.keepIn K (.ref f) = true ∧ Binds K fd p_must_be [] := by
  obtain ⟨f, fd, F, hm, bd⟩ := T.d_must_be
  refine ⟨f, fd, F.ok sc_must_be (fun vs H Q E h => by obtain ⟨a, ns, rfl, _⟩ := h; rfl) (fun cdv A outer s H vs Q E hr h => ?_), hm, F.kp, bd⟩
  obtain ⟨x, y, rfl, k⟩ := h
  refine ⟨_, pss_one (ps_if (pt_not (pt_val (pv 0))) (pss_one ps_never) pss_nil), ?_⟩
  exact ⟨_, rfl, true, rfl, iteF k⟩
/-- the rows of kinds while they are made -/
structure KAt (H : Hp) (q : Addr) (rs : List Addr) (n : Nat) (k : Nat → Nat → Int) : Prop where
  top : H q = some (.lst (rs.map V.ref))
  len : rs.length = n
  nd : rs.Nodup
  nq : q ∉ rs
  row : ∀ (i : Nat) (r : Addr), rs[i]? = some r → H r = some (.lst ((List.range n).map fun j => V.int (k i j)))
theorem at_rangeV {n j : Nat} (f : Nat → V) (h : j < n) : atI ((List.range n).map f) (j : Int) = some (f j) := by
  rw [atI_map, atI_range h]; rfl
theorem KAt.put {H : Hp} {q : Addr} {rs : List Addr} {n : Nat} {k : Nat → Nat → Int} (h : KAt H q rs n k) {i j : Nat} {r : Addr} (e : rs[i]? = some r) (v : Int) :
    KAt (upd H r (.lst (((List.range n).map fun j => V.int (k i j)).set j (V.int v)))) q rs n fun a b => if a = i ∧ b = j then v else k a b := by
  refine ⟨?_, h.len, h.nd, h.nq, fun i' r' e' => ?_⟩
  · have n1 : q ≠ r := fun z => h.nq (by rw [z]; exact List.mem_of_getElem? e)
    rw [upd_ne n1]; exact h.top
  · by_cases hi : i' = i
    · subst hi
      rw [e] at e'; cases e'
      rw [upd_same, set_range]
      congr 3
      funext x
      by_cases hx : x = j <;> simp [hx]
    · have n1 : r' ≠ r := fun z => hi (L2.nd_ix h.nd e' (by rw [z]; exact e))
      rw [upd_ne n1, h.row i' r' e']
      congr 3
      funext x
      have : ¬ (i' = i ∧ x = j) := fun z => hi z.1
      simp [this]
theorem KAt.congr {H : Hp} {q : Addr} {rs : List Addr} {n : Nat} {k k' : Nat → Nat → Int} (h : KAt H q rs n k) (e : ∀ a b, a < n → b < n → k a b = k' a b) : KAt H q rs n k' := by
  refine ⟨h.top, h.len, h.nd, h.nq, fun i r hi => ?_⟩
  rw [h.row i r hi]
  congr 2
  apply List.map_congr_left
  intro x hx
  have hi' : i < n := by rw [← h.len]; exact (List.getElem?_eq_some_iff.mp hi).1
  rw [e i x hi' (by simpa using hx)]
theorem RpL.of_get {F : Hp} : ∀ {vs : List V} {ds : List PyData}, vs.length = ds.length → (∀ (i : Nat) (v : V) (d : PyData), vs[i]? = some v → ds[i]? = some d → Rp F v d) → RpL F vs ds
  | [], [], _, _ => .nil
  | [], _ :: _, h, _ => by cases h
  | _ :: _, [], h, _ => by cases h
  | v :: vs, d :: ds, h, k => .cons (k 0 v d rfl rfl) (RpL.of_get (by simpa using h) fun i v' d' e1 e2 => k (i + 1) v' d' (by simpa using e1) (by simpa using e2))
theorem KAt.rp {H F : Hp} {q : Addr} {rs : List Addr} {n : Nat} {k : Nat → Nat → Int} (h : KAt H q rs n k) (e : ∀ a, a = q ∨ a ∈ rs → F a = H a) : Rp F (.ref q) (.list (kd (matL n k))) := by
  refine .lst (by rw [e q (.inl rfl)]; exact h.top) (RpL.of_get ?_ fun i v d e1 e2 => ?_)
  · simp [kd, matL, h.len]
  · rw [List.getElem?_map] at e1
    obtain ⟨r, er, rfl⟩ := Option.map_eq_some_iff.mp e1
    have hi : i < n := by rw [← h.len]; exact (List.getElem?_eq_some_iff.mp er).1
    have e3 : (kd (matL n k))[i]? = some (.list (((List.range n).map fun j => k i j).map PyData.int)) := by simp [kd, matL, hi]
    rw [e3] at e2; cases e2
    refine .lst (by rw [e r (.inr (List.mem_of_getElem? er))]; exact h.row i r er) ?_
    have := RpL.ints (F := F) ((List.range n).map fun j => k i j)
    rw [List.map_map] at this
    exact this
theorem must_args {b : Bool} {x y : V} (h : b = true) : ([V.bl b, x, y] ++ []) = [V.bl true, x, y] := by subst h; rfl
/-- Yard.__init__ over the heap alone: what is made is new and stands by itself -/
def spYH (C : Addr) : Sp := fun vs H Q _ => ∃ (F0 : Hp) (n : Nat) (m : Nat → Int) (ts : List Tie) (x dx : Addr) (v1 v2 : V), vs = [.ref x, v1, v2] ∧ H x = some (.ins C dx []) ∧ H dx = some (.own x) ∧ dx ≠ x ∧ F0 x = none ∧ F0 dx = none ∧ Same F0 H ∧
  Rp F0 v1 (.list (((List.range n).map m).map PyData.int)) ∧ Rp F0 v2 (.list (ts.map tieD)) ∧ 1 ≤ n ∧ n ≤ 7 ∧ (∀ i, i < n → 0 ≤ m i ∧ m i ≤ 9) ∧ TiesOk n ts ∧
  ∀ (Fs H' : Hp) (t q : Addr), Fs x = some (.ins C dx (yf t q)) → Rp Fs (.ref t) (.tuple (((List.range n).map m).map PyData.int)) → Rp Fs (.ref q) (.list (kd (matL n (kOf ts)))) → Same Fs H' →
    (∀ a, Fs a ≠ none → a = x ∨ a = dx ∨ H a = none) → (∀ a o, H a = some o → a ≠ x → H' a = some o) → Q .non H'
theorem c_initH (T : Txt K mg C) (D : ∃ (f : Addr) (fd : FuncData), Fun K "__init__" "Yard.__init__" s_Yard_init f fd ∧ Mk K C f ∧ Binds K fd p_Yard_init []) :
    ∃ (f : Addr) (fd : FuncData), FnOk P w K mg base CX0 2 f fd p_Yard_init (spYH C) ∧ Mk K C f ∧ Binds K fd p_Yard_init [] := by
  obtain ⟨f, fd, F, mk, bd⟩ := D
  obtain ⟨fm, fdm, FM, mgm, kpm, bdm⟩ := c_must_be (P := P) (w := w) (base := base) T
  refine ⟨f, fd, F.ok sc_Yard_init (fun vs H Q E h => ?_) (fun cdv A0 outer s H vs Q E hr h => ?_), mk, bd⟩
  · obtain ⟨F0, n, m, ts, x, dx, v1, v2, rfl, _⟩ := h
    rfl
  obtain ⟨F0, n, m, ts, x, dx, v1, v2, rfl, hx, hdx, ndx, fx, fdx, fh, r1, r2, n1, n7, hm, ok, k⟩ := h
  cases r1 with
  | @lst a1 vs1 _ f1 l1 =>
  cases r2 with
  | @lst a2 vs2 _ f2 l2 =>
  have e1 := l1.of_ints
  subst e1
  have h1 := fh _ _ f1
  have h2 := fh _ _ f2
  have tk : ∀ tk2 : Tok, True := fun _ => trivial
  obtain ⟨tk1, mgP⟩ := T.mg_MOST_PLACES
  obtain ⟨tk2, mgN⟩ := T.mg_MOST_NUMBER
  have hu : Room 1 _ := hr
  refine ⟨_, pss_cons (ps_set (i := 3) sc_Yard_init.nd rfl (by first | exact Or.inl rfl | exact Or.inr rfl) (pe_callB call_len_seq (by rfl) T.len PySem.boot_len (pa_cons (pv 1) pa_nil)))
    (pss_cons (ps_expr (pe_call FM hr (by rfl) mgm kpm bdm .nil pass0 (pa_cons (pe_chain op_le op_le pe_int (pv 3) (pe_glob (v := .int 7) (by rfl) mgP ⟨_, rfl⟩)) (pa_cons pe_str (pa_cons pe_int pa_nil)))))
    (pss_cons (ps_fld (pv 0) (pe_callTy call_tuple_of (by rfl) T.tuple boot_tuple' (pa_cons (pv 1) pa_nil)) rfl)
    (pss_cons (ps_for PassesOwn.never rfl (pi_range1 (by rfl) T.range (pa_cons (pv 3) pa_nil)) (pg_name (i := 4) sc_Yard_init.nd rfl (by first | exact Or.inl rfl | exact Or.inr rfl))
      (pss_one (ps_expr (pe_call FM hr (by rfl) mgm kpm bdm .nil pass0 (pa_cons (pe_chain op_le op_le pe_int (pe_ix ix_tup (pe_fld (pv 0) rfl) (pv 4) (fun _ _ => rfl)) (pe_glob (v := .int 9) (by rfl) mgN ⟨_, rfl⟩)) (pa_cons pe_str (pa_cons (pv 4) pa_nil)))))))
    (pss_cons (ps_fld (pv 0) (pe_lc (own := [("place", 4)]) (g := gName 4) rfl sc_Yard_init.nd (pi_range1 (by rfl) T.range (pa_cons (pv 3) pa_nil)) (blkOk_by (N := n_Yard_init) (sc := defScope s_Yard_init) (by decide +kernel))
      (fun _ _ _ _ _ => pg_name (i := 4) sc_Yard_init.nd rfl (Or.inl rfl)) (fun _ _ _ _ _ => pts_nil)
      (fun _ _ _ _ _ => pe_lc (own := [("other", 5)]) (g := gName 5) rfl sc_Yard_init.nd (pi_range1 (by rfl) T.range (pa_cons (pv 3) pa_nil)) (blkOk_by (N := n_Yard_init) (sc := { kind := .function, names := [(".0", .local), ("place", .local), ("range", .globalImplicit), ("many", .cell)], isGenerator := false, isCoroutine := false, more := [] }) (by decide +kernel))
        (fun _ _ _ _ _ => pg_name (i := 5) sc_Yard_init.nd rfl (Or.inl rfl)) (fun _ _ _ _ _ => pts_nil) (fun _ _ _ _ _ => pe_int))) rfl)
    (pss_one (ps_for PassesOwn.never rfl (pi_range1 (by rfl) T.range (pa_cons (pe_callB call_len_seq (by rfl) T.len PySem.boot_len (pa_cons (pv 2) pa_nil)) pa_nil)) (pg_name (i := 6) sc_Yard_init.nd rfl (Or.inl rfl))
      (pss_cons (ps_asg (pe_ix ix_list (pv 2) (pv 6) (fun _ _ => rfl)) (pg_tup rfl (pgs_cons (pg_name (i := 7) sc_Yard_init.nd rfl (Or.inl rfl)) (pgs_cons (pg_name (i := 5) sc_Yard_init.nd rfl (Or.inl rfl)) (pgs_cons (pg_name (i := 8) sc_Yard_init.nd rfl (Or.inl rfl)) pgs_nil)))))
      (pss_cons (ps_expr (pe_call FM hr (by rfl) mgm kpm bdm .nil pass0 (pa_cons (pe_and (pe_chain op_le op_lt pe_int (pv 7) (pv 3)) (pe_and (pe_chain op_le op_lt pe_int (pv 5) (pv 3)) (pe_one (pe_cmpR op_ne (pv 7) (pv 5) (nomark _))))) (pa_cons pe_str (pa_cons (pv 6) pa_nil)))))
      (pss_cons (ps_expr (pe_call FM hr (by rfl) mgm kpm bdm .nil pass0 (pa_cons (pe_and (pe_chain op_le op_le pe_int (pv 8) (pe_glob (v := .int 9) (by rfl) mgN ⟨_, rfl⟩)) (pe_one (pe_cmpR op_eq (pe_ix ix_list (pe_ix ix_list (pe_fld (pv 0) rfl) (pv 7) (fun _ _ => rfl)) (pv 5) (fun _ _ => rfl)) pe_int (nomark _)))) (pa_cons pe_str (pa_cons (pv 6) pa_nil)))))
      (pss_cons (ps_asg (pv 8) (pg_sub (pe_ix ix_list (pe_fld (pv 0) rfl) (pv 7) (fun _ _ => rfl)) (pv 5) set_list))
      (pss_one (ps_asg (pv 8) (pg_sub (pe_ix ix_list (pe_fld (pv 0) rfl) (pv 5) (fun _ _ => rfl)) (pv 7) set_list))))))))))))), ?_⟩
  -- many = len(marks); must_be(..)
  refine ⟨_, rfl, a1, _, rfl, .inl (SqL.of h1), ?_⟩
  rw [show ((((List.range n).map m).map V.int).length) = n by simp]
  refine ⟨_, rfl, _, _, rfl, rfl, _, rfl, ?_⟩
  rw [decide_eq_true (show (1 : Int) ≤ (n : Int) by omega)]
  refine iteT ⟨_, _, rfl, rfl, _, _, must_args (decide_eq_true (show (n : Int) ≤ 7 by omega)), ?_⟩
  -- self.marked = tuple(marks)
  refine ⟨_, rfl, a1, _, rfl, .inl ⟨SqL.of h1, fun t ht => ?_⟩⟩
  have nxt : x ≠ t := ne_of_none hx ht
  have ndt : dx ≠ t := ne_of_none hdx ht
  refine ⟨_, rfl, x, C, dx, [], rfl, by rw [upd_ne nxt]; exact hx, T.cY, T.n_marked, (by show 0 < 1000; decide), ?_⟩
  generalize hH1 : (upd (upd H t (.tup (((List.range n).map m).map V.int))) x (.ins C dx (putF "marked" (.ref t) []))) = H1
  have x1 : H1 x = some (.ins C dx (putF "marked" (.ref t) [])) := by rw [← hH1, upd_same]
  have t1 : H1 t = some (.tup (((List.range n).map m).map V.int)) := by rw [← hH1, upd_ne nxt.symm, upd_same]
  have k1 : ∀ b o, H b = some o → b ≠ x → H1 b = some o := fun b o e ne => by rw [← hH1, upd_ne ne, upd_ne (ne_of_none e ht)]; exact e
  -- the marks
  refine ⟨_, rfl, _, rfl, by omega, by omega, ?_⟩
  refine for_range (lo := 0) (n := ((n : Int)).toNat) (fun i σ H2 => H2 = H1 ∧ ∃ v, σ = [some (.ref x), some (.ref a1), some (.ref a2), some (.int n), v, none, none, none, none]) ⟨rfl, none, rfl⟩ ?_ ?_
  · rintro i σ H2 hi ⟨rfl, v, rfl⟩
    have hi' : i < n := by simpa using hi
    obtain ⟨b1, b2⟩ := hm i hi'
    refine ⟨_, rfl, x, C, dx, _, _, rfl, x1, T.cY, T.n_marked, by rw [lookup_putF, if_pos rfl], _, rfl, t, _, _, _, rfl, rfl, SqT.of t1, at_of (j := i) (v := .int (m i)) (by omega) (by simp [hi']), _, _, rfl, rfl, _, rfl, ?_⟩
    rw [decide_eq_true b1]
    refine iteT ⟨_, _, rfl, rfl, _, rfl, _, _, must_args (decide_eq_true b2), ?_⟩
    exact ⟨rfl, _, rfl⟩
  rintro σ H1 ⟨rfl, v, rfl⟩
  -- the rows of kinds
  refine ⟨_, rfl, _, rfl, by omega, by omega, fun q hq => ?_⟩
  have q1 : H q = none := by
    cases e : H q with
    | none => rfl
    | some o =>
      by_cases z : q = x
      · subst z; rw [x1] at hq; cases hq
      · rw [k1 q o e z] at hq; cases hq
  have qx : q ≠ x := fun z => by subst z; rw [x1] at hq; cases hq
  have qt : q ≠ t := fun z => by subst z; rw [t1] at hq; cases hq
  refine lc_range (lo := 0) (n := ((n : Int)).toNat) (fun i H2 => ∃ rs : List Addr, rs.length = i ∧ rs.Nodup ∧ H2 q = some (.lst (rs.map V.ref)) ∧ q ∉ rs ∧ (∀ r, r ∈ rs → H1 r = none ∧ H2 r = some (.lst (List.replicate n (V.int 0)))) ∧ ∀ b o, H1 b = some o → H2 b = some o)
    ⟨[], rfl, List.nodup_nil, upd_same, by simp, (fun r h => by cases h), fun b o e => by rw [upd_ne (ne_of_none e hq)]; exact e⟩ ?_ ?_
  · rintro i H2 hi ⟨rs, el, nd, tq, nq, rows, kp⟩
    refine ⟨rfl, ?_⟩
    simp only [tYes, if_true]
    refine ⟨_, rfl, _, rfl, by omega, by omega, fun r hr2 => ?_⟩
    refine lc_range (lo := 0) (n := ((n : Int)).toNat) (fun j H3 => H3 r = some (.lst (List.replicate j (V.int 0))) ∧ ∀ b o, H2 b = some o → H3 b = some o) ⟨upd_same, fun b o e => by rw [upd_ne (ne_of_none e hr2)]; exact e⟩ ?_ ?_
    · rintro j H3 hj ⟨g1, g2⟩
      refine ⟨rfl, ?_⟩
      simp only [tYes, if_true]
      refine ⟨_, g1, by rw [List.length_replicate]; exact sz_lt (by omega), ?_, fun b o e => ?_⟩
      · rw [upd_same, List.replicate_succ']
      · rw [upd_ne (ne_of_none e hr2)]; exact g2 b o e
    · rintro H3 ⟨g1, g2⟩
      have nr : r ∉ rs := fun z => by rw [(rows r z).2] at hr2; cases hr2
      have nrq : r ≠ q := fun z => by subst z; rw [tq] at hr2; cases hr2
      refine ⟨_, g2 _ _ tq, by rw [List.length_map, el]; exact sz_lt (by omega), rs ++ [r], by simp [el], ?_, by rw [upd_same]; simp, ?_, fun r' h' => ?_, fun b o e => ?_⟩
      · exact List.nodup_append.mpr ⟨nd, by simp, fun a ha b hb => by
          have : b = r := by simpa using hb
          subst this
          exact fun z => nr (by rw [← z]; exact ha)⟩
      · simp [nq, nrq.symm]
      · have hrH1 : ∀ r'', r'' ∈ rs ∨ r'' = r → H1 r'' = none := fun r'' hr'' => by
          rcases hr'' with z | z
          · exact (rows r'' z).1
          · subst z
            cases e : H1 r'' with
            | none => rfl
            | some o => rw [kp r'' o e] at hr2; cases hr2
        have h'' : r' ∈ rs ∨ r' = r := by simpa using h'
        have nq' : r' ≠ q := fun z => by
          rcases h'' with z2 | z2
          · exact nq (by rw [← z]; exact z2)
          · exact nrq (by rw [← z2]; exact z)
        refine ⟨hrH1 r' h'', ?_⟩
        rw [upd_ne nq']
        rcases h'' with z | z
        · exact g2 _ _ (rows r' z).2
        · subst z
          rw [g1]
          simp
      · rw [upd_ne (ne_of_none e hq)]; exact g2 b o (kp b o e)
  rintro H2 ⟨rs, el, nd, tq, nq, rows, kp⟩
  have hn : (n : Int).toNat = n := by omega
  rw [hn] at el
  -- self.kinds = ..
  refine ⟨_, rfl, x, C, dx, _, rfl, kp x _ x1, T.cY, T.n_kinds, (by show 1 < 1000; decide), ?_⟩
  have xr : x ∉ rs := fun z => by have := (rows x z).1; rw [x1] at this; cases this
  have tr : t ∉ rs := fun z => by have := (rows t z).1; rw [t1] at this; cases this
  have k2 : KAt (upd H2 x (.ins C dx (putF "kinds" (.ref q) (putF "marked" (.ref t) [])))) q rs n (kOf []) := by
    refine ⟨by rw [upd_ne qx]; exact tq, el, nd, nq, fun i r hi => ?_⟩
    have hm' := List.mem_of_getElem? hi
    rw [upd_ne (fun z => xr (by rw [← z]; exact hm')), (rows r hm').2]
    have e : (fun j => V.int (kOf [] i j)) = fun _ => V.int 0 := by funext j; rfl
    rw [e, List.map_const', List.length_range]
  have fr : ∀ r, r ∈ rs → H r = none := fun r hr' => by
    cases e : H r with
    | none => rfl
    | some o =>
      have z : r ≠ x := fun z => xr (by rw [← z]; exact hr')
      have := (rows r hr').1
      rw [k1 r o e z] at this; cases this
  have kp2 : ∀ b o, H b = some o → b ≠ x → (upd H2 x (.ins C dx (putF "kinds" (.ref q) (putF "marked" (.ref t) [])))) b = some o := fun b o e ne => by rw [upd_ne ne]; exact kp b o (k1 b o e ne)
  have x2 : (upd H2 x (.ins C dx (putF "kinds" (.ref q) (putF "marked" (.ref t) [])))) x = some (.ins C dx (putF "kinds" (.ref q) (putF "marked" (.ref t) []))) := upd_same
  have t2 : (upd H2 x (.ins C dx (putF "kinds" (.ref q) (putF "marked" (.ref t) [])))) t = some (.tup (((List.range n).map m).map V.int)) := by rw [upd_ne nxt.symm]; exact kp t _ t1
  generalize (upd H2 x (.ins C dx (putF "kinds" (.ref q) (putF "marked" (.ref t) [])))) = H3 at k2 kp2 x2 t2 ⊢
  have x3 : H3 x = some (.ins C dx (yf t q)) := x2
  -- the ties
  have a2x : a2 ≠ x := fun z => by rw [z, fx] at f2; cases f2
  have a2r : a2 ∉ rs := fun z => by rw [fr a2 z] at h2; cases h2
  have len2 : vs2.length = ts.length := by rw [l2.length, List.length_map]
  have sz := ok.sz
  refine ⟨_, rfl, a2, _, rfl, .inl (SqL.of (kp2 a2 _ h2 a2x)), ?_⟩
  rw [len2]
  refine ⟨_, rfl, by omega, by omega, ?_⟩
  refine for_range (lo := 0) (n := ((ts.length : Int)).toNat) (fun i σ H4 => ∃ v4 v5 v6 v7 v8, σ = [some (.ref x), some (.ref a1), some (.ref a2), some (.int n), v4, v5, v6, v7, v8] ∧ KAt H4 q rs n (kOf (ts.take i)) ∧ ∀ b, b ∉ rs → H4 b = H3 b)
    ⟨_, _, _, _, _, rfl, k2, fun _ _ => rfl⟩ ?_ ?_
  · rintro i σ H4 hi ⟨v4, v5, v6, v7, v8, rfl, kk, fr4⟩
    have hi' : i < ts.length := by simpa using hi
    obtain ⟨⟨a, b, c⟩, et⟩ : ∃ tt, ts[i]? = some tt := ⟨_, List.getElem?_eq_getElem hi'⟩
    obtain ⟨hv, ev, rv⟩ := l2.get (i := i) (d := tieD (a, b, c)) (by rw [List.getElem?_map, et]; rfl)
    cases (show Rp F0 hv (.tuple _) from rv) with
    | @tup p ws _ fp lp =>
    cases lp with
    | cons p1 lp =>
    cases lp with
    | cons p2 lp =>
    cases lp with
    | cons p3 lp =>
    cases lp
    cases p1
    cases p2
    cases p3
    obtain ⟨ha, hb, hab, c1, c9⟩ := ok.bd _ (List.mem_of_getElem? et)
    have ha : a < n := ha
    have hb : b < n := hb
    have hab : a ≠ b := hab
    have c1 : 1 ≤ c := c1
    have c9 : c ≤ 9 := c9
    have pw := take_pw ok.pw et
    have z0 : kOf (ts.take i) a b = 0 := kOf_none fun u hu => pw u hu
    have z1 : kOf (ts.take i) b a = 0 := by rw [kOf_comm]; exact z0
    have px : p ≠ x := fun z => by rw [z, fx] at fp; cases fp
    have pr : p ∉ rs := fun z => by have := fh _ _ fp; rw [fr p z] at this; cases this
    have hp4 : H4 p = some (.tup [.int a, .int b, .int c]) := by rw [fr4 p pr]; exact kp2 p _ (fh _ _ fp) px
    have ha4 : H4 a2 = some (.lst vs2) := by rw [fr4 a2 a2r]; exact kp2 a2 _ h2 a2x
    have hx4 : H4 x = some (.ins C dx (yf t q)) := by rw [fr4 x xr]; exact x3
    refine ⟨_, rfl, _, rfl, a2, _, _, _, rfl, rfl, SqL.of ha4, at_of (j := i) (by omega) ev, p, _, rfl, SqT.of hp4, rfl, _, _, rfl, _, _, rfl, _, _, rfl, rfl, ?_⟩
    -- the tie is between two places
    refine ⟨_, rfl, _, _, rfl, rfl, _, rfl, ?_⟩
    rw [decide_eq_true (show (0 : Int) ≤ (a : Int) by omega)]
    refine iteT ⟨_, rfl, _, _, rfl, rfl, _, rfl, ?_⟩
    rw [decide_eq_true (show (a : Int) < (n : Int) by omega)]
    refine iteT ⟨_, rfl, _, _, rfl, rfl, _, rfl, ?_⟩
    rw [decide_eq_true (show (0 : Int) ≤ (b : Int) by omega)]
    refine iteT ⟨_, rfl, _, _, rfl, rfl, _, rfl, ?_⟩
    rw [decide_eq_true (show (b : Int) < (n : Int) by omega)]
    refine iteT ⟨_, rfl, _, rfl, rfl, _, rfl, _, _, must_args ?_, ?_⟩
    · rw [dec_int, Bool.not_eq_true']
      exact beq_eq_false_iff_ne.mpr (fun z => hab (by omega))
    obtain ⟨ra, era⟩ : ∃ r, rs[a]? = some r := ⟨_, List.getElem?_eq_getElem (by rw [kk.len]; exact ha)⟩
    obtain ⟨rb, erb⟩ : ∃ r, rs[b]? = some r := ⟨_, List.getElem?_eq_getElem (by rw [kk.len]; exact hb)⟩
    have nra : ra ∈ rs := List.mem_of_getElem? era
    have nrb : rb ∈ rs := List.mem_of_getElem? erb
    have lk : List.lookup ("kinds" : Str) (yf t q) = some (V.ref q) := by unfold yf; rw [lookup_putF, if_pos rfl]
    have ata : atI (rs.map V.ref) (a : Int) = some (.ref ra) := at_of (j := a) (by omega) (by rw [List.getElem?_map, era]; rfl)
    have atb : atI (rs.map V.ref) (b : Int) = some (.ref rb) := at_of (j := b) (by omega) (by rw [List.getElem?_map, erb]; rfl)
    refine ⟨_, rfl, _, _, rfl, rfl, _, rfl, ?_⟩
    rw [decide_eq_true c1]
    refine iteT ⟨_, _, rfl, rfl, _, rfl, ?_⟩
    rw [decide_eq_true c9]
    refine iteT ⟨_, rfl, x, C, dx, _, _, rfl, hx4, T.cY, T.n_kinds, lk, _, rfl, q, _, _, _, rfl, rfl, SqL.of kk.top, ata, _, rfl, ra, _, _, _, rfl, rfl, SqL.of (kk.row a ra era), at_rangeV _ hb, rfl, _, rfl, _, _, must_args ?_, ?_⟩
    · rw [z0]; rfl
    have k5 := kk.put era (j := b) c
    refine ⟨_, rfl, _, rfl, x, C, dx, _, _, rfl, hx4, T.cY, T.n_kinds, lk, _, rfl, q, _, _, _, rfl, rfl, SqL.of kk.top, ata, _, rfl, ra, _, _, b, rfl, rfl, kk.row a ra era, by rw [List.length_map, List.length_range]; exact ixN_nat hb, ?_⟩
    have hx5 : upd H4 ra (.lst (((List.range n).map fun j => V.int (kOf (ts.take i) a j)).set b (V.int c))) x = some (.ins C dx (yf t q)) := by rw [upd_ne (fun z => xr (by rw [z]; exact nra))]; exact hx4
    have fr5 : ∀ z, z ∉ rs → upd H4 ra (.lst (((List.range n).map fun j => V.int (kOf (ts.take i) a j)).set b (V.int c))) z = H3 z := fun z hz => by rw [upd_ne (fun y => hz (by rw [y]; exact nra))]; exact fr4 z hz
    generalize upd H4 ra (.lst (((List.range n).map fun j => V.int (kOf (ts.take i) a j)).set b (V.int c))) = H5 at k5 hx5 fr5 ⊢
    refine ⟨_, rfl, _, rfl, x, C, dx, _, _, rfl, hx5, T.cY, T.n_kinds, lk, _, rfl, q, _, _, _, rfl, rfl, SqL.of k5.top, atb, _, rfl, rb, _, _, a, rfl, rfl, k5.row b rb erb, by rw [List.length_map, List.length_range]; exact ixN_nat ha, ?_⟩
    refine ⟨_, _, _, _, _, rfl, (k5.put erb (j := a) c).congr fun a' b' _ _ => ?_, fun z hz => by rw [upd_ne (fun y => hz (by rw [y]; exact nrb))]; exact fr5 z hz⟩
    have et2 : ts.take (i + 1) = ts.take i ++ [(a, b, c)] := by rw [List.take_succ, et]; rfl
    rw [et2]
    by_cases hm2 : kmt (a, b, c) a' b' = true
    · rw [kOf_snoc_yes hm2 (fun u hu => kmt_trans hm2 (pw u hu))]
      rcases kmt_iff.mp hm2 with ⟨rfl, rfl⟩ | ⟨rfl, rfl⟩ <;> simp
    · have hm3 : kmt (a, b, c) a' b' = false := by simpa using hm2
      rw [kOf_snoc_no hm3]
      have n1 : ¬ (a' = b ∧ b' = a) := fun z => hm2 (kmt_iff.mpr (.inr ⟨z.2.symm, z.1.symm⟩))
      have n2 : ¬ (a' = a ∧ b' = b) := fun z => hm2 (kmt_iff.mpr (.inl ⟨z.1.symm, z.2.symm⟩))
      rw [if_neg n1, if_neg n2]
  · rintro σ H4 ⟨v4, v5, v6, v7, v8, rfl, kk, fr4⟩
    have hn2 : ((ts.length : Int)).toNat = ts.length := by omega
    rw [hn2, List.take_length] at kk
    have oldK : ∀ b o, H b = some o → b ≠ x → H4 b = some o := fun b o e ne => by
      rw [fr4 b (fun z => by rw [fr b z] at e; cases e)]
      exact kp2 b o e ne
    classical
    have hx4 : H4 x = some (.ins C dx (yf t q)) := by rw [fr4 x xr]; exact x3
    have ht4 : H4 t = some (.tup (((List.range n).map m).map V.int)) := by rw [fr4 t tr]; exact t2
    refine k (fun a => if a = x ∨ a = dx ∨ a = t ∨ a = q ∨ a ∈ rs then H4 a else none) H4 t q ((if_pos (.inl rfl)).trans hx4) (.tup ((if_pos (.inr (.inr (.inl rfl)))).trans ht4) (RpL.ints _)) (kk.rp fun a ha => ?_) (fun a o e => ?_) (fun a h => ?_) oldK
    · rcases ha with ha | ha
      · exact if_pos (.inr (.inr (.inr (.inl ha))))
      · exact if_pos (.inr (.inr (.inr (.inr ha))))
    · have e : (if a = x ∨ a = dx ∨ a = t ∨ a = q ∨ a ∈ rs then H4 a else none) = some o := e
      split at e
      · exact e
      · cases e
    · have h : (if a = x ∨ a = dx ∨ a = t ∨ a = q ∨ a ∈ rs then H4 a else none) ≠ none := h
      split at h
      · rename_i z
        rcases z with rfl | rfl | rfl | rfl | z
        · exact .inl rfl
        · exact .inr (.inl rfl)
        · exact .inr (.inr ht)
        · exact .inr (.inr q1)
        · exact .inr (.inr (fr _ z))
      · exact (h rfl).elim
/-- known from now on, what is new by itself -/
theorem jn_same {F Fs : Hp} {H H' : Hp} {x : Addr} (h1 : Same F H) (h2 : Same Fs H') (fx : F x = none) (kp : ∀ a o, H a = some o → a ≠ x → H' a = some o) : Same (jn F Fs) H' := fun a o e => by
  unfold jn at e
  split at e
  · rename_i u hu
    cases e
    exact h2 _ _ hu
  · exact kp a o (h1 _ _ e) (ne_of_none e fx)
theorem jn_r {F Fs : Hp} : Same Fs (jn F Fs) := fun a o e => by unfold jn; rw [e]
theorem c_init (T : Txt K mg C) (D : ∃ (f : Addr) (fd : FuncData), Fun K "__init__" "Yard.__init__" s_Yard_init f fd ∧ Mk K C f ∧ Binds K fd p_Yard_init []) : CalI P w K mg base C 2 spYd := by
  obtain ⟨f, fd, F, mk, bd⟩ := c_initH (P := P) (w := w) (base := base) T D
  refine ⟨f, fd, p_Yard_init, F.imp fun vs H Q E h => ?_, mk, T.mg_Yard, bd⟩
  obtain ⟨G, F0, as, x, dx, ws, P0, rfl, hx, hdx, ndx, fx, fdx, bx, bdx, fh, gi, gb, ar, ⟨n, m, ts, rfl, n1, n7, hm, ok, hP⟩, k⟩ := h
  cases ar with
  | cons r1 t =>
  cases t with
  | cons r2 t =>
  cases t
  refine ⟨F0, n, m, ts, x, dx, _, _, rfl, hx, hdx, ndx, fx, fdx, fh, r1, r2, n1, n7, hm, ok, fun Fs H' t q e1 e2 e3 ss nw kp => ?_⟩
  have bs : ∀ a, isBox G a → Fs a = none := fun a h => by
    cases e : Fs a with
    | none => rfl
    | some o =>
      rcases nw a (by rw [e]; simp) with rfl | rfl | z
      · exact absurd h bx
      · exact absurd h bdx
      · exact absurd z (gi.box h)
  have bj : ∀ a, isBox G a → jn F0 Fs a = none := fun a h => by unfold jn; rw [bs a h]; exact gb a h
  have kF := kn.of bj
  have kS : Same Fs (kn G (jn F0 Fs)) := jn_r.trans kF
  refine k _ _ (jn F0 Fs) H' hP ⟨?_, jn_same fh ss fx kp, gi.keep fun a o hb e => kp a o e fun z => bx (by rw [← z]; exact hb), fun a o e ne _ _ => kp a o e ne, fun a h => ?_, bj, x, dx, t, q, rfl, kS _ _ e1, e2.up kS, e3.up kS⟩
  · intro a o e
    unfold jn
    cases e2 : Fs a with
    | none => exact e
    | some u =>
      rcases nw a (by rw [e2]; simp) with rfl | rfl | z
      · rw [fx] at e; cases e
      · rw [fdx] at e; cases e
      · rw [fh _ _ e] at z; cases z
  · unfold jn at h
    cases e2 : Fs a with
    | none => rw [e2] at h; exact .inl h
    | some u =>
      rcases nw a (by rw [e2]; simp) with z | z | z
      · exact .inr (.inr (.inl z))
      · exact .inr (.inr (.inr z))
      · exact .inr (.inl z)

/-! ### clash: how a place and a name do not go together -/
def clashW (y1 y2 : Y) (ns : List Nat) (p q : Nat) : Option (Option Nat) :=
  if y1.m p = y2.m q then ((List.range ns.length).find? fun e => decide (y1.k e p ≠ y2.k (ns.getD e 0) q)).map some else some none
def whyD : Option (Option Nat) → PyData
  | none => .none
  | some none => .tuple [.str "mark"]
  | some (some e) => .tuple [.str "tie", nI e]
theorem find_first {n i : Nat} {f : Nat → Bool} (h : ∀ e, e < i → f e = false) (hi : f i = true) (hn : i < n) : (List.range n).find? f = some i := by
  rw [List.find?_range_eq_some]
  exact ⟨hi, List.mem_range.mpr hn, fun j hj => by rw [h j hj]; rfl⟩
theorem find_no {n : Nat} {f : Nat → Bool} (h : ∀ e, e < n → f e = false) : (List.range n).find? f = none := by
  rw [List.find?_eq_none]
  exact fun x hx => by rw [h x (List.mem_range.mp hx)]; exact Bool.false_ne_true
theorem getD_get {ns : List Nat} {i : Nat} (h : i < ns.length) : ns.getD i 0 = ns[i] := by simp [List.getD, h]
theorem getD_mem {ns : List Nat} {i : Nat} (h : i < ns.length) : ns.getD i 0 ∈ ns := by
  rw [getD_get h]; exact List.getElem_mem h
theorem at_names {l : List Nat} {i : Nat} (h : i < l.length) : atI (l.map nI) (i : Int) = some (nI (l.getD i 0)) := by
  rw [atI_names h, getD_get h]
def spClash : Spc := fun as Q => ∃ (y1 y2 : Y) (ns : List Nat) (p q : Nat), as = [yA y1, yA y2, .d (NL ns), .d (nI p), .d (nI q)] ∧ p < y1.n ∧ q < y2.n ∧ y1.n ≤ 7 ∧ ns.length ≤ y1.n ∧ (∀ x ∈ ns, x < y2.n) ∧ Q (.d (whyD (clashW y1 y2 ns p q)))
theorem c_clash (T : Txt K mg C) : Cal P w K mg base C "clash" 1 spClash := by
  refine cal_of T.d_clash sc_clash (fun as Q h => by obtain ⟨_, _, _, _, _, rfl, _⟩ := h; rfl) fun f cdv A0 outer s H E hr G F as Q hs => ?_
  obtain ⟨y1, y2, ns, p, q, rfl, hp, hq, h7, hl, hn, hQ⟩ := hs
  refine ⟨_, _, (pss_consA (ps_ifA (pt_ne (K := K) hr (pd_ix (K := K) (pd_marked (K := K) T.cY T.n_marked (pd_var 0)) (pd_var 3)) (pd_ix (K := K) (pd_marked (K := K) T.cY T.n_marked (pd_var 1)) (pd_var 4))) (pss_oneA (ps_retA (pd_tup (pda_cons pd_str pda_nil)))) pss_nilA)
  (pss_consA (ps_forA (pi_range1A T.range (pda_cons (pd_len (K := K) T.len (pda_cons (pd_var 2) pda_nil)) pda_nil)) (pg_nameA 5 sc_clash.nd) (pss_oneA (ps_ifA (pt_ne (K := K) hr (pd_ix (K := K) (pd_ix (K := K) (pd_kinds (K := K) T.cY T.n_kinds (pd_var 0)) (pd_var 5)) (pd_var 3)) (pd_ix (K := K) (pd_ix (K := K) (pd_kinds (K := K) T.cY T.n_kinds (pd_var 1)) (pd_ix (K := K) (pd_var 2) (pd_var 5))) (pd_var 4))) (pss_oneA (ps_retA (pd_tup (pda_cons pd_str (pda_cons (pd_var 5) pda_nil))))) pss_nilA)) PassesOwn.never)
  (pss_oneA (ps_retA pd_non)))), ?_⟩
  walk_at "wp"
  refine ⟨_, at_marked y1 hp, _, at_marked y2 hq, ?_⟩
  walk_at "wp"
  refine ⟨fun h => ⟨by decide, ?_⟩, fun h => ⟨by omega, by omega, fun i ρ => (∃ a, ρ = [yA y1, yA y2, .d (NL ns), .d (nI p), .d (nI q), a]) ∧ ∀ e, e < i → y1.k e p = y2.k (ns.getD e 0) q, ⟨⟨_, rfl⟩, fun _ h => absurd h (Nat.not_lt_zero _)⟩, fun i d ρ hd hI => ?_, fun ρ hI => ?_⟩⟩
  · have h : ¬ y1.m p = y2.m q := by simpa using h
    unfold clashW at hQ
    rw [if_neg h] at hQ
    exact hQ
  · obtain ⟨hi, rfl⟩ := rgD0_get hd
    obtain ⟨⟨a, rfl⟩, hb⟩ := hI
    have hk := hn _ (getD_mem hi)
    walk_at "wp"
    refine ⟨_, at_kinds y1 (by omega), ?_⟩
    walk_at "wp"
    refine ⟨_, at_kind y1 hp, ?_⟩
    walk_at "wp"
    refine ⟨_, at_names hi, ?_⟩
    walk_at "wp"
    refine ⟨_, at_kinds y2 hk, ?_⟩
    walk_at "wp"
    refine ⟨_, at_kind y2 hq, ?_⟩
    walk_at "wp"
    refine ⟨fun h2 => ⟨by decide, ?_⟩, fun h2 => ⟨⟨_, rfl⟩, fun e he => ?_⟩⟩
    · unfold clashW at hQ
      rw [if_pos (show y1.m p = y2.m q by simpa using h), find_first (i := i) (fun e he => by simpa using hb e he) (by simpa using h2) hi] at hQ
      exact hQ
    · by_cases z : e = i
      · subst z; simpa using h2
      · exact hb e (by omega)
  · obtain ⟨⟨a, rfl⟩, hb⟩ := hI
    unfold clashW at hQ
    rw [if_pos (show y1.m p = y2.m q by simpa using h), find_no (fun e he => by simpa using hb e he)] at hQ
    walk_at "wp"
    exact hQ

/-! ### first, led_on -/
def good (y1 y2 : Y) (ns : List Nat) (q : Nat) : Bool := !decide (q ∈ ns) && (clashW y1 y2 ns ns.length q).isNone
def led (y1 y2 : Y) : Nat → List Nat → Option (List Nat)
  | 0, ns => some ns
  | t + 1, ns => (List.range y1.n).findSome? fun q => if good y1 y2 ns q then led y1 y2 t (ns ++ [q]) else none
def optNL : Option (List Nat) → PyData
  | none => .none
  | some l => NL l
def spLed (t : Nat) : Spc := fun as Q => ∃ (y1 y2 : Y) (ns : List Nat), as = [yA y1, yA y2, .d (NL ns)] ∧ y1.n = y2.n ∧ y1.n ≤ 7 ∧ ns.length ≤ y1.n ∧ y1.n < ns.length + t ∧ (∀ x ∈ ns, x < y1.n) ∧ Q (.d (optNL (led y1 y2 (y1.n - ns.length) ns)))
theorem whyD_none {o : Option (Option Nat)} : whyD o = .none ↔ o.isNone = true := by
  cases o with
  | none => simp [whyD]
  | some o => cases o <;> simp [whyD]
theorem isN_why (o : Option (Option Nat)) : isN (.d (whyD o)) = some o.isNone := by
  cases o with
  | none => rfl
  | some o => cases o <;> rfl
theorem isN_opt (o : Option (List Nat)) : isN (.d (optNL o)) = some o.isNone := by cases o <;> rfl
theorem some_first {β : Type} {n i : Nat} {f : Nat → Option β} {b : β} (h : ∀ e, e < i → f e = none) (hi : f i = some b) (hn : i < n) : (List.range n).findSome? f = some b := by
  have e : List.range n = List.range i ++ i :: (List.range' (i + 1) (n - (i + 1))) := by
    rw [List.range_eq_range', List.range_eq_range', show n = i + (1 + (n - (i + 1))) by omega]
    rw [← List.range'_append_1, show i + (1 + (n - (i + 1))) - (i + 1) = n - (i + 1) by omega]
    congr 1
    rw [← List.range'_append_1]
    simp
  rw [e, List.findSome?_append]
  have e0 : (List.range i).findSome? f = none := List.findSome?_eq_none_iff.mpr fun x hx => h x (List.mem_range.mp hx)
  rw [e0, List.findSome?_cons, hi]
  rfl
theorem some_no {β : Type} {n : Nat} {f : Nat → Option β} (h : ∀ e, e < n → f e = none) : (List.range n).findSome? f = none :=
  List.findSome?_eq_none_iff.mpr fun x hx => h x (List.mem_range.mp hx)
theorem names_snoc (ns : List Nat) (i : Nat) : ns.map nI ++ [nI i] = (ns ++ [i]).map nI := by simp
theorem lt_succ_cases {P : Nat → Prop} {i : Nat} (h : ∀ q, q < i → P q) (hi : P i) : ∀ q, q < i + 1 → P q := fun q hq => by
  by_cases z : q = i
  · subst z; exact hi
  · exact h q (by omega)
theorem c_led_on (T : Txt K mg C) : ∀ t : Nat, Cal P w K mg base C "led_on" (t + 2) (spLed t)
  | 0 => by
    refine cal_of T.d_led_on sc_led_on (fun as Q h => by obtain ⟨_, _, _, rfl, _⟩ := h; rfl) fun f cdv A0 outer s H E hr G F as Q hs => ?_
    obtain ⟨y1, y2, ns, rfl, _, _, h1, h2, _⟩ := hs
    omega
  | t + 1 => by
    have c_led_on := c_led_on T t
    have c_clash := c_clash (P := P) (w := w) (base := base) T
    have m_many := m_many (P := P) (w := w) (base := base) T
    refine cal_of T.d_led_on sc_led_on (fun as Q h => by obtain ⟨_, _, _, rfl, _⟩ := h; rfl) fun f cdv A0 outer s H E hr G F as Q hs => ?_
    obtain ⟨y1, y2, ns, rfl, hn, h7, h1, h2, hb, hQ⟩ := hs
    refine ⟨_, _, (pss_consA (ps_ifA (pt_eq (K := K) hr (pd_len (K := K) T.len (pda_cons (pd_var 2) pda_nil)) (pd_meth0 m_many hr (by omega) (pd_var 0))) (pss_oneA (ps_retA (pd_var 2))) pss_nilA)
  (pss_consA (ps_forA (pi_range1A T.range (pda_cons (pd_meth0 m_many hr (by omega) (pd_var 0)) pda_nil)) (pg_nameA 3 sc_led_on.nd) (pss_oneA (ps_ifA (PDW.t (pw_andA (pt_nin (K := K) hr (pd_var 3) (pd_var 2)) (pw_and1A (pt_is (pd_call c_clash hr (by omega) (pda_cons (pd_var 0) (pda_cons (pd_var 1) (pda_cons (pd_var 2) (pda_cons (pd_len (K := K) T.len (pda_cons (pd_var 2) pda_nil)) (pda_cons (pd_var 3) pda_nil)))))) pd_non)))) (pss_consA (ps_setA (i := 4) sc_led_on.nd (pd_call c_led_on hr (by omega) (pda_cons (pd_var 0) (pda_cons (pd_var 1) (pda_cons (pd_add (K := K) (pd_var 2) (pd_lst (pda_cons (pd_var 3) pda_nil))) pda_nil)))))
  (pss_oneA (ps_ifA (pt_isnot (pd_var 4) pd_non) (pss_oneA (ps_retA (pd_var 4))) pss_nilA))) pss_nilA)) PassesOwn.never)
  (pss_oneA (ps_retA pd_non)))), ?_⟩
    walk_at "wp"
    refine ⟨y1, rfl, ?_⟩
    walk_at "wp"
    refine ⟨fun h => ?_, fun h => ⟨y1, rfl, ?_⟩⟩
    · have h : ns.length = y1.n := by have := of_decide_eq_true h; omega
      rw [show y1.n - ns.length = 0 by omega] at hQ
      exact hQ
    have h : ¬ ns.length = y1.n := by have := of_decide_eq_false h; omega
    obtain ⟨L, eL⟩ : ∃ L, y1.n - ns.length = L + 1 := ⟨y1.n - ns.length - 1, by omega⟩
    rw [eL] at hQ
    walk_at "wp"
    refine ⟨by omega, by omega, fun i ρ => (∃ a b, ρ = [yA y1, yA y2, .d (NL ns), a, b]) ∧ ∀ q, q < i → (if good y1 y2 ns q then led y1 y2 L (ns ++ [q]) else none) = none, ⟨⟨_, _, rfl⟩, fun _ h => absurd h (Nat.not_lt_zero _)⟩, fun i d ρ hd hI => ?_, fun ρ hI => ?_⟩
    · obtain ⟨hi, rfl⟩ := rgD0_get hd
      obtain ⟨⟨a, b, rfl⟩, hb2⟩ := hI
      walk_at "wp"
      refine ⟨shaped_int _, shaped_names ns, ?_⟩
      rw [any_names]
      walk_at "wp"
      refine ⟨fun h3 => ⟨y1, y2, ns, ns.length, i, rfl, by omega, by omega, h7, h1, fun x hx => by have := hb x hx; omega, ?_⟩, fun h3 => ⟨fun z => (by cases z), fun _ => ⟨⟨_, _, rfl⟩, lt_succ_cases hb2 ?_⟩⟩⟩
      · have h3 : i ∉ ns := by simpa using h3
        walk_at "wp"
        rw [isN_why]
        walk_at "wp"
        refine ⟨fun h4 => ⟨by decide, sz_lt (by omega), y1, y2, ns ++ [i], by rw [names_snoc], hn, h7, by simp; omega, by simp; omega, fun x hx => ?_, ?_⟩, fun h4 => ⟨⟨_, _, rfl⟩, lt_succ_cases hb2 ?_⟩⟩
        · rcases List.mem_append.mp hx with z | z
          · exact hb x z
          · have : x = i := by simpa using z
            omega
        · have hg : good y1 y2 ns i = true := by unfold good; rw [h4]; simp [h3]
          rw [show y1.n - (ns ++ [i]).length = L by simp; omega]
          walk_at "wp"
          rw [isN_opt]
          walk_at "wp"
          refine ⟨fun h5 => ?_, fun h5 => ⟨⟨_, _, rfl⟩, lt_succ_cases hb2 ?_⟩⟩
          · cases e5 : led y1 y2 L (ns ++ [i]) with
            | none => rw [e5] at h5; cases h5
            | some l =>
              have : led y1 y2 (L + 1) ns = some l := some_first hb2 (by rw [if_pos hg, e5]) hi
              rw [this] at hQ
              exact hQ
          · cases e5 : led y1 y2 L (ns ++ [i]) with
            | none => rw [if_pos hg]
            | some l => rw [e5] at h5; cases h5
        · rw [if_neg]
          unfold good
          rw [h4]
          simp
      · have h3 : i ∈ ns := by simpa using h3
        rw [if_neg]
        unfold good
        simp [h3]
    · obtain ⟨⟨a, b, rfl⟩, hb2⟩ := hI
      walk_at "wp"
      have : led y1 y2 (L + 1) ns = none := some_no hb2
      rw [this] at hQ
      exact hQ

def goods (y1 y2 : Y) (given : List Nat) (i : Nat) : Bool := (List.range i).all fun e => good y1 y2 (given.take e) (given.getD e 0)
def firstM (y1 y2 : Y) (given : List Nat) : Option (List Nat) :=
  if y1.n = y2.n then (if goods y1 y2 given given.length then led y1 y2 (y1.n - given.length) given else none) else none
def spFirst : Spc := fun as Q => ∃ (y1 y2 : Y) (given : List Nat), as = [yA y1, yA y2, .d (NL given)] ∧ y1.n ≤ 7 ∧ given.length ≤ y1.n ∧ (∀ x ∈ given, x < y2.n) ∧ Q (.d (optNL (firstM y1 y2 given)))
theorem take_snoc {l : List Nat} {i : Nat} (h : i < l.length) : l.take i ++ [l.getD i 0] = l.take (i + 1) := by
  rw [List.take_succ, getD_get h, List.getElem?_eq_getElem h]
  rfl
theorem mem_take {l : List Nat} {i : Nat} {P : Nat → Prop} (h : ∀ x ∈ l, P x) : ∀ x ∈ l.take i, P x := fun x hx => h x (List.mem_of_mem_take hx)
theorem goods_succ {y1 y2 : Y} {given : List Nat} {i : Nat} : goods y1 y2 given (i + 1) = (goods y1 y2 given i && good y1 y2 (given.take i) (given.getD i 0)) := by
  unfold goods
  rw [List.range_succ, List.all_append]
  simp
theorem goods_le {y1 y2 : Y} {given : List Nat} {i j : Nat} (hij : i ≤ j) (h : goods y1 y2 given j = true) : goods y1 y2 given i = true := by
  unfold goods at h ⊢
  rw [List.all_eq_true] at h ⊢
  exact fun x hx => h x (List.mem_range.mpr (by have := List.mem_range.mp hx; omega))
theorem c_first (T : Txt K mg C) : Cal P w K mg base C "first" 11 spFirst := by
  have c_led_on := c_led_on (P := P) (w := w) (base := base) T 8
  have c_clash := c_clash (P := P) (w := w) (base := base) T
  have m_many := m_many (P := P) (w := w) (base := base) T
  refine cal_of T.d_first sc_first (fun as Q h => by obtain ⟨_, _, _, rfl, _⟩ := h; rfl) fun f cdv A0 outer s H E hr G F as Q hs => ?_
  obtain ⟨y1, y2, given, rfl, h7, hl, hb, hQ⟩ := hs
  unfold firstM at hQ
  refine ⟨_, _, (pss_consA (ps_ifA (pt_ne (K := K) hr (pd_meth0 m_many hr (by omega) (pd_var 0)) (pd_meth0 m_many hr (by omega) (pd_var 1))) (pss_oneA (ps_retA pd_non)) pss_nilA)
  (pss_consA (ps_setA (i := 3) sc_first.nd (pd_lst pda_nil))
  (pss_consA (ps_forA (pi_range1A T.range (pda_cons (pd_len (K := K) T.len (pda_cons (pd_var 2) pda_nil)) pda_nil)) (pg_nameA 4 sc_first.nd) (pss_consA (ps_ifA (pt_bor 3 (PDW.t (pw_orA (pt_in (K := K) hr (pd_ix (K := K) (pd_var 2) (pd_var 4)) (pd_var 3)) (pw_or1A (pt_isnot (pd_call c_clash hr (by omega) (pda_cons (pd_var 0) (pda_cons (pd_var 1) (pda_cons (pd_var 3) (pda_cons (pd_var 4) (pda_cons (pd_ix (K := K) (pd_var 2) (pd_var 4)) pda_nil)))))) pd_non))))) (pss_oneA (ps_retA pd_non)) pss_nilA)
  (pss_oneA (ps_appA (pd_var 3) (pd_ix (K := K) (pd_var 2) (pd_var 4))))) PassesOwn.never)
  (pss_oneA (ps_fz 3 (ps_retA (pd_call c_led_on hr (by omega) (pda_cons (pd_var 0) (pda_cons (pd_var 1) (pda_cons (pd_var 3) pda_nil)))))))))), ?_⟩
  walk_at "wp"
  refine ⟨y1, rfl, ?_⟩
  walk_at "wp"
  refine ⟨y2, rfl, ?_⟩
  walk_at "wp"
  refine ⟨fun h => ?_, fun h => ?_⟩
  · rw [if_neg (by have := h; simp at this; omega)] at hQ
    exact hQ
  have h : y1.n = y2.n := by simp at h; omega
  rw [if_pos h] at hQ
  refine ⟨by decide, by omega, by omega, fun i ρ => (∃ a, ρ = [yA y1, yA y2, .d (NL given), .own ((given.take i).map nI), a]) ∧ goods y1 y2 given i = true, ⟨⟨_, rfl⟩, rfl⟩, fun i d ρ hd hI => ?_, fun ρ hI => ?_⟩
  · obtain ⟨hi, rfl⟩ := rgD0_get hd
    obtain ⟨⟨a, rfl⟩, hg⟩ := hI
    walk_at "wp"
    have ti : (given.take i).length = i := by rw [List.length_take]; omega
    refine ⟨_, at_names hi, ?_⟩
    walk_at "wp"
    refine ⟨shaped_int _, shaped_names (given.take i), ?_⟩
    rw [any_names]
    walk_at "wp"
    refine ⟨fun h3 => ⟨fun _ => ?_, fun z => (by cases z)⟩, fun h3 => ⟨_, at_names hi, y1, y2, given.take i, i, given.getD i 0, rfl, by omega, hb _ (getD_mem hi), h7, by omega, mem_take hb, ?_⟩⟩
    · have h3 : given.getD i 0 ∈ given.take i := by simpa using h3
      rw [if_neg (fun z => by
        have := goods_le (i := i + 1) hi z
        rw [goods_succ] at this
        unfold good at this
        simp only [Bool.and_eq_true, Bool.not_eq_true', decide_eq_false_iff_not] at this
        exact this.2.1 h3)] at hQ
      exact hQ
    · have h3 : given.getD i 0 ∉ given.take i := by simpa using h3
      walk_at "wp"
      rw [isN_why]
      walk_at "wp"
      refine ⟨fun h4 => ?_, fun h4 => ⟨_, at_names hi, sz_lt (by rw [ti]; omega), ⟨_, by rw [names_snoc, take_snoc hi]⟩, ?_⟩⟩
      · rw [if_neg (fun z => by
          have := goods_le (i := i + 1) hi z
          rw [goods_succ] at this
          unfold good at this
          rw [ti] at this
          simp only [Bool.and_eq_true, Bool.not_eq_true', decide_eq_false_iff_not] at this
          rw [this.2.2] at h4
          cases h4)] at hQ
        exact hQ
      · rw [goods_succ, hg]
        unfold good
        rw [ti]
        have h4 : (clashW y1 y2 (given.take i) i (given.getD i 0)).isNone = true := by simpa using h4
        rw [h4]
        simpa using h3
  · obtain ⟨⟨a, rfl⟩, hg⟩ := hI
    walk_at "wp"
    rw [List.take_length]
    rw [if_pos hg] at hQ
    refine ⟨y1, y2, given, rfl, h, h7, hl, by omega, fun x hx => by have := hb x hx; omega, ?_⟩
    walk_at "wp"
    exact hQ

/-! ### rows: sorted ties and the yard they tell -/
def ltT (t u : Tie) : Prop := t.1 < u.1 ∨ (t.1 = u.1 ∧ t.2.1 < u.2.1)
theorem sorted_ext {α : Type} {r : α → α → Prop} (irr : ∀ a, ¬ r a a) (asym : ∀ a b, r a b → ¬ r b a) : ∀ {l1 l2 : List α}, l1.Pairwise r → l2.Pairwise r → (∀ x, x ∈ l1 ↔ x ∈ l2) → l1 = l2
  | [], [], _, _, _ => rfl
  | [], b :: _, _, _, h => by have := (h b).mpr List.mem_cons_self; simp at this
  | a :: _, [], _, _, h => by have := (h a).mp List.mem_cons_self; simp at this
  | a :: l1, b :: l2, p1, p2, h => by
    rw [List.pairwise_cons] at p1 p2
    have e : a = b := by
      rcases List.mem_cons.mp ((h a).mp List.mem_cons_self) with z | z
      · exact z
      · rcases List.mem_cons.mp ((h b).mpr List.mem_cons_self) with y | y
        · exact y.symm
        · exact absurd (p2.1 a z) (asym a b (p1.1 b y))
    subst e
    rw [sorted_ext irr asym p1.2 p2.2 fun x => ⟨fun hx => ?_, fun hx => ?_⟩]
    · rcases List.mem_cons.mp ((h x).mp (List.mem_cons_of_mem _ hx)) with z | z
      · subst z; exact absurd (p1.1 x hx) (irr x)
      · exact z
    · rcases List.mem_cons.mp ((h x).mpr (List.mem_cons_of_mem _ hx)) with z | z
      · subst z; exact absurd (p2.1 x hx) (irr x)
      · exact z
theorem ltT_irr (t : Tie) : ¬ ltT t t := fun h => by
  rcases h with h | h
  · omega
  · have := h.2; omega
theorem ltT_asym (t u : Tie) (h : ltT t u) : ¬ ltT u t := fun k => by
  unfold ltT at h k
  omega
theorem rowT_pw (k : Nat → Nat → Int) (i t : Nat) : (rowT k i t).Pairwise ltT := by
  induction t with
  | zero => simp [rowT]
  | succ t ih =>
    rw [rowT_succ, List.pairwise_append]
    refine ⟨ih, ?_, fun a ha b hb => ?_⟩
    · split <;> simp
    · split at hb
      · have : b = (i, i + 1 + t, k i (i + 1 + t)) := by simpa using hb
        subst this
        obtain ⟨e1, e2, e3, _⟩ := mem_rowT.mp ha
        exact .inr ⟨e1, e3⟩
      · simp at hb
theorem tiesOf_pw (k : Nat → Nat → Int) (n i : Nat) : (tiesOf k n i).Pairwise ltT := by
  induction i with
  | zero => simp [tiesOf]
  | succ i ih =>
    rw [tiesOf_succ, List.pairwise_append]
    refine ⟨ih, rowT_pw _ _ _, fun a ha b hb => ?_⟩
    obtain ⟨h1, _⟩ := mem_tiesOf.mp ha
    obtain ⟨e1, _⟩ := mem_rowT.mp hb
    exact .inl (by omega)
structure STies (n : Nat) (ts : List Tie) : Prop where
  bd : ∀ t ∈ ts, t.1 < t.2.1 ∧ t.2.1 < n ∧ 1 ≤ t.2.2 ∧ t.2.2 ≤ 9
  so : ts.Pairwise ltT
theorem kmt_sorted {t : Tie} {a b : Nat} (h : t.1 < t.2.1) (ab : a < b) : kmt t a b = true ↔ t.1 = a ∧ t.2.1 = b := by
  rw [kmt_iff]
  constructor
  · rintro (z | z)
    · exact z
    · omega
  · exact .inl
theorem kOf_cons (t : Tie) (ts : List Tie) (a b : Nat) : kOf (t :: ts) a b = if kmt t a b = true then t.2.2 else kOf ts a b := by
  unfold kOf
  rw [List.find?_cons]
  cases kmt t a b <;> rfl
theorem kOf_mem : ∀ {ts : List Tie}, ts.Pairwise (fun t u => kmt t u.1 u.2.1 = false) → ∀ {x : Tie}, x ∈ ts → kOf ts x.1 x.2.1 = x.2.2
  | [], _, _, h => by simp at h
  | t :: r, p, x, h => by
    rw [List.pairwise_cons] at p
    rw [kOf_cons]
    rcases List.mem_cons.mp h with z | z
    · subst z
      rw [if_pos (kmt_iff.mpr (.inl ⟨rfl, rfl⟩))]
    · rw [if_neg (by rw [p.1 x z]; exact Bool.false_ne_true)]
      exact kOf_mem p.2 z
theorem kOf_some {ts : List Tie} {a b : Nat} (h : kOf ts a b ≠ 0) : ∃ t ∈ ts, kmt t a b = true ∧ t.2.2 = kOf ts a b := by
  induction ts with
  | nil => exact absurd rfl h
  | cons t r ih =>
    rw [kOf_cons] at h ⊢
    by_cases z : kmt t a b = true
    · rw [if_pos z]
      exact ⟨t, List.mem_cons_self, z, rfl⟩
    · rw [if_neg z] at h ⊢
      obtain ⟨u, h1, h2⟩ := ih h
      exact ⟨u, List.mem_cons_of_mem _ h1, h2⟩
theorem STies.pw {n : Nat} {ts : List Tie} (h : STies n ts) : ts.Pairwise (fun t u => kmt t u.1 u.2.1 = false) := by
  have : ts.Pairwise fun t u => ltT t u ∧ t ∈ ts ∧ u ∈ ts := List.Pairwise.imp_of_mem (fun {a b} ha hb r => ⟨r, ha, hb⟩) h.so
  refine this.imp fun {t u} ⟨r, ht, hu⟩ => ?_
  have b1 := h.bd t ht
  have b2 := h.bd u hu
  rw [← Bool.not_eq_true]
  intro z
  have e := (kmt_sorted b1.1 b2.1).mp z
  unfold ltT at r
  omega
/-- the yard that rows tell -/
def yOf (n : Nat) (m : Nat → Int) (ts : List Tie) : Y := ⟨n, m, kOf ts⟩
theorem STies.ties {n : Nat} {ts : List Tie} (h : STies n ts) (m : Nat → Int) : (yOf n m ts).ties = ts := by
  refine sorted_ext ltT_irr ltT_asym (tiesOf_pw _ _ _) h.so fun x => ?_
  show x ∈ tiesOf (kOf ts) n n ↔ _
  rw [mem_tiesOf]
  constructor
  · rintro ⟨h1, h2, h3, h4, h5⟩
    obtain ⟨t, ht, k1, k2⟩ := kOf_some (ts := ts) (a := x.1) (b := x.2.1) (by omega)
    obtain ⟨e1, e2⟩ := (kmt_sorted (h.bd t ht).1 h2).mp k1
    have : x = t := Prod.ext e1.symm (Prod.ext e2.symm (by omega))
    rw [this]; exact ht
  · intro hx
    have b := h.bd x hx
    exact ⟨by omega, b.1, b.2.1, (kOf_mem h.pw hx).symm, by omega⟩
theorem kOf_bd {n : Nat} {ts : List Tie} (h : STies n ts) (a b : Nat) : 0 ≤ kOf ts a b ∧ kOf ts a b ≤ 9 := by
  by_cases z : kOf ts a b = 0
  · rw [z]; decide
  · obtain ⟨t, ht, _, k2⟩ := kOf_some z
    have := h.bd t ht
    omega
theorem yOf_ok {n : Nat} {m : Nat → Int} {ts : List Tie} (h : STies n ts) (n1 : 1 ≤ n) (n7 : n ≤ 7) (hm : ∀ i, i < n → 0 ≤ m i ∧ m i ≤ 9) : (yOf n m ts).Ok where
  n1 := n1
  n7 := n7
  m0 := hm
  sy := kOf_comm ts
  dg := fun i => by
    by_cases z : kOf ts i i = 0
    · exact z
    · obtain ⟨t, ht, k1, _⟩ := kOf_some z
      have := (h.bd t ht).1
      rcases kmt_iff.mp k1 with q | q <;> omega
  k0 := kOf_bd h
theorem Y.Ok.sties {y : Y} (h : y.Ok) : STies y.n y.ties where
  bd := fun t ht => by
    obtain ⟨h1, h2, h3, h4, h5⟩ := mem_tiesOf.mp ht
    have := h.k0 t.1 t.2.1
    omega
  so := tiesOf_pw _ _ _
theorem kOf_ties {y : Y} (h : y.Ok) {a b : Nat} (ha : a < y.n) (hb : b < y.n) : kOf y.ties a b = y.k a b := by
  have key : ∀ a b, a < b → b < y.n → kOf y.ties a b = y.k a b := fun a b hab hb => by
    by_cases z : 0 < y.k a b
    · exact kOf_mem h.sties.pw (x := (a, b, y.k a b)) (mem_tiesOf.mpr ⟨by show a < y.n; omega, hab, hb, rfl, z⟩)
    · have e : y.k a b = 0 := by have := h.k0 a b; omega
      rw [e]
      by_cases w : kOf y.ties a b = 0
      · exact w
      · obtain ⟨t, ht, k1, k2⟩ := kOf_some w
        obtain ⟨h1, h2, h3, h4, h5⟩ := mem_tiesOf.mp ht
        obtain ⟨e1, e2⟩ := (kmt_sorted h2 hab).mp k1
        rw [e1, e2] at h4
        omega
  rcases Nat.lt_trichotomy a b with z | z | z
  · exact key a b z hb
  · subst z
    rw [h.dg]
    by_cases w : kOf y.ties a a = 0
    · exact w
    · obtain ⟨t, ht, k1, _⟩ := kOf_some w
      have := (h.sties.bd t ht).1
      rcases kmt_iff.mp k1 with q | q <;> omega
  · rw [kOf_comm, h.sy, key b a z ha]
theorem Y.Ok.tok {y : Y} (h : y.Ok) : TiesOk y.n y.ties where
  bd := fun t ht => by have := h.sties.bd t ht; omega
  pw := h.sties.pw
  sz := by
    have := tiesOf_length y.k y.n y.n
    have : y.n * y.n ≤ 7 * 7 := Nat.mul_le_mul h.n7 h.n7
    show (tiesOf y.k y.n y.n).length ≤ _
    omega
theorem Y.Ok.kl {y : Y} (h : y.Ok) : matL y.n (kOf y.ties) = y.kl := by
  unfold matL
  apply List.map_congr_left
  intro i hi
  apply List.map_congr_left
  intro j hj
  exact kOf_ties h (by simpa using hi) (by simpa using hj)
theorem kmt_symm {t u : Tie} (h : kmt t u.1 u.2.1 = false) : kmt u t.1 t.2.1 = false := by
  unfold kmt at h ⊢
  rw [Bool.or_eq_false_iff, Bool.and_eq_false_iff, Bool.and_eq_false_iff] at h ⊢
  simp only [beq_eq_false_iff_ne] at h ⊢
  omega
theorem kmt_two {t u : Tie} {a b : Nat} (h1 : kmt t a b = true) (h2 : kmt u a b = true) : kmt t u.1 u.2.1 = true := by
  unfold kmt at *
  simp only [Bool.or_eq_true, Bool.and_eq_true, beq_iff_eq] at *
  omega
theorem kOf_hit {ts : List Tie} (pw : ts.Pairwise fun t u => kmt t u.1 u.2.1 = false) {t : Tie} (ht : t ∈ ts) {a b : Nat} (h : kmt t a b = true) : kOf ts a b = t.2.2 := by
  unfold kOf
  induction ts with
  | nil => cases ht
  | cons u ts ih =>
    rw [List.pairwise_cons] at pw
    rw [List.find?_cons]
    cases e : kmt u a b with
    | true =>
      rcases List.mem_cons.mp ht with z | z
      · rw [z]
      · have := pw.1 t z
        rw [kmt_two e h] at this
        cases this
    | false =>
      rcases List.mem_cons.mp ht with z | z
      · rw [z, e] at h; cases h
      · exact ih pw.2 z
theorem pairwise_flatMap {α β : Type} {r : α → α → Prop} {s : β → β → Prop} {f : α → List β} : ∀ {l : List α}, l.Pairwise r → (∀ a ∈ l, (f a).Pairwise s) → (∀ a ∈ l, ∀ b ∈ l, r a b → ∀ x ∈ f a, ∀ y ∈ f b, s x y) → (l.flatMap f).Pairwise s
  | [], _, _, _ => by simp
  | a :: l, h, h1, h2 => by
    rw [List.pairwise_cons] at h
    rw [List.flatMap_cons, List.pairwise_append]
    refine ⟨h1 a List.mem_cons_self, pairwise_flatMap h.2 (fun b hb => h1 b (List.mem_cons_of_mem _ hb)) (fun b hb c hc => h2 b (List.mem_cons_of_mem _ hb) c (List.mem_cons_of_mem _ hc)), fun x hx y hy => ?_⟩
    obtain ⟨b, hb, hy⟩ := List.mem_flatMap.mp hy
    exact h2 a List.mem_cons_self b (List.mem_cons_of_mem _ hb) (h.1 b hb) x hx y hy

/-! ### rows that are drawn -/
structure SoFar (n : Nat) (ts : List Tie) (i j L : Nat) : Prop where
  bd : ∀ t ∈ ts, t.1 < t.2.1 ∧ t.2.1 < n ∧ 1 ≤ t.2.2 ∧ t.2.2 ≤ 9
  so : ts.Pairwise ltT
  lt : ∀ t ∈ ts, t.1 < i ∨ (t.1 = i ∧ t.2.1 < j)
  ln : ts.length ≤ L
theorem SoFar.nil (n : Nat) : SoFar n [] 0 0 0 := ⟨by simp, .nil, by simp, Nat.le_refl _⟩
theorem SoFar.begin {n i L : Nat} {ts : List Tie} (h : SoFar n ts i 0 L) : SoFar n ts i (i + 1 + 0) (L + 0) := ⟨h.bd, h.so, fun t ht => by have := h.lt t ht; omega, h.ln⟩
theorem SoFar.skip {n i j L : Nat} {ts : List Tie} (h : SoFar n ts i j L) : SoFar n ts i (j + 1) (L + 1) := ⟨h.bd, h.so, fun t ht => by have := h.lt t ht; omega, by have := h.ln; omega⟩
theorem SoFar.row {n i j L : Nat} {ts : List Tie} (h : SoFar n ts i j L) : SoFar n ts (i + 1) 0 L := ⟨h.bd, h.so, fun t ht => by have := h.lt t ht; omega, h.ln⟩
theorem SoFar.up {n i j L L' : Nat} {ts : List Tie} (h : SoFar n ts i j L) (e : L ≤ L') : SoFar n ts i j L' := ⟨h.bd, h.so, h.lt, by have := h.ln; omega⟩
theorem SoFar.snoc {n i j L : Nat} {ts : List Tie} (h : SoFar n ts i j L) (ij : i < j) (jn : j < n) {c : Int} (c1 : 1 ≤ c) (c9 : c ≤ 9) : SoFar n (ts ++ [(i, j, c)]) i (j + 1) (L + 1) := by
  refine ⟨fun t ht => ?_, ?_, fun t ht => ?_, by have := h.ln; simp; omega⟩
  · rcases List.mem_append.mp ht with z | z
    · exact h.bd t z
    · have : t = (i, j, c) := by simpa using z
      subst this
      exact ⟨ij, jn, c1, c9⟩
  · rw [List.pairwise_append]
    refine ⟨h.so, by simp, fun a ha b hb => ?_⟩
    have : b = (i, j, c) := by simpa using hb
    subst this
    exact h.lt a ha
  · rcases List.mem_append.mp ht with z | z
    · have := h.lt t z; omega
    · have : t = (i, j, c) := by simpa using z
      subst this
      exact .inr ⟨rfl, Nat.lt_succ_self _⟩
theorem SoFar.sties {n i j L : Nat} {ts : List Tie} (h : SoFar n ts i j L) : STies n ts := ⟨h.bd, h.so⟩
def msF (ms : List Int) : Nat → Int := fun i => ms.getD i 0
theorem msF_map {n : Nat} {ms : List Int} (h : ms.length = n) : (List.range n).map (msF ms) = ms := by
  subst h
  apply List.ext_getElem
  · simp
  · intro i h1 h2
    simp [msF, List.getD, h2]
theorem msF_bd {n : Nat} {ms : List Int} (h : ms.length = n) (b : ∀ x ∈ ms, 0 ≤ x ∧ x ≤ 9) : ∀ i, i < n → 0 ≤ msF ms i ∧ msF ms i ≤ 9 := fun i hi => by
  have h2 : i < ms.length := by omega
  have e : msF ms i = ms[i] := by simp [msF, List.getD, h2]
  rw [e]
  exact b _ (List.getElem_mem h2)
theorem rows_of {n : Nat} {ms : List Int} {ts : List Tie} (h : ms.length = n) (st : STies n ts) : rowsD (yOf n (msF ms) ts) = .tuple [.list (ms.map PyData.int), .list (ts.map tieD)] := by
  show PyData.tuple [.list (((List.range n).map (msF ms)).map PyData.int), .list ((yOf n (msF ms) ts).ties.map tieD)] = _
  rw [msF_map h, st.ties]
def MsOk (n : Nat) (ms : List Int) : Prop := ms.length = n ∧ ∀ x ∈ ms, 0 ≤ x ∧ x ≤ 9
theorem MsOk.snoc {n : Nat} {ms : List Int} (h : MsOk n ms) {x : Int} (h0 : 0 ≤ x) (h9 : x ≤ 9) : MsOk (n + 1) (ms ++ [x]) := ⟨by simp [h.1], fun y hy => by
  rcases List.mem_append.mp hy with z | z
  · exact h.2 y z
  · have : y = x := by simpa using z
    subst this; exact ⟨h0, h9⟩⟩
theorem ints_snoc (ms : List Int) (x : Int) : ms.map PyData.int ++ [.int x] = (ms ++ [x]).map PyData.int := by simp
theorem ties_snoc (ts : List Tie) (a b : Nat) (c : Int) : ts.map tieD ++ [.tuple [nI a, nI b, .int c]] = (ts ++ [(a, b, c)]).map tieD := by simp
theorem ks_at {ks : List Int} {j : Nat} (h : j < ks.length) : atI (ks.map PyData.int) (j : Int) = some (.int ks[j]) := by
  rw [atI_map, atI_some h]; rfl
theorem drawn_kinds {j : Nat} (h : j < 4) : ∃ ks : List Int, atI [PyData.list [.int 0, .int 1], .list [.int 0, .int 0, .int 0, .int 1], .list [.int 0, .int 1, .int 2], .list [.int 0, .int 1, .int 2, .int 3, .int 4, .int 5, .int 6, .int 7, .int 8, .int 9]] (j : Int) = some (.list (ks.map PyData.int)) ∧ 1 ≤ ks.length ∧ ks.length ≤ 10 ∧ ∀ x ∈ ks, 0 ≤ x ∧ x ≤ 9 := by
  obtain rfl | rfl | rfl | rfl : j = 0 ∨ j = 1 ∨ j = 2 ∨ j = 3 := by omega
  · exact ⟨[0, 1], rfl, by decide, by decide, by decide⟩
  · exact ⟨[0, 0, 0, 1], rfl, by decide, by decide, by decide⟩
  · exact ⟨[0, 1, 2], rfl, by decide, by decide, by decide⟩
  · exact ⟨[0, 1, 2, 3, 4, 5, 6, 7, 8, 9], rfl, by decide, by decide, by decide⟩
def spRows : Spc := fun as Q => ∃ most : Nat, as = [.box, .d (nI most)] ∧ 1 ≤ most ∧ most ≤ 7 ∧ ∀ y : Y, y.Ok → y.n ≤ most → Q (.d (rowsD y))
theorem c_law_yard (T : Txt K mg C) : Cal P w K mg base C "_law_yard" 2 spRows := by
  have c_law_take := c_law_take (P := P) (w := w) (base := base) T
  refine cal_of T.d_law_yard sc_law_yard (fun as Q h => by obtain ⟨_, rfl, _⟩ := h; rfl) fun f cdv A0 outer s H E hr G F as Q hs => ?_
  obtain ⟨most, rfl, h1, h7, hQ⟩ := hs
  refine ⟨_, _, (pss_consA (ps_setA (i := 2) sc_law_yard.nd (pd_add (K := K) pd_int (pd_call c_law_take hr (by omega) (pda_cons (pd_var 0) (pda_cons (pd_var 1) pda_nil)))))
  (pss_consA (ps_setA (i := 3) sc_law_yard.nd (pd_lc [("_law_place", 9)] sc_law_yard.nd (pi_range1A T.range (pda_cons (pd_var 2) pda_nil)) (blkOk_by (N := n_law_yard) (sc := defScope s_law_yard) (by decide +kernel)) (fun _ _ _ _ _ => (pg_nameA 9 sc_law_yard.nd)) (fun _ _ _ _ _ => pts_nilA) (fun _ _ _ _ _ => (pd_ix (K := K) (pd_lst (pda_cons pd_int (pda_cons (pd_call c_law_take hr (by omega) (pda_cons (pd_var 0) (pda_cons pd_int pda_nil))) (pda_cons (pd_call c_law_take hr (by omega) (pda_cons (pd_var 0) (pda_cons pd_int pda_nil))) pda_nil)))) (pd_call c_law_take hr (by omega) (pda_cons (pd_var 0) (pda_cons pd_int pda_nil))))) (gw_name (by decide))))
  (pss_consA (ps_setA (i := 4) sc_law_yard.nd (pd_ix (K := K) (pd_lst (pda_cons (pd_lst (pda_cons pd_int (pda_cons pd_int pda_nil))) (pda_cons (pd_lst (pda_cons pd_int (pda_cons pd_int (pda_cons pd_int (pda_cons pd_int pda_nil))))) (pda_cons (pd_lst (pda_cons pd_int (pda_cons pd_int (pda_cons pd_int pda_nil)))) (pda_cons (pd_lst (pda_cons pd_int (pda_cons pd_int (pda_cons pd_int (pda_cons pd_int (pda_cons pd_int (pda_cons pd_int (pda_cons pd_int (pda_cons pd_int (pda_cons pd_int (pda_cons pd_int pda_nil))))))))))) pda_nil))))) (pd_call c_law_take hr (by omega) (pda_cons (pd_var 0) (pda_cons pd_int pda_nil)))))
  (pss_consA (ps_ifA (pt_eq (K := K) hr (pd_call c_law_take hr (by omega) (pda_cons (pd_var 0) (pda_cons pd_int pda_nil))) pd_int) (pss_oneA (ps_setA (i := 3) sc_law_yard.nd (pd_lc [("_law_place", 9)] sc_law_yard.nd (pi_range1A T.range (pda_cons (pd_var 2) pda_nil)) (blkOk_by (N := n_law_yard) (sc := defScope s_law_yard) (by decide +kernel)) (fun _ _ _ _ _ => (pg_nameA 9 sc_law_yard.nd)) (fun _ _ _ _ _ => pts_nilA) (fun _ _ _ _ _ => (pd_ix (K := K) (pd_var 3) pd_int)) (gw_name (by decide))))) pss_nilA)
  (pss_consA (ps_setA (i := 5) sc_law_yard.nd (pd_lst pda_nil))
  (pss_consA (ps_forA (pi_range1A T.range (pda_cons (pd_var 2) pda_nil)) (pg_nameA 6 sc_law_yard.nd) (pss_oneA (ps_forA (pi_range2A T.range (pda_cons (pd_add (K := K) (pd_var 6) pd_int) (pda_cons (pd_var 2) pda_nil))) (pg_nameA 7 sc_law_yard.nd) (pss_consA (ps_setA (i := 8) sc_law_yard.nd (pd_ix (K := K) (pd_var 4) (pd_call c_law_take hr (by omega) (pda_cons (pd_var 0) (pda_cons (pd_len (K := K) T.len (pda_cons (pd_var 4) pda_nil)) pda_nil)))))
  (pss_oneA (ps_ifA (pt_gt (pd_var 8) pd_int) (pss_oneA (ps_appA (pd_var 5) (pd_tup (pda_cons (pd_var 6) (pda_cons (pd_var 7) (pda_cons (pd_var 8) pda_nil)))))) pss_nilA))) PassesOwn.never)) PassesOwn.never)
  (pss_oneA (ps_fz 5 (ps_fz 3 (ps_retA (pd_tup (pda_cons (pd_var 3) (pda_cons (pd_var 5) pda_nil))))))))))))), ?_⟩
  walk_at "wp"
  refine ⟨most, rfl, h1, by omega, fun many0 hm0 => ?_⟩
  walk_at "wp"
  obtain ⟨n, en, n1, nm⟩ : ∃ n : Nat, (1 : Int) + (many0 : Int) = (n : Int) ∧ 1 ≤ n ∧ n ≤ most := ⟨1 + many0, by omega, by omega, by omega⟩
  rw [en]
  walk_at "wp"
  refine ⟨by omega, by omega, fun i acc => ∃ ms, acc = ms.map PyData.int ∧ MsOk i ms, ⟨[], rfl, rfl, by simp⟩, fun i d acc hd hI => ⟨fun _ => ?_, fun z => (by cases z)⟩, ?_⟩
  · obtain ⟨ms, rfl, ok⟩ := hI
    obtain ⟨hi, _⟩ := rgD0_get hd
    refine ⟨2, rfl, by decide, by decide, fun a ha => ⟨10, rfl, by decide, by decide, fun b hb => ?_⟩⟩
    walk_at "wp"
    refine ⟨by decide, 3, rfl, by decide, by decide, fun j hj => ?_⟩
    have sz : ms.length < sizeLine := sz_lt (by rw [ok.1]; omega)
    have fin : ∀ x : Int, 0 ≤ x → x ≤ 9 → ms.length < sizeLine ∧ ∃ ms', ms.map PyData.int ++ [.int x] = ms'.map PyData.int ∧ MsOk (i + 1) ms' := fun x h0 h9 => ⟨sz, _, ints_snoc ms x, ok.snoc h0 h9⟩
    obtain rfl | rfl | rfl : j = 0 ∨ j = 1 ∨ j = 2 := by omega
    all_goals
      refine ⟨_, rfl, ?_⟩
      walk_at "wp"
    · exact fin 0 (by decide) (by decide)
    · exact fin a (by omega) (by omega)
    · exact fin b (by omega) (by omega)
  rintro acc ⟨ms, rfl, ok⟩
  refine ⟨by decide, by decide, by decide, by decide, by decide, 4, rfl, by decide, by decide, fun j hj => ?_⟩
  obtain ⟨ks, ek, k1, k2, k3⟩ := drawn_kinds hj
  walk_at "wp"
  refine ⟨_, ek, ?_⟩
  walk_at "wp"
  refine ⟨2, rfl, by decide, by decide, fun w0 hw0 => ?_⟩
  walk_at "wp"
  refine ⟨fun hw => ⟨by omega, by omega, fun i acc => ∃ ms, acc = ms.map PyData.int ∧ MsOk i ms, ⟨[], rfl, rfl, by simp⟩, fun i d acc hd hI => ⟨fun _ => ?_, fun z => (by cases z)⟩, ?_⟩, fun hw => ?_⟩
  · obtain ⟨ms2, rfl, ok2⟩ := hI
    obtain ⟨hi, _⟩ := rgD0_get hd
    refine ⟨_, ks_at (j := 0) (by rw [ok.1]; omega), sz_lt (by rw [List.length_map, ok2.1]; omega), _, ints_snoc ms2 _, ok2.snoc (ok.2 _ (List.getElem_mem _)).1 (ok.2 _ (List.getElem_mem _)).2⟩
  any_goals first
    | (clear ok ms; rintro acc ⟨ms, rfl, ok⟩)
    | skip
  all_goals
    refine ⟨by decide, by omega, by omega, fun i ρ => ∃ ts a b c d, ρ = [.box, .d (nI most), .d (.int n), .own (ms.map PyData.int), .d (.list (ks.map PyData.int)), .own (ts.map tieD), a, b, c, d] ∧ SoFar n ts i 0 (i * n), ⟨[], _, _, _, _, rfl, by rw [Nat.zero_mul]; exact SoFar.nil n⟩, fun i d ρ hd hI => ?_, fun ρ hI => ?_⟩
    · obtain ⟨hi, rfl⟩ := rgD0_get hd
      obtain ⟨ts, a, b, c, d, rfl, sf⟩ := hI
      walk_at "wp"
      refine ⟨by omega, fun t ρ => ∃ ts b c, ρ = [.box, .d (nI most), .d (.int n), .own (ms.map PyData.int), .d (.list (ks.map PyData.int)), .own (ts.map tieD), .d (nI i), b, c, d] ∧ SoFar n ts i (i + 1 + t) (i * n + t), ⟨ts, _, _, rfl, sf.begin⟩, fun t d2 ρ hd hI => ?_, fun ρ hI => ?_⟩
      · have e1 : ((i : Int) + 1) = ((i + 1 : Nat) : Int) := by omega
        rw [e1, show ((n : Int) - ((i + 1 : Nat) : Int)).toNat = n - (i + 1) by omega] at hd
        obtain ⟨ht, rfl⟩ := rgD1_get hd
        clear sf
        obtain ⟨ts, b, c, rfl, sf⟩ := hI
        walk_at "wp"
        refine ⟨ks.length, rfl, by omega, by omega, fun j2 hj2 => ?_⟩
        walk_at "wp"
        refine ⟨_, ks_at hj2, ?_⟩
        walk_at "wp"
        have b9 := k3 _ (List.getElem_mem hj2)
        have hin : i * n ≤ 7 * 7 := Nat.mul_le_mul (by omega) (by omega)
        refine ⟨fun h3 => ⟨by decide, sz_lt (by have := sf.ln; omega), ?_⟩, fun h3 => ⟨_, _, _, rfl, sf.skip⟩⟩
        have h3 := of_decide_eq_true h3
        exact ⟨_, _, _, by rw [ties_snoc], sf.snoc (by omega) (by omega) (by omega) b9.2⟩
      · obtain ⟨ts, b, c, rfl, sf⟩ := hI
        exact ⟨_, _, _, _, _, rfl, sf.row.up (by
          rw [Nat.succ_mul]
          have : ((n : Int) - ((i : Int) + 1)).toNat ≤ n := by omega
          omega)⟩
    · obtain ⟨ts, a, b, c, d, rfl, sf⟩ := hI
      walk_at "wp"
      refine ⟨by decide, ?_⟩
      rw [← rows_of ok.1 sf.sties]
      exact hQ _ (yOf_ok sf.sties n1 (by omega) (msF_bd ok.1 ok.2)) nm

theorem even_n {j : Nat} (h : j < 6) : ∃ n : Nat, atI [PyData.int 3, .int 4, .int 5, .int 6, .int 6, .int 7] (j : Int) = some (nI n) ∧ 3 ≤ n ∧ n ≤ 7 := by
  obtain rfl | rfl | rfl | rfl | rfl | rfl : j = 0 ∨ j = 1 ∨ j = 2 ∨ j = 3 ∨ j = 4 ∨ j = 5 := by omega
  · exact ⟨3, rfl, by decide, by decide⟩
  · exact ⟨4, rfl, by decide, by decide⟩
  · exact ⟨5, rfl, by decide, by decide⟩
  · exact ⟨6, rfl, by decide, by decide⟩
  · exact ⟨6, rfl, by decide, by decide⟩
  · exact ⟨7, rfl, by decide, by decide⟩
theorem zeros_flat (n : Nat) : (List.replicate n [PyData.int 0]).flatten = (List.replicate n (0 : Int)).map PyData.int := by
  induction n with
  | zero => rfl
  | succ n ih => rw [List.replicate_succ, List.flatten_cons, ih]; rfl
def spEven : Spc := fun as Q => as = [.box] ∧ ∀ y : Y, y.Ok → Q (.d (rowsD y))
theorem c_law_even (T : Txt K mg C) : Cal P w K mg base C "_law_even" 2 spEven := by
  have c_law_take := c_law_take (P := P) (w := w) (base := base) T
  refine cal_of T.d_law_even sc_law_even (fun as Q h => by obtain ⟨rfl, _⟩ := h; rfl) fun f cdv A0 outer s H E hr G F as Q hs => ?_
  obtain ⟨rfl, hQ⟩ := hs
  refine ⟨_, _, (pss_consA (ps_setA (i := 1) sc_law_even.nd (pd_ix (K := K) (pd_lst (pda_cons pd_int (pda_cons pd_int (pda_cons pd_int (pda_cons pd_int (pda_cons pd_int (pda_cons pd_int pda_nil))))))) (pd_call c_law_take hr (by omega) (pda_cons (pd_var 0) (pda_cons pd_int pda_nil)))))
  (pss_consA (ps_setLcA (i := 2) [("_law_k", 6)] sc_law_even.nd (pi_range1A T.range (pda_cons (pd_add (K := K) pd_int (pd_call c_law_take hr (by omega) (pda_cons (pd_var 0) (pda_cons pd_int pda_nil)))) pda_nil)) (blkOk_by (N := n_law_even) (sc := defScope s_law_even) (by decide +kernel)) (fun _ _ _ _ _ => (pg_nameA 6 sc_law_even.nd)) (fun _ _ _ _ _ => pts_nilA) (fun _ _ _ _ _ => (pd_add (K := K) pd_int (pd_call c_law_take hr (by omega) (pda_cons (pd_var 0) (pda_cons (pd_sub (pd_var 1) pd_int) pda_nil))))) (gw_name (by decide)) (sw_true rfl rfl rfl (by decide +kernel)))
  (pss_consA (ps_ifA (PDW.t (pw_andA (pt_eq (K := K) hr (pd_var 1) pd_int) (pw_and1A (pt_eq (K := K) hr (pd_call c_law_take hr (by omega) (pda_cons (pd_var 0) (pda_cons pd_int pda_nil))) pd_int)))) (pss_oneA (ps_setA (i := 2) sc_law_even.nd (pd_lst (pda_cons pd_int pda_nil)))) pss_nilA)
  (pss_consA (ps_setA (i := 3) sc_law_even.nd (pd_lst pda_nil))
  (pss_consA (ps_forA (pi_range1A T.range (pda_cons (pd_var 1) pda_nil)) (pg_nameA 4 sc_law_even.nd) (pss_oneA (ps_forA (pi_range2A T.range (pda_cons (pd_add (K := K) (pd_var 4) pd_int) (pda_cons (pd_var 1) pda_nil))) (pg_nameA 5 sc_law_even.nd) (pss_oneA (ps_ifA (PDW.t (pw_orA (pt_in (K := K) hr (pd_sub (pd_var 5) (pd_var 4)) (pd_var 2)) (pw_or1A (pt_in (K := K) hr (pd_add (K := K) (pd_sub (pd_var 1) (pd_var 5)) (pd_var 4)) (pd_var 2))))) (pss_oneA (ps_appA (pd_var 3) (pd_tup (pda_cons (pd_var 4) (pda_cons (pd_var 5) (pda_cons pd_int pda_nil)))))) pss_nilA)) PassesOwn.never)) PassesOwn.never)
  (pss_oneA (ps_fz 3 (ps_retA (pd_tup (pda_cons (pd_mul (pd_lst (pda_cons pd_int pda_nil)) (pd_var 1)) (pda_cons (pd_var 3) pda_nil))))))))))), ?_⟩
  walk_at "wp"
  refine ⟨by decide, 6, rfl, by decide, by decide, fun j hj => ?_⟩
  obtain ⟨n, en, n3, n7⟩ := even_n hj
  refine ⟨_, en, ?_⟩
  walk_at "wp"
  refine ⟨2, rfl, by decide, by decide, fun g hg => ?_⟩
  walk_at "wp"
  refine ⟨by omega, by omega, fun i acc => ∃ gs : List Int, acc = gs.map PyData.int ∧ gs.length = i, ⟨[], rfl, rfl⟩, fun i d acc hd hI => ⟨fun _ => ?_, fun z => (by cases z)⟩, ?_⟩
  · obtain ⟨gs, rfl, gl⟩ := hI
    obtain ⟨hi, _⟩ := rgD_get hd
    refine ⟨n - 1, by rw [show ((n : Int) - 1) = ((n - 1 : Nat) : Int) by omega], by omega, by omega, fun a ha => ?_⟩
    walk_at "wp"
    exact ⟨sz_lt (by omega), _, ints_snoc gs _, by simp [gl]⟩
  rintro acc ⟨gs, rfl, gl⟩
  refine ⟨fun h6 => ⟨2, rfl, by decide, by decide, fun a ha => ?_⟩, fun h6 => ⟨fun z => (by cases z), fun _ => ?_⟩⟩
  any_goals first
    | (walk_at "wp"; refine ⟨fun _ => ⟨by decide, ?_⟩, fun _ => ?_⟩)
    | skip
  any_goals first
    | (clear gl gs; rw [show [PyData.int 2] = ([2] : List Int).map PyData.int from rfl]; generalize ([2] : List Int) = gs)
    | skip
  all_goals
    refine ⟨by decide, by omega, by omega, fun i ρ => ∃ ts a b c, ρ = [.box, .d (nI n), .own (gs.map PyData.int), .own (ts.map tieD), a, b, c] ∧ SoFar n ts i 0 (i * n), ⟨[], _, _, _, rfl, by rw [Nat.zero_mul]; exact SoFar.nil n⟩, fun i d ρ hd hI => ?_, fun ρ hI => ?_⟩
    · obtain ⟨hi, rfl⟩ := rgD0_get hd
      obtain ⟨ts, a, b, c, rfl, sf⟩ := hI
      walk_at "wp"
      refine ⟨by omega, fun t ρ => ∃ ts b c, ρ = [.box, .d (nI n), .own (gs.map PyData.int), .own (ts.map tieD), .d (nI i), b, c] ∧ SoFar n ts i (i + 1 + t) (i * n + t), ⟨ts, _, _, rfl, sf.begin⟩, fun t d2 ρ hd hI => ?_, fun ρ hI => ?_⟩
      · have e1 : ((i : Int) + 1) = ((i + 1 : Nat) : Int) := by omega
        rw [e1, show ((n : Int) - ((i + 1 : Nat) : Int)).toNat = n - (i + 1) by omega] at hd
        obtain ⟨ht, rfl⟩ := rgD1_get hd
        clear sf
        obtain ⟨ts, b, c, rfl, sf⟩ := hI
        walk_at "wp"
        have hin : i * n ≤ 7 * 7 := Nat.mul_le_mul (by omega) (by omega)
        have app : 3 ≤ sizeLine ∧ ts.length < sizeLine ∧ ∃ ts' b' c', [A.box, .d (nI n), .own (gs.map PyData.int), .own (ts.map tieD ++ [.tuple [nI i, nI (i + 1 + t), .int 1]]), .d (nI i), .d (nI (i + 1 + t)), c] = [A.box, .d (nI n), .own (gs.map PyData.int), .own (ts'.map tieD), .d (nI i), b', c'] ∧ SoFar n ts' i (i + 1 + (t + 1)) (i * n + (t + 1)) :=
          ⟨by decide, sz_lt (by have := sf.ln; omega), _, _, _, by rw [ties_snoc], sf.snoc (by omega) (by omega) (by decide) (by decide)⟩
        refine ⟨shaped_int _, shaped_ints' gs, fun _ => ⟨fun _ => app, fun z => (by cases z)⟩, fun _ => ⟨shaped_int _, shaped_ints' gs, fun _ => app, fun _ => ⟨_, _, _, rfl, sf.skip⟩⟩⟩
      · obtain ⟨ts, b, c, rfl, sf⟩ := hI
        exact ⟨_, _, _, _, rfl, sf.row.up (by
          rw [Nat.succ_mul]
          have : ((n : Int) - ((i : Int) + 1)).toNat ≤ n := by omega
          omega)⟩
    · obtain ⟨ts, a, b, c, rfl, sf⟩ := hI
      walk_at "wp"
      refine ⟨by decide, by omega, by omega, sz_of (by omega), by decide, ?_⟩
      have hz : (List.replicate n (0 : Int)).length = n := by simp
      rw [zeros_flat, ← rows_of hz sf.sties]
      exact hQ _ (yOf_ok sf.sties (by omega) n7 (msF_bd hz fun x hx => by rw [List.eq_of_mem_replicate hx]; decide))
theorem c_law_drawn (T : Txt K mg C) : Cal P w K mg base C "_law_drawn" 3 spRows := by
  have c_law_take := c_law_take (P := P) (w := w) (base := base) T
  have c_law_even := c_law_even (P := P) (w := w) (base := base) T
  have c_law_yard := c_law_yard (P := P) (w := w) (base := base) T
  refine cal_of T.d_law_drawn sc_law_drawn (fun as Q h => by obtain ⟨_, rfl, _⟩ := h; rfl) fun f cdv A0 outer s H E hr G F as Q hs => ?_
  obtain ⟨most, rfl, h1, h7, hQ⟩ := hs
  refine ⟨_, _, (pss_consA (ps_ifA (pt_eq (K := K) hr (pd_call c_law_take hr (by omega) (pda_cons (pd_var 0) (pda_cons pd_int pda_nil))) pd_int) (pss_consA (ps_setA (i := 2) sc_law_drawn.nd (pd_call c_law_even hr (by omega) (pda_cons (pd_var 0) pda_nil)))
  (pss_oneA (ps_ifA (pt_le (pd_len (K := K) T.len (pda_cons (pd_ix (K := K) (pd_var 2) pd_int) pda_nil)) (pd_var 1)) (pss_oneA (ps_retA (pd_var 2))) pss_nilA))) pss_nilA)
  (pss_oneA (ps_retA (pd_call c_law_yard hr (by omega) (pda_cons (pd_var 0) (pda_cons (pd_var 1) pda_nil)))))), ?_⟩
  walk_at "wp"
  refine ⟨4, rfl, by decide, by decide, fun a ha => ?_⟩
  walk_at "wp"
  refine ⟨fun _ => ⟨rfl, fun y ok => ?_⟩, fun _ => ⟨most, rfl, h1, h7, fun y ok hy => ?_⟩⟩
  · walk_at "wp"
    refine ⟨_, rfl, ?_⟩
    walk_at "wp"
    refine ⟨fun h => hQ y ok (by simpa using h), fun _ => ⟨most, rfl, h1, h7, fun y ok hy => ?_⟩⟩
    walk_at "wp"
    exact hQ y ok hy
  · walk_at "wp"
    exact hQ y ok hy
/-! ### names that are drawn -/
theorem erase_map {α β : Type} (f : α → β) : ∀ (l : List α) (k : Nat), (l.map f).eraseIdx k = (l.eraseIdx k).map f
  | [], _ => rfl
  | _ :: _, 0 => rfl
  | a :: l, k + 1 => by rw [List.map_cons, List.eraseIdx_cons_succ, List.eraseIdx_cons_succ, List.map_cons, erase_map f l k]
theorem erase_cons_perm : ∀ {l : List Nat} {i : Nat} (h : i < l.length), (l[i] :: l.eraseIdx i).Perm l
  | [], _, h => by simp at h
  | a :: l, 0, _ => .refl _
  | a :: l, i + 1, h => by
    have h' : i < l.length := by simpa using h
    have ih := erase_cons_perm h'
    simp only [List.getElem_cons_succ, List.eraseIdx_cons_succ]
    exact (List.Perm.swap a l[i] _).trans (ih.cons a)
theorem erase_perm {l : List Nat} {i : Nat} (h : i < l.length) (g : List Nat) : (l.eraseIdx i ++ (g ++ [l[i]])).Perm (l ++ g) := by
  have p1 : (l[i] :: l.eraseIdx i).Perm l := erase_cons_perm h
  have p2 : (l.eraseIdx i ++ (g ++ [l[i]])).Perm (l[i] :: (l.eraseIdx i ++ g)) := by
    rw [← List.append_assoc]
    exact List.perm_append_singleton _ _
  exact p2.trans (p1.append_right g)
def spNames : Spc := fun as Q => ∃ n : Nat, as = [.box, .d (nI n)] ∧ n ≤ 7 ∧ ∀ l : List Nat, l.length = n → l.Nodup → (∀ x ∈ l, x < n) → Q (.d (NL l))
/-! ### renaming -/
structure Nm (n : Nat) (ns : List Nat) : Prop where
  len : ns.length = n
  nd : ns.Nodup
  lt : ∀ x ∈ ns, x < n
theorem nodup_le : ∀ (n : Nat) (l : List Nat), l.Nodup → (∀ x ∈ l, x < n) → l.length ≤ n
  | 0, l, _, h => by
    cases l with
    | nil => exact Nat.le_refl _
    | cons a l => have := h a List.mem_cons_self; omega
  | n + 1, l, nd, h => by
    have e1 := nodup_le n (l.erase n) (nd.erase n) fun x hx => by
      have hx' := List.mem_of_mem_erase hx
      have h1 := h x hx'
      have h2 : x ≠ n := ((nd.mem_erase_iff).mp hx).1
      omega
    have e2 : l.length ≤ (l.erase n).length + 1 := by
      rw [List.length_erase]
      split <;> omega
    omega
theorem Nm.mem {n : Nat} {ns : List Nat} (h : Nm n ns) {a : Nat} (ha : a < n) : a ∈ ns := by
  by_cases z : a ∈ ns
  · exact z
  · have := nodup_le n (a :: ns) (List.nodup_cons.mpr ⟨z, h.nd⟩) fun x hx => by
      rcases List.mem_cons.mp hx with y | y
      · rw [y]; exact ha
      · exact h.lt x y
    rw [List.length_cons, h.len] at this
    omega
def ren (y : Y) (ns : List Nat) : Y := ⟨y.n, fun a => y.m (ns.idxOf a), fun a b => y.k (ns.idxOf a) (ns.idxOf b)⟩
theorem Nm.idx_lt {n : Nat} {ns : List Nat} (h : Nm n ns) {a : Nat} (ha : a < n) : ns.idxOf a < n := by
  have := List.idxOf_lt_length_of_mem (h.mem ha)
  rw [h.len] at this
  exact this
theorem Nm.get_idx {n : Nat} {ns : List Nat} (h : Nm n ns) {a : Nat} (ha : a < n) : ns.getD (ns.idxOf a) 0 = a := by
  have h1 := List.idxOf_lt_length_of_mem (h.mem ha)
  rw [getD_get h1]
  exact List.getElem_idxOf h1
theorem nd_idx {ns : List Nat} (nd : ns.Nodup) {i : Nat} (hi : i < ns.length) : ns.idxOf (ns.getD i 0) = i := by
  rw [getD_get hi]
  exact nd.idxOf_getElem i hi
theorem Nm.idx_get {n : Nat} {ns : List Nat} (h : Nm n ns) {i : Nat} (hi : i < n) : ns.idxOf (ns.getD i 0) = i := nd_idx h.nd (by rw [h.len]; exact hi)
theorem Nm.get_lt {n : Nat} {ns : List Nat} (h : Nm n ns) {i : Nat} (hi : i < n) : ns.getD i 0 < n := h.lt _ (getD_mem (by rw [h.len]; exact hi))
theorem ren_ok {y : Y} (h : y.Ok) {ns : List Nat} (hn : Nm y.n ns) : (ren y ns).Ok where
  n1 := h.n1
  n7 := h.n7
  m0 := fun i hi => h.m0 _ (hn.idx_lt hi)
  sy := fun i j => h.sy _ _
  dg := fun i => h.dg _
  k0 := fun i j => h.k0 _ _
def renT (ns : List Nat) (t : Tie) : Tie := (min (ns.getD t.1 0) (ns.getD t.2.1 0), max (ns.getD t.1 0) (ns.getD t.2.1 0), t.2.2)
theorem ren_mem {y : Y} (h : y.Ok) {ns : List Nat} (hn : Nm y.n ns) (x : Tie) : x ∈ (ren y ns).ties ↔ x ∈ y.ties.map (renT ns) := by
  show x ∈ tiesOf (ren y ns).k y.n y.n ↔ _
  rw [mem_tiesOf, List.mem_map]
  constructor
  · rintro ⟨h1, h2, h3, h4, h5⟩
    have i1 := hn.idx_lt h1
    have i2 := hn.idx_lt h3
    have g1 := hn.get_idx h1
    have g2 := hn.get_idx h3
    have e4 : x.2.2 = y.k (ns.idxOf x.1) (ns.idxOf x.2.1) := h4
    rcases Nat.lt_trichotomy (ns.idxOf x.1) (ns.idxOf x.2.1) with z | z | z
    · refine ⟨(ns.idxOf x.1, ns.idxOf x.2.1, x.2.2), mem_tiesOf.mpr ⟨i1, z, i2, e4, h5⟩, ?_⟩
      unfold renT
      rw [g1, g2]
      exact Prod.ext (by show min _ _ = _; omega) (Prod.ext (by show max _ _ = _; omega) rfl)
    · rw [z] at g1; rw [g1] at g2; omega
    · refine ⟨(ns.idxOf x.2.1, ns.idxOf x.1, x.2.2), mem_tiesOf.mpr ⟨i2, z, i1, by rw [e4]; exact h.sy _ _, h5⟩, ?_⟩
      unfold renT
      rw [g1, g2]
      exact Prod.ext (by show min _ _ = _; omega) (Prod.ext (by show max _ _ = _; omega) rfl)
  · rintro ⟨⟨a, b, c⟩, ht, rfl⟩
    obtain ⟨h1, h2, h3, h4, h5⟩ := mem_tiesOf.mp ht
    have h1 : a < y.n := h1
    have h2 : a < b := h2
    have h3 : b < y.n := h3
    have h4 : c = y.k a b := h4
    have h5 : 0 < c := h5
    have g1 := hn.get_lt h1
    have g2 := hn.get_lt h3
    have i1 := hn.idx_get h1
    have i2 := hn.idx_get h3
    have ne : ns.getD a 0 ≠ ns.getD b 0 := fun z => by rw [z, i2] at i1; omega
    unfold renT
    show min (ns.getD a 0) (ns.getD b 0) < y.n ∧ min (ns.getD a 0) (ns.getD b 0) < max (ns.getD a 0) (ns.getD b 0) ∧ max (ns.getD a 0) (ns.getD b 0) < y.n ∧ c = y.k (ns.idxOf (min (ns.getD a 0) (ns.getD b 0))) (ns.idxOf (max (ns.getD a 0) (ns.getD b 0))) ∧ 0 < c
    refine ⟨by omega, by omega, by omega, ?_, h5⟩
    by_cases z : ns.getD a 0 ≤ ns.getD b 0
    · rw [Nat.min_eq_left z, Nat.max_eq_right z, i1, i2, h4]
    · rw [Nat.min_eq_right (by omega), Nat.max_eq_left (by omega), i1, i2, h4, h.sy]
abbrev tI (t : Tie) : List Int := [(t.1 : Int), (t.2.1 : Int), t.2.2]
theorem tieD_ints (ts : List Tie) : ts.map tieD = (ts.map tI).map intsD := by
  rw [List.map_map]
  rfl
def tB (l : List Int) : Tie := ((l.getD 0 0).toNat, (l.getD 1 0).toNat, l.getD 2 0)
theorem tB_tI (t : Tie) : tB (tI t) = t := by
  obtain ⟨a, b, c⟩ := t
  simp [tB, tI]
/-- what sorted leaves of ties between distinct pairs -/
theorem sorted_ties {ts : List Tie} {us : List (List Int)} (bd : ∀ t ∈ ts, t.1 < t.2.1 ∧ t.2.1 < 16 ∧ 0 ≤ t.2.2 ∧ t.2.2 < 16) (ds : ts.Pairwise fun t u => ¬ (t.1 = u.1 ∧ t.2.1 = u.2.1)) (p : us.Perm (ts.map tI)) (so : us.Pairwise fun x y => TS.code 16 x ≤ TS.code 16 y) :
    ∃ ts' : List Tie, us = ts'.map tI ∧ ts'.Perm ts ∧ ts'.Pairwise ltT := by
  have hu : ∀ u ∈ us, ∃ t ∈ ts, u = tI t := fun u hu => by
    obtain ⟨t, ht, e⟩ := List.mem_map.mp (p.mem_iff.mp hu)
    exact ⟨t, ht, e.symm⟩
  have e1 : (us.map tB).map tI = us := by
    rw [List.map_map]
    conv => rhs; rw [← List.map_id us]
    apply List.map_congr_left
    intro u h
    obtain ⟨t, _, rfl⟩ := hu u h
    show tI (tB (tI t)) = tI t
    rw [tB_tI]
  have p2 : (us.map tB).Perm ts := by
    have := p.map tB
    rw [List.map_map] at this
    have e : (tB ∘ tI) = id := by funext t; exact tB_tI t
    rw [e, List.map_id] at this
    exact this
  refine ⟨us.map tB, e1.symm, p2, ?_⟩
  have ds2 : (us.map tB).Pairwise fun t u => ¬ (t.1 = u.1 ∧ t.2.1 = u.2.1) := (p2.symm.pairwise_iff fun h k => h ⟨k.1.symm, k.2.symm⟩).mp ds
  rw [← e1, List.pairwise_map] at so
  refine List.Pairwise.imp_of_mem (fun {t u} ht hu2 h => ?_) (so.and ds2)
  have b1 := bd t (p2.mem_iff.mp ht)
  have b2 := bd u (p2.mem_iff.mp hu2)
  obtain ⟨h1, h2⟩ := h
  have c1 : TS.code 16 (tI t) = (t.1 : Int) * 256 + ((t.2.1 : Int) * 16 + t.2.2) := by
    simp [TS.code, tI]
  have c2 : TS.code 16 (tI u) = (u.1 : Int) * 256 + ((u.2.1 : Int) * 16 + u.2.2) := by
    simp [TS.code, tI]
  rw [c1, c2] at h1
  unfold ltT
  omega
theorem ren_pw {y : Y} (h : y.Ok) {ns : List Nat} (hn : Nm y.n ns) : (y.ties.map (renT ns)).Pairwise fun t u => ¬ (t.1 = u.1 ∧ t.2.1 = u.2.1) := by
  rw [List.pairwise_map]
  refine List.Pairwise.imp_of_mem (fun {t u} ht hu r => ?_) h.sties.so
  obtain ⟨a1, a2, a3, _⟩ := mem_tiesOf.mp ht
  obtain ⟨b1, b2, b3, _⟩ := mem_tiesOf.mp hu
  rintro ⟨z1, z2⟩
  have z1 : min (ns.getD t.1 0) (ns.getD t.2.1 0) = min (ns.getD u.1 0) (ns.getD u.2.1 0) := z1
  have z2 : max (ns.getD t.1 0) (ns.getD t.2.1 0) = max (ns.getD u.1 0) (ns.getD u.2.1 0) := z2
  have i1 := hn.idx_get a1
  have i2 := hn.idx_get a3
  have j1 := hn.idx_get b1
  have j2 := hn.idx_get b3
  have cs : (ns.getD t.1 0 = ns.getD u.1 0 ∧ ns.getD t.2.1 0 = ns.getD u.2.1 0) ∨ (ns.getD t.1 0 = ns.getD u.2.1 0 ∧ ns.getD t.2.1 0 = ns.getD u.1 0) := by omega
  unfold ltT at r
  rcases cs with ⟨q1, q2⟩ | ⟨q1, q2⟩
  · rw [q1, j1] at i1; rw [q2, j2] at i2; omega
  · rw [q1, j2] at i1; rw [q2, j1] at i2; omega
theorem ren_sorted {y : Y} (h : y.Ok) {ns : List Nat} (hn : Nm y.n ns) {us : List (List Int)} (p : us.Perm ((y.ties.map (renT ns)).map tI)) (so : us.Pairwise fun x y => TS.code 16 x ≤ TS.code 16 y) : us.map intsD = (ren y ns).ties.map tieD := by
  obtain ⟨ts', rfl, p2, s2⟩ := sorted_ties (fun t ht => by
    have := (ren_ok h hn).sties.bd t ((ren_mem h hn t).mpr ht)
    have := h.n7
    have e : (ren y ns).n = y.n := rfl
    omega) (ren_pw h hn) p so
  rw [tieD_ints]
  congr 2
  exact sorted_ext ltT_irr ltT_asym s2 (ren_ok h hn).sties.so fun x => by rw [ren_mem h hn, p2.mem_iff]
theorem renT_bd {y : Y} (h : y.Ok) {ns : List Nat} (hn : Nm y.n ns) : ∀ l ∈ (y.ties.map (renT ns)).map tI, l.length = 3 ∧ TS.Bd 16 l := fun l hl => by
  obtain ⟨t, ht, rfl⟩ := List.mem_map.mp hl
  have := (ren_ok h hn).sties.bd t ((ren_mem h hn t).mpr ht)
  have := h.n7
  have e : (ren y ns).n = y.n := rfl
  refine ⟨rfl, fun m hm => ?_⟩
  simp [tI] at hm
  omega
theorem sort2 {a b : Nat} {ms : List Int} (p : ms.Perm [(a : Int), (b : Int)]) (s : ms.Pairwise (· ≤ ·)) : ms = [((min a b : Nat) : Int), ((max a b : Nat) : Int)] := by
  match ms, p.length_eq with
  | [x, y], _ =>
    have h1 := p.mem_iff (a := x)
    have h2 := p.mem_iff (a := y)
    have h3 := p.mem_iff (a := (a : Int))
    have h4 := p.mem_iff (a := (b : Int))
    simp at h1 h2 h3 h4 s
    have e1 : x = ((min a b : Nat) : Int) := by omega
    have e2 : y = ((max a b : Nat) : Int) := by omega
    rw [e1, e2]

def renMs (y : Y) (ns : List Nat) (i : Nat) : Nat → Int := fun a => if ns.idxOf a < i then y.m (ns.idxOf a) else 0
theorem renMs_step {y : Y} {ns : List Nat} (hn : Nm y.n ns) {i : Nat} (hi : i < y.n) : (((List.range y.n).map (renMs y ns i)).map PyData.int).set (ns.getD i 0) (.int (y.m i)) = ((List.range y.n).map (renMs y ns (i + 1))).map PyData.int := by
  rw [List.map_map, List.map_map, set_range]
  apply List.map_congr_left
  intro a ha
  have ha : a < y.n := by simpa using ha
  show (if a = ns.getD i 0 then PyData.int (y.m i) else .int (renMs y ns i a)) = .int (renMs y ns (i + 1) a)
  have g := hn.get_idx ha
  have q := hn.idx_get hi
  unfold renMs
  by_cases z : a = ns.getD i 0
  · rw [if_pos z, z, q, if_pos (Nat.lt_succ_self _)]
  · rw [if_neg z]
    have ne : ns.idxOf a ≠ i := fun e => z (by rw [← e, g])
    congr 1
    by_cases w : ns.idxOf a < i
    · rw [if_pos w, if_pos (by omega)]
    · rw [if_neg w, if_neg (by omega)]
theorem renMs_end {y : Y} {ns : List Nat} (hn : Nm y.n ns) : (List.range y.n).map (renMs y ns y.n) = (ren y ns).ml := by
  apply List.map_congr_left
  intro a ha
  have ha : a < y.n := by simpa using ha
  show (if _ then _ else _) = _
  rw [if_pos (hn.idx_lt ha)]
  rfl
theorem zeros_ml (n : Nat) (f : Nat → Int) (h : ∀ a, f a = 0) : (List.replicate n [PyData.int 0]).flatten = ((List.range n).map f).map PyData.int := by
  rw [zeros_flat]
  congr 1
  have : f = fun _ => 0 := funext h
  rw [this, List.map_const', List.length_range]
theorem ties_len (y : Y) : y.ties.length ≤ y.n * y.n := tiesOf_length y.k y.n y.n
theorem ties_get {y : Y} {i : Nat} {d : PyData} (h : (y.ties.map tieD)[i]? = some d) : ∃ t, y.ties[i]? = some t ∧ d = tieD t := by
  rw [List.getElem?_map] at h
  obtain ⟨t, e, rfl⟩ := Option.map_eq_some_iff.mp h
  exact ⟨t, e, rfl⟩
def spRenamed : Spc := fun as Q => ∃ (y : Y) (ns : List Nat), as = [.d (rowsD y), .d (NL ns)] ∧ y.Ok ∧ Nm y.n ns ∧ Q (.d (rowsD (ren y ns)))
def spKind : Spc := fun as Q => ∃ (y : Y) (i j : Nat), as = [.d (rowsD y), .d (nI i), .d (nI j)] ∧ y.Ok ∧ i < y.n ∧ j < y.n ∧ Q (.d (.int (y.k i j)))
theorem c_law_kind (T : Txt K mg C) : Cal P w K mg base C "_law_kind" 1 spKind := by
  refine cal_of T.d_law_kind sc_law_kind (fun as Q h => by obtain ⟨_, _, _, rfl, _⟩ := h; rfl) fun f cdv A0 outer s H E hr G F as Q hs => ?_
  obtain ⟨y, i, j, rfl, ok, hi, hj, hQ⟩ := hs
  refine ⟨_, _, (pss_consA (ps_forA (pi_listA (K := K) (pd_ix (K := K) (pd_var 0) pd_int)) (pg_nameA 3 sc_law_kind.nd) (pss_oneA (ps_ifA (PDW.t (pw_andA (pt_eq (K := K) hr (pd_ix (K := K) (pd_var 3) pd_int) (pd_min2 rfl T.min (pda_cons (pd_var 1) (pda_cons (pd_var 2) pda_nil)))) (pw_and1A (pt_eq (K := K) hr (pd_ix (K := K) (pd_var 3) pd_int) (pd_max2 rfl T.max (pda_cons (pd_var 1) (pda_cons (pd_var 2) pda_nil))))))) (pss_oneA (ps_retA (pd_ix (K := K) (pd_var 3) pd_int))) pss_nilA)) PassesOwn.never)
  (pss_oneA (ps_retA pd_int))), ?_⟩
  have ek := kOf_ties ok hi hj
  walk_at "wp"
  refine ⟨_, rfl, ?_⟩
  walk_at "wp"
  refine ⟨fun t ρ => (∃ a, ρ = [.d (rowsD y), .d (nI i), .d (nI j), a]) ∧ ∀ u ∈ y.ties.take t, kmt u i j = false, ⟨⟨_, rfl⟩, by simp⟩, fun t d ρ hd hI => ?_, fun ρ hI => ?_⟩
  · obtain ⟨u, et, rfl⟩ := ties_get hd
    obtain ⟨⟨a, rfl⟩, hb⟩ := hI
    obtain ⟨m1, m2, m3, m4, m5⟩ := mem_tiesOf.mp (List.mem_of_getElem? et)
    walk_at "wp"
    have next : kmt u i j = false → (∃ a, [A.d (rowsD y), .d (nI i), .d (nI j), .d (tieD u)] = [A.d (rowsD y), .d (nI i), .d (nI j), a]) ∧ ∀ v ∈ y.ties.take (t + 1), kmt v i j = false := fun hk => ⟨⟨_, rfl⟩, fun v hv => by
      rw [List.take_succ, et] at hv
      rcases List.mem_append.mp hv with z | z
      · exact hb v z
      · have : v = u := by simpa using z
        rw [this]; exact hk⟩
    have no : ¬ ((u.1 : Int) = (if (j : Int) < i then (j : Int) else i) ∧ (u.2.1 : Int) = (if (j : Int) > i then (j : Int) else i)) → kmt u i j = false := fun h => by
      rw [← Bool.not_eq_true]
      intro z
      apply h
      rcases kmt_iff.mp z with ⟨z1, z2⟩ | ⟨z1, z2⟩
      · rw [if_neg (by omega), if_pos (by omega)]; omega
      · rw [if_pos (by omega), if_neg (by omega)]; omega
    refine ⟨_, rfl, ?_⟩
    walk_at "wp"
    refine ⟨fun h1 => ⟨_, rfl, ?_⟩, fun h1 => ⟨fun z => (by cases z), fun _ => next (no fun z => (of_decide_eq_false h1) z.1)⟩⟩
    walk_at "wp"
    refine ⟨fun h2 => ⟨_, rfl, ?_⟩, fun h2 => next (no fun z => (of_decide_eq_false h2) z.2)⟩
    have h1 := of_decide_eq_true h1
    have h2 := of_decide_eq_true h2
    have e : y.k i j = u.2.2 := by
      rw [m4]
      by_cases z : (j : Int) < i
      · rw [if_pos z] at h1
        rw [if_neg (by omega)] at h2
        rw [show u.1 = j by omega, show u.2.1 = i by omega, ok.sy]
      · rw [if_neg z] at h1
        by_cases z2 : (j : Int) > i
        · rw [if_pos z2] at h2
          rw [show u.1 = i by omega, show u.2.1 = j by omega]
        · rw [if_neg z2] at h2
          omega
    rw [e] at hQ
    exact hQ
  · obtain ⟨⟨a, rfl⟩, hb⟩ := hI
    rw [List.take_length] at hb
    rw [kOf_none hb] at ek
    walk_at "wp"
    rw [ek]
    exact hQ
def spKinds : Spc := fun as Q => ∃ (y : Y), as = [.d (rowsD y)] ∧ y.Ok ∧ Q (.d (.list (kd y.kl)))
theorem c_law_kinds (T : Txt K mg C) : Cal P w K mg base C "_law_kinds" 2 spKinds := by
  have c_law_kind := c_law_kind (P := P) (w := w) (base := base) T
  refine cal_of T.d_law_kinds sc_law_kinds (fun as Q h => by obtain ⟨_, rfl, _⟩ := h; rfl) fun f cdv A0 outer s H E hr G F as Q hs => ?_
  obtain ⟨y, rfl, ok, hQ⟩ := hs
  refine ⟨_, _, (pss_consA (ps_setA (i := 1) sc_law_kinds.nd (pd_len (K := K) T.len (pda_cons (pd_ix (K := K) (pd_var 0) pd_int) pda_nil)))
  (pss_consA (ps_setA (i := 2) sc_law_kinds.nd (pd_lst pda_nil))
  (pss_consA (ps_forA (pi_range1A T.range (pda_cons (pd_var 1) pda_nil)) (pg_nameA 3 sc_law_kinds.nd) (pss_oneA (ps_appA (pd_var 2) (pd_lc [("_law_other", 4)] sc_law_kinds.nd (pi_range1A T.range (pda_cons (pd_var 1) pda_nil)) (blkOk_by (N := n_law_kinds) (sc := defScope s_law_kinds) (by decide +kernel)) (fun _ _ _ _ _ => (pg_nameA 4 sc_law_kinds.nd)) (fun _ _ _ _ _ => pts_nilA) (fun _ _ _ _ _ => (pd_call c_law_kind hr (by omega) (pda_cons (pd_var 0) (pda_cons (pd_var 3) (pda_cons (pd_var 4) pda_nil))))) (gw_name (by decide))))) PassesOwn.never)
  (pss_oneA (ps_fz 2 (ps_retA (pd_var 2))))))), ?_⟩
  have h7 := ok.n7
  walk_at "wp"
  refine ⟨_, rfl, ?_⟩
  walk_at "wp"
  refine ⟨by decide, by omega, by omega, fun i ρ => ∃ a b, ρ = [.d (rowsD y), .d (nI y.n), .own ((kd y.kl).take i), a, b], ⟨_, _, rfl⟩, fun i d ρ hd hI => ?_, fun ρ hI => ?_⟩
  · obtain ⟨hi, rfl⟩ := rgD0_get hd
    obtain ⟨a, b, rfl⟩ := hI
    walk_at "wp"
    refine ⟨by omega, by omega, fun j acc => acc = ((List.range j).map fun x => y.k i x).map PyData.int, rfl, fun j d acc hd hI => ⟨fun _ => ?_, fun z => (by cases z)⟩, ?_⟩
    · obtain ⟨hj, rfl⟩ := rgD0_get hd
      subst hI
      refine ⟨y, i, j, rfl, ok, hi, hj, ?_⟩
      walk_at "wp"
      refine ⟨sz_lt (by omega), ?_⟩
      rw [List.range_succ]
      simp
    · rintro acc rfl
      have e : (kd y.kl)[i]? = some (.list (((List.range y.n).map fun x => y.k i x).map PyData.int)) := by simp [kd, hi]
      have e9 : (kd y.kl).take (i + 1) = (kd y.kl).take i ++ [.list (((List.range y.n).map fun x => y.k i x).map PyData.int)] := by
        rw [List.take_succ, e]
        rfl
      exact ⟨sz_lt (by rw [List.length_take, kd_length]; omega), _, _, by rw [e9]⟩
  · obtain ⟨a, b, rfl⟩ := hI
    walk_at "wp"
    rw [List.take_of_length_le (by rw [kd_length]; exact Nat.le_refl _)]
    exact hQ

abbrev kdL (y : Y) : PyData := .list (kd y.kl)
def spWhy : Spc := fun as Q => ∃ (y1 y2 : Y) (ns : List Nat) (q : Nat), as = [.d (rowsD y1), .d (rowsD y2), .d (kdL y1), .d (kdL y2), .d (NL ns), .d (nI q)] ∧ ns.length < y1.n ∧ q < y2.n ∧ y1.n ≤ 7 ∧ (∀ x ∈ ns, x < y2.n) ∧ Q (.d (whyD (clashW y1 y2 ns ns.length q)))
theorem at_ml (y : Y) {i : Nat} (h : i < y.n) : atI (y.ml.map PyData.int) (i : Int) = some (.int (y.m i)) := at_marked y h
/-! ### trees of reasons -/
def caseRow (y1 y2 : Y) (sub : List Nat → PyData) (ns : List Nat) (q : Nat) : Option PyData := if q ∈ ns then none else some (.tuple [nI q, match clashW y1 y2 ns ns.length q with
    | none => sub (ns ++ [q])
    | some o => whyD (some o)])
def caseRows (y1 y2 : Y) (sub : List Nat → PyData) (ns : List Nat) (i : Nat) : List PyData := (List.range i).filterMap (caseRow y1 y2 sub ns)
def casesD (y1 y2 : Y) : Nat → List Nat → PyData
  | 0, ns => .tuple [.str "cases", .tuple (caseRows y1 y2 (fun _ => .none) ns y1.n)]
  | t + 1, ns => .tuple [.str "cases", .tuple (caseRows y1 y2 (casesD y1 y2 t) ns y1.n)]
theorem caseRows_succ (y1 y2 : Y) (sub : List Nat → PyData) (ns : List Nat) (i : Nat) : caseRows y1 y2 sub ns (i + 1) = caseRows y1 y2 sub ns i ++ (caseRow y1 y2 sub ns i).toList := by
  unfold caseRows
  rw [List.range_succ, List.filterMap_append]
  cases e : caseRow y1 y2 sub ns i <;> simp [e]
theorem caseRows_len (y1 y2 : Y) (sub : List Nat → PyData) (ns : List Nat) (i : Nat) : (caseRows y1 y2 sub ns i).length ≤ i := Nat.le_trans (List.length_filterMap_le _ _) (by simp)
theorem caseRows_in {y1 y2 : Y} {sub : List Nat → PyData} {ns : List Nat} {i : Nat} (h : i ∈ ns) : caseRows y1 y2 sub ns (i + 1) = caseRows y1 y2 sub ns i := by
  rw [caseRows_succ]; unfold caseRow; rw [if_pos h]; simp
theorem caseRows_why {y1 y2 : Y} {sub : List Nat → PyData} {ns : List Nat} {i : Nat} (h : i ∉ ns) (c : (clashW y1 y2 ns ns.length i).isNone = false) : caseRows y1 y2 sub ns (i + 1) = caseRows y1 y2 sub ns i ++ [.tuple [nI i, whyD (clashW y1 y2 ns ns.length i)]] := by
  rw [caseRows_succ]; unfold caseRow; rw [if_neg h]
  cases e : clashW y1 y2 ns ns.length i with
  | none => rw [e] at c; cases c
  | some o => rfl
theorem caseRows_sub {y1 y2 : Y} {sub : List Nat → PyData} {ns : List Nat} {i : Nat} (h : i ∉ ns) (c : (clashW y1 y2 ns ns.length i).isNone = true) : caseRows y1 y2 sub ns (i + 1) = caseRows y1 y2 sub ns i ++ [.tuple [nI i, sub (ns ++ [i])]] := by
  rw [caseRows_succ]; unfold caseRow; rw [if_neg h]
  cases e : clashW y1 y2 ns ns.length i with
  | none => rfl
  | some o => rw [e] at c; cases c
/-- names that go on -/
structure Pre (n : Nat) (ns : List Nat) : Prop where
  nd : ns.Nodup
  lt : ∀ x ∈ ns, x < n
  le : ns.length ≤ n
theorem Pre.go {n : Nat} {ns : List Nat} (h : Pre n ns) {q : Nat} (hq : q < n) (hn : q ∉ ns) : Pre n (ns ++ [q]) ∧ ns.length < n := by
  have nd : (ns ++ [q]).Nodup := List.nodup_append.mpr ⟨h.nd, by simp, fun a ha b hb => by
    have : b = q := by simpa using hb
    subst this
    exact fun z => hn (by rw [← z]; exact ha)⟩
  have lt : ∀ x ∈ ns ++ [q], x < n := fun x hx => by
    rcases List.mem_append.mp hx with z | z
    · exact h.lt x z
    · have : x = q := by simpa using z
      rw [this]; exact hq
  have le := nodup_le n _ nd lt
  refine ⟨⟨nd, lt, le⟩, ?_⟩
  simp at le
  omega
def casesSub (y1 y2 : Y) (ns : List Nat) : List Nat → PyData := match y1.n - ns.length with
  | 0 => fun _ => .none
  | t + 1 => casesD y1 y2 t
theorem casesD_eq (y1 y2 : Y) (ns : List Nat) : casesD y1 y2 (y1.n - ns.length) ns = .tuple [.str "cases", .tuple (caseRows y1 y2 (casesSub y1 y2 ns) ns y1.n)] := by
  unfold casesSub
  cases y1.n - ns.length <;> rfl
theorem casesSub_go (y1 y2 : Y) {ns : List Nat} {q : Nat} (h : ns.length < y1.n) : casesSub y1 y2 ns (ns ++ [q]) = casesD y1 y2 (y1.n - (ns ++ [q]).length) (ns ++ [q]) := by
  unfold casesSub
  obtain ⟨t, e⟩ : ∃ t, y1.n - ns.length = t + 1 := ⟨y1.n - ns.length - 1, by omega⟩
  rw [e, show y1.n - (ns ++ [q]).length = t by simp; omega]
def spLawCases (t : Nat) : Spc := fun as Q => ∃ (y1 y2 : Y) (ns : List Nat), as = [.d (rowsD y1), .d (rowsD y2), .d (kdL y1), .d (kdL y2), .d (NL ns)] ∧ y1.n = y2.n ∧ y1.n ≤ 7 ∧ Pre y1.n ns ∧ y1.n < ns.length + t ∧ Q (.d (casesD y1 y2 (y1.n - ns.length) ns))
def spCases (t : Nat) : Spc := fun as Q => ∃ (y1 y2 : Y) (ns : List Nat), as = [yA y1, yA y2, .d (NL ns)] ∧ y1.n = y2.n ∧ y1.n ≤ 7 ∧ Pre y1.n ns ∧ y1.n < ns.length + t ∧ Q (.d (casesD y1 y2 (y1.n - ns.length) ns))
/-! ### all renamings, place by place -/
def gd (y1 y2 : Y) (p : Nat) (ns : List Nat) (q i : Nat) : Bool := (!decide (q ∈ ns) && decide (y1.m p = y2.m q)) && (List.range i).all fun e => decide (y1.k e p = y2.k (ns.getD e 0) q)
theorem gd_succ (y1 y2 : Y) (p : Nat) (ns : List Nat) (q i : Nat) : gd y1 y2 p ns q (i + 1) = (gd y1 y2 p ns q i && decide (y1.k i p = y2.k (ns.getD i 0) q)) := by
  unfold gd
  rw [List.range_succ, List.all_append, ← Bool.and_assoc]
  simp only [List.all_cons, List.all_nil, Bool.and_true]
def ext (y1 y2 : Y) (p : Nat) (ns : List Nat) (i : Nat) : List (List Nat) := (List.range i).filterMap fun q => if gd y1 y2 p ns q p then some (ns ++ [q]) else none
def lev (y1 y2 : Y) : Nat → List (List Nat)
  | 0 => [[]]
  | p + 1 => (lev y1 y2 p).flatMap fun ns => ext y1 y2 p ns y1.n
theorem ext_succ (y1 y2 : Y) (p : Nat) (ns : List Nat) (i : Nat) : ext y1 y2 p ns (i + 1) = ext y1 y2 p ns i ++ (if gd y1 y2 p ns i p then [ns ++ [i]] else []) := by
  unfold ext
  rw [List.range_succ, List.filterMap_append]
  congr 1
  by_cases h : gd y1 y2 p ns i p <;> simp [h]
theorem ext_len (y1 y2 : Y) (p : Nat) (ns : List Nat) (i : Nat) : (ext y1 y2 p ns i).length ≤ i := Nat.le_trans (List.length_filterMap_le _ _) (by simp)
theorem flat_len {α : Type} {f : α → List (List Nat)} {n : Nat} (h : ∀ x, (f x).length ≤ n) : ∀ l : List α, (l.flatMap f).length ≤ l.length * n
  | [] => by simp
  | x :: l => by
    rw [List.flatMap_cons, List.length_append, List.length_cons, Nat.succ_mul]
    have := h x
    have := flat_len h l
    omega
theorem lev_len (y1 y2 : Y) : ∀ p, (lev y1 y2 p).length ≤ y1.n ^ p
  | 0 => by simp [lev]
  | p + 1 => by
    have h := flat_len (f := fun ns => ext y1 y2 p ns y1.n) (n := y1.n) (fun x => ext_len _ _ _ _ _) (lev y1 y2 p)
    have h2 := Nat.mul_le_mul_right y1.n (lev_len y1 y2 p)
    rw [Nat.pow_succ]
    exact Nat.le_trans h h2
theorem lev_pre {y1 y2 : Y} : ∀ {p : Nat} {ns : List Nat}, ns ∈ lev y1 y2 p → ns.length = p ∧ Pre y1.n ns
  | 0, ns, h => by
    have : ns = [] := by simpa [lev] using h
    subst this
    exact ⟨rfl, .nil, by simp, Nat.zero_le _⟩
  | p + 1, ns, h => by
    obtain ⟨ms, hm, h2⟩ := List.mem_flatMap.mp h
    obtain ⟨q, hq, e⟩ := List.mem_filterMap.mp h2
    obtain ⟨l, pre⟩ := lev_pre hm
    split at e
    · rename_i hg
      cases e
      have hn : q ∉ ms := by
        unfold gd at hg
        simp only [Bool.and_eq_true, Bool.not_eq_true', decide_eq_false_iff_not] at hg
        exact hg.1.1
      exact ⟨by simp [l], (pre.go (List.mem_range.mp hq) hn).1⟩
    · cases e
def allM (y1 y2 : Y) : List (List Nat) := if y1.n = y2.n then lev y1 y2 y1.n else []
theorem NLs_snoc (xs : List (List Nat)) (ns : List Nat) (i : Nat) : xs.map NL ++ [.list ((ns ++ [i]).map nI)] = (xs ++ [ns ++ [i]]).map NL := by simp
def spAll : Spc := fun as Q => ∃ (y1 y2 : Y), as = [.d (rowsD y1), .d (rowsD y2), .d (.list [])] ∧ y1.Ok ∧ y2.Ok ∧ (y1.n ≠ y2.n → Q (.own [])) ∧ (y1.n = y2.n → Q (.d (.list ((lev y1 y2 y1.n).map NL))))
theorem c_law_all (T : Txt K mg C) : Cal P w K mg base C "_law_all" 3 spAll := by
  have c_law_kinds := c_law_kinds (P := P) (w := w) (base := base) T
  refine cal_of T.d_law_all sc_law_all (fun as Q h => by obtain ⟨_, _, rfl, _⟩ := h; rfl) fun f cdv A0 outer s H E hr G F as Q hs => ?_
  obtain ⟨y1, y2, rfl, ok1, ok2, hQ1, hQ2⟩ := hs
  refine ⟨_, _, (pss_consA (ps_ifA (pt_ne (K := K) hr (pd_len (K := K) T.len (pda_cons (pd_ix (K := K) (pd_var 0) pd_int) pda_nil)) (pd_len (K := K) T.len (pda_cons (pd_ix (K := K) (pd_var 1) pd_int) pda_nil))) (pss_oneA (ps_retA (pd_lst pda_nil))) pss_nilA)
  (pss_consA (ps_setA (i := 3) sc_law_all.nd (pd_call c_law_kinds hr (by omega) (pda_cons (pd_var 0) pda_nil)))
  (pss_consA (ps_setA (i := 4) sc_law_all.nd (pd_call c_law_kinds hr (by omega) (pda_cons (pd_var 1) pda_nil)))
  (pss_consA (ps_setA (i := 5) sc_law_all.nd (pd_lst (pda_cons (pd_lst pda_nil) pda_nil)))
  (pss_consA (ps_fz 5 (ps_forA (pi_range1A T.range (pda_cons (pd_len (K := K) T.len (pda_cons (pd_ix (K := K) (pd_var 0) pd_int) pda_nil)) pda_nil)) (pg_nameA 6 sc_law_all.nd) (pss_consA (ps_setA (i := 7) sc_law_all.nd (pd_lst pda_nil))
  (pss_consA (ps_fz 5 (ps_forA (pi_listA (K := K) (pd_var 5)) (pg_nameA 8 sc_law_all.nd) (pss_consA (ps_setA (i := 9) sc_law_all.nd (pd_lstRg T.list (pr_1 T.range (pd_len (K := K) T.len (pda_cons (pd_ix (K := K) (pd_var 0) pd_int) pda_nil)))))
  (pss_consA (ps_ifA (pt_lt (pd_var 6) (pd_len (K := K) T.len (pda_cons (pd_var 2) pda_nil))) (pss_oneA (ps_setA (i := 9) sc_law_all.nd (pd_lst (pda_cons (pd_ix (K := K) (pd_var 2) (pd_var 6)) pda_nil)))) pss_nilA)
  (pss_oneA (ps_fz 9 (ps_forA (pi_listA (K := K) (pd_var 9)) (pg_nameA 10 sc_law_all.nd) (pss_consA (ps_setA (i := 11) sc_law_all.nd (pd_and (pd_nin (K := K) hr (pd_var 10) (pd_var 8)) (pd_one (pd_eq (K := K) hr (pd_ix (K := K) (pd_ix (K := K) (pd_var 0) pd_int) (pd_var 6)) (pd_ix (K := K) (pd_ix (K := K) (pd_var 1) pd_int) (pd_var 10))))))
  (pss_consA (ps_forA (pi_range1A T.range (pda_cons (pd_var 6) pda_nil)) (pg_nameA 12 sc_law_all.nd) (pss_oneA (ps_setA (i := 11) sc_law_all.nd (pd_and (pd_var 11) (pd_one (pd_eq (K := K) hr (pd_ix (K := K) (pd_ix (K := K) (pd_var 3) (pd_var 12)) (pd_var 6)) (pd_ix (K := K) (pd_ix (K := K) (pd_var 4) (pd_ix (K := K) (pd_var 8) (pd_var 12))) (pd_var 10))))))) PassesOwn.never)
  (pss_oneA (ps_ifA (pt_v (pd_var 11)) (pss_oneA (ps_appA (pd_var 7) (pd_add (K := K) (pd_var 8) (pd_lst (pda_cons (pd_var 10) pda_nil))))) pss_nilA)))) PassesOwn.never))))) PassesOwn.never))
  (pss_oneA (ps_fz 7 (ps_setA (i := 5) sc_law_all.nd (pd_var 7)))))) PassesOwn.never))
  (pss_oneA (ps_retA (pd_var 5)))))))), ?_⟩
  have h7 := ok1.n7
  walk_at "wp"
  refine ⟨_, rfl, ?_⟩
  walk_at "wp"
  refine ⟨_, rfl, ?_⟩
  walk_at "wp"
  refine ⟨fun h => ⟨by decide, hQ1 (by simp at h; omega)⟩, fun h => ⟨y1, rfl, ok1, ?_⟩⟩
  have h : y1.n = y2.n := by simp at h; omega
  have hQ := hQ2 h
  walk_at "wp"
  refine ⟨y2, rfl, ok2, ?_⟩
  walk_at "wp"
  have pw : ∀ p, p ≤ 7 → (lev y1 y2 p).length ≤ 7 ^ 7 := fun p hp => Nat.le_trans (lev_len y1 y2 p) (Nat.le_trans (Nat.pow_le_pow_left h7 p) (Nat.pow_le_pow_right (by decide) hp))
  have big : 7 ^ 7 * 7 + 7 < sizeLine := by decide
  refine ⟨by decide, by decide, _, rfl, ?_⟩
  walk_at "wp"
  refine ⟨by omega, by omega, fun p ρ => ∃ a b c d e f g, ρ = [.d (rowsD y1), .d (rowsD y2), .d (.list []), .d (.list (kd y1.kl)), .d (.list (kd y2.kl)), .d (.list ((lev y1 y2 p).map NL)), a, b, c, d, e, f, g], ⟨_, _, _, _, _, _, _, rfl⟩, fun p d ρ hd hI => ?_, fun ρ hI => ?_⟩
  · obtain ⟨hp, rfl⟩ := rgD0_get hd
    obtain ⟨a, b, c, d, e, f, g, rfl⟩ := hI
    walk_at "wp"
    refine ⟨by decide, fun j ρ => ∃ c d e f g, ρ = [.d (rowsD y1), .d (rowsD y2), .d (.list []), .d (.list (kd y1.kl)), .d (.list (kd y2.kl)), .d (.list ((lev y1 y2 p).map NL)), .d (nI p), .own ((((lev y1 y2 p).take j).flatMap fun ns => ext y1 y2 p ns y1.n).map NL), c, d, e, f, g], ⟨_, _, _, _, _, rfl⟩, fun j d ρ hd hI => ?_, fun ρ hI => ?_⟩
    · rw [List.getElem?_map] at hd
      obtain ⟨ns, en, rfl⟩ := Option.map_eq_some_iff.mp hd
      obtain ⟨c, d, e, f, g, rfl⟩ := hI
      have hj : j < (lev y1 y2 p).length := (List.getElem?_eq_some_iff.mp en).1
      obtain ⟨ln, pre⟩ := lev_pre (List.mem_of_getElem? en)
      have fl := flat_len (f := fun ns => ext y1 y2 p ns y1.n) (n := 7) (fun x => Nat.le_trans (ext_len _ _ _ _ _) h7) ((lev y1 y2 p).take j)
      have tj : ((lev y1 y2 p).take j).length ≤ 7 ^ 7 := Nat.le_trans (by rw [List.length_take]; omega) (pw p (by omega))
      have tj2 := Nat.mul_le_mul_right 7 tj
      walk_at "wp"
      refine ⟨_, rfl, ?_⟩
      walk_at "wp"
      have e0 : ((y1.n : Int) - 0).toNat = y1.n := by omega
      rw [e0]
      refine ⟨⟨by decide, by omega⟩, fun z => absurd (of_decide_eq_true z) (by omega), fun _ => ?_⟩
      generalize hL : ((lev y1 y2 p).take j).flatMap (fun ns => ext y1 y2 p ns y1.n) = L at fl
      have eL : ((lev y1 y2 p).take (j + 1)).flatMap (fun ns => ext y1 y2 p ns y1.n) = L ++ ext y1 y2 p ns y1.n := by
        rw [List.take_succ, en, List.flatMap_append, hL]
        simp
      rw [eL]
      refine ⟨fun q ρ => ∃ d e f g, ρ = [.d (rowsD y1), .d (rowsD y2), .d (.list []), .d (.list (kd y1.kl)), .d (.list (kd y2.kl)), .d (.list ((lev y1 y2 p).map NL)), .d (nI p), .own ((L ++ ext y1 y2 p ns q).map NL), .d (NL ns), d, e, f, g], ⟨_, _, _, _, by rw [show ext y1 y2 p ns 0 = [] from rfl, List.append_nil]⟩, fun q d ρ hd hI => ?_, fun ρ hI => ?_⟩
      · obtain ⟨hq, rfl⟩ := rgD0_get hd
        obtain ⟨d, e, f, g, rfl⟩ := hI
        have el := ext_len y1 y2 p ns q
        walk_at "wp"
        refine ⟨shaped_int _, shaped_names ns, ?_⟩
        rw [any_names]
        walk_at "wp"
        refine ⟨fun h3 => ?_, fun h3 => ?_⟩
        · have h3 : q ∉ ns := by simpa using h3
          refine ⟨_, rfl, ?_⟩
          walk_at "wp"
          refine ⟨_, at_marked y1 hp, _, rfl, ?_⟩
          walk_at "wp"
          refine ⟨_, at_marked y2 (by omega), ?_⟩
          walk_at "wp"
          rw [show decide (y1.m p = y2.m q) = gd y1 y2 p ns q 0 by simp [gd, h3]]
          clear h3
          refine ⟨by omega, by omega, fun i ρ => ∃ g, ρ = [.d (rowsD y1), .d (rowsD y2), .d (.list []), .d (.list (kd y1.kl)), .d (.list (kd y2.kl)), .d (.list ((lev y1 y2 p).map NL)), .d (nI p), .own ((L ++ ext y1 y2 p ns q).map NL), .d (NL ns), d, .d (nI q), .d (.bool (gd y1 y2 p ns q i)), g], ⟨_, rfl⟩, fun i d2 ρ hd hI => ?_, fun ρ hI => ?_⟩
          · obtain ⟨hi, rfl⟩ := rgD0_get hd
            obtain ⟨g, rfl⟩ := hI
            walk_at "wp"
            refine ⟨fun hg => ⟨_, at_kinds y1 (by omega), ?_⟩, fun hg => ⟨_, by rw [gd_succ, hg, Bool.false_and]⟩⟩
            have hk := pre.lt _ (getD_mem (ns := ns) (i := i) (by omega))
            walk_at "wp"
            refine ⟨_, at_kind y1 hp, ?_⟩
            walk_at "wp"
            refine ⟨_, at_names (by omega), ?_⟩
            walk_at "wp"
            refine ⟨_, at_kinds y2 (by omega), ?_⟩
            walk_at "wp"
            refine ⟨_, at_kind y2 (by omega), ?_⟩
            walk_at "wp"
            exact ⟨_, by rw [gd_succ, hg, Bool.true_and]⟩
          · obtain ⟨g, rfl⟩ := hI
            walk_at "wp"
            have ll : (L ++ ext y1 y2 p ns q).length < sizeLine := by rw [List.length_append]; omega
            refine ⟨fun hg => ?_, fun hg => ?_⟩
            · have e9 : (L ++ ext y1 y2 p ns (q + 1)).map NL = (L ++ ext y1 y2 p ns q).map NL ++ [.list (ns.map nI ++ [nI q])] := by
                rw [ext_succ, if_pos hg, names_snoc, NLs_snoc, List.append_assoc]
              rw [e9]
              exact ⟨by decide, sz_of (by omega), ll, _, _, _, _, rfl⟩
            · have e9 : ext y1 y2 p ns (q + 1) = ext y1 y2 p ns q := by
                rw [ext_succ, hg]; simp
              rw [e9]
              exact ⟨_, _, _, _, rfl⟩
        · have h3 : q ∈ ns := by simpa using h3
          rw [show A.d (PyData.bool false) = A.d (.bool (gd y1 y2 p ns q 0)) by simp [gd, h3]]
          clear h3
          refine ⟨by omega, by omega, fun i ρ => ∃ g, ρ = [.d (rowsD y1), .d (rowsD y2), .d (.list []), .d (.list (kd y1.kl)), .d (.list (kd y2.kl)), .d (.list ((lev y1 y2 p).map NL)), .d (nI p), .own ((L ++ ext y1 y2 p ns q).map NL), .d (NL ns), d, .d (nI q), .d (.bool (gd y1 y2 p ns q i)), g], ⟨_, rfl⟩, fun i d2 ρ hd hI => ?_, fun ρ hI => ?_⟩
          · obtain ⟨hi, rfl⟩ := rgD0_get hd
            obtain ⟨g, rfl⟩ := hI
            walk_at "wp"
            refine ⟨fun hg => ⟨_, at_kinds y1 (by omega), ?_⟩, fun hg => ⟨_, by rw [gd_succ, hg, Bool.false_and]⟩⟩
            have hk := pre.lt _ (getD_mem (ns := ns) (i := i) (by omega))
            walk_at "wp"
            refine ⟨_, at_kind y1 hp, ?_⟩
            walk_at "wp"
            refine ⟨_, at_names (by omega), ?_⟩
            walk_at "wp"
            refine ⟨_, at_kinds y2 (by omega), ?_⟩
            walk_at "wp"
            refine ⟨_, at_kind y2 (by omega), ?_⟩
            walk_at "wp"
            exact ⟨_, by rw [gd_succ, hg, Bool.true_and]⟩
          · obtain ⟨g, rfl⟩ := hI
            walk_at "wp"
            have ll : (L ++ ext y1 y2 p ns q).length < sizeLine := by rw [List.length_append]; omega
            refine ⟨fun hg => ?_, fun hg => ?_⟩
            · have e9 : (L ++ ext y1 y2 p ns (q + 1)).map NL = (L ++ ext y1 y2 p ns q).map NL ++ [.list (ns.map nI ++ [nI q])] := by
                rw [ext_succ, if_pos hg, names_snoc, NLs_snoc, List.append_assoc]
              rw [e9]
              exact ⟨by decide, sz_of (by omega), ll, _, _, _, _, rfl⟩
            · have e9 : ext y1 y2 p ns (q + 1) = ext y1 y2 p ns q := by
                rw [ext_succ, hg]; simp
              rw [e9]
              exact ⟨_, _, _, _, rfl⟩
      · obtain ⟨d, e, f, g, rfl⟩ := hI
        exact ⟨_, _, _, _, _, rfl⟩
    · obtain ⟨c, d, e, f, g, rfl⟩ := hI
      rw [List.take_length]
      walk_at "wp"
      exact ⟨_, _, _, _, _, _, _, rfl⟩
  · obtain ⟨a, b, c, d, e, f, g, rfl⟩ := hI
    walk_at "wp"
    exact hQ

/-! ### _law_alike of what is alike -/
mutual
def okD : PyData → Bool
  | .none => true
  | .bool _ => false
  | .int _ => true
  | .str _ => true
  | .list xs => decide (xs.length ≤ 100000) && okAll xs
  | .tuple xs => decide (xs.length ≤ 100000) && okAll xs
  | .dict _ => false
def okAll : List PyData → Bool
  | [] => true
  | x :: xs => okD x && okAll xs
end
theorem okAll_mem : ∀ {xs : List PyData}, okAll xs = true → ∀ x ∈ xs, okD x = true
  | [], _, x, h => by simp at h
  | y :: ys, h, x, hx => by
    rw [okAll, Bool.and_eq_true] at h
    rcases List.mem_cons.mp hx with z | z
    · rw [z]; exact h.1
    · exact okAll_mem h.2 x z
theorem depth_mem : ∀ {xs : List PyData}, ∀ x ∈ xs, PyData.depth x ≤ PyData.depthAll xs
  | [], x, h => by simp at h
  | y :: ys, x, hx => by
    rw [PyData.depthAll]
    rcases List.mem_cons.mp hx with z | z
    · rw [z]; omega
    · have := depth_mem x z
      omega
def spAlike (t : Nat) : Spc := fun as Q => ∃ x : PyData, as = [.d x, .d x] ∧ okD x = true ∧ PyData.depth x < t ∧ Q (.d (.bool true))
theorem c_law_alike (T : Txt K mg C) : ∀ t : Nat, Cal P w K mg base C "_law_alike" (t + 1) (spAlike t)
  | 0 => by
    refine cal_of T.d_law_alike sc_law_alike (fun as Q h => by obtain ⟨_, rfl, _⟩ := h; rfl) fun f cdv A0 outer s H E hr G F as Q hs => ?_
    obtain ⟨x, rfl, _, h, _⟩ := hs
    omega
  | t + 1 => by
    have c_law_alike := c_law_alike T t
    refine cal_of T.d_law_alike sc_law_alike (fun as Q h => by obtain ⟨_, rfl, _⟩ := h; rfl) fun f cdv A0 outer s H E hr G F as Q hs => ?_
    obtain ⟨x, rfl, ok, dp, hQ⟩ := hs
    refine ⟨_, _, (pss_consA (ps_ifA (pt_is (pd_var 1) pd_non) (pss_oneA (ps_retA (pd_is (pd_var 0) pd_non))) pss_nilA)
  (pss_consA (ps_ifA (pt_v (pd_isinstance (K := K) T.isinstance (pda_cons (pd_var 1) (pda_cons (pd_ty T.bool boot_bool') pda_nil)))) (pss_oneA (ps_retA (pd_and (pd_isinstance (K := K) T.isinstance (pda_cons (pd_var 0) (pda_cons (pd_ty T.bool boot_bool') pda_nil))) (pd_one (pd_eq (K := K) hr (pd_var 0) (pd_var 1)))))) pss_nilA)
  (pss_consA (ps_ifA (pt_v (pd_isinstance (K := K) T.isinstance (pda_cons (pd_var 1) (pda_cons (pd_ty T.int boot_int') pda_nil)))) (pss_oneA (ps_retA (pd_and (pd_isinstance (K := K) T.isinstance (pda_cons (pd_var 0) (pda_cons (pd_ty T.int boot_int') pda_nil))) (pd_and (pd_not (pd_isinstance (K := K) T.isinstance (pda_cons (pd_var 0) (pda_cons (pd_ty T.bool boot_bool') pda_nil)))) (pd_one (pd_eq (K := K) hr (pd_var 0) (pd_var 1))))))) pss_nilA)
  (pss_consA (ps_ifA (pt_v (pd_isinstance (K := K) T.isinstance (pda_cons (pd_var 1) (pda_cons (pd_ty T.str boot_str') pda_nil)))) (pss_oneA (ps_retA (pd_and (pd_isinstance (K := K) T.isinstance (pda_cons (pd_var 0) (pda_cons (pd_ty T.str boot_str') pda_nil))) (pd_one (pd_eq (K := K) hr (pd_var 0) (pd_var 1)))))) pss_nilA)
  (pss_consA (ps_ifA (PDW.t (pw_orA (pt_ne (K := K) hr (pd_isinstance (K := K) T.isinstance (pda_cons (pd_var 1) (pda_cons (pd_ty T.tuple boot_tuple') pda_nil))) (pd_isinstance (K := K) T.isinstance (pda_cons (pd_var 0) (pda_cons (pd_ty T.tuple boot_tuple') pda_nil)))) (pw_or1A (pt_ne (K := K) hr (pd_isinstance (K := K) T.isinstance (pda_cons (pd_var 1) (pda_cons (pd_ty T.list boot_list') pda_nil))) (pd_isinstance (K := K) T.isinstance (pda_cons (pd_var 0) (pda_cons (pd_ty T.list boot_list') pda_nil))))))) (pss_oneA (ps_retA pd_bl)) pss_nilA)
  (pss_consA (ps_ifA (pt_ne (K := K) hr (pd_len (K := K) T.len (pda_cons (pd_var 0) pda_nil)) (pd_len (K := K) T.len (pda_cons (pd_var 1) pda_nil))) (pss_oneA (ps_retA pd_bl)) pss_nilA)
  (pss_consA (ps_forA (pi_range1A T.range (pda_cons (pd_len (K := K) T.len (pda_cons (pd_var 1) pda_nil)) pda_nil)) (pg_nameA 2 sc_law_alike.nd) (pss_oneA (ps_ifA (pt_notA (pt_v (pd_call c_law_alike hr (by omega) (pda_cons (pd_ix (K := K) (pd_var 0) (pd_var 2)) (pda_cons (pd_ix (K := K) (pd_var 1) (pd_var 2)) pda_nil))))) (pss_oneA (ps_retA pd_bl)) pss_nilA)) PassesOwn.never)
  (pss_oneA (ps_retA pd_bl))))))))), ?_⟩
    cases x with
    | bool _ => cases ok
    | dict _ => cases ok
    | none =>
      walk_at "wp"
      simp only [Bool.false_eq_true, Bool.true_eq_false, reduceCtorEq, false_implies, true_implies, and_true, true_and, Bool.not_false, Bool.not_true, decide_true, if_true, if_false]
      exact hQ
    | int i =>
      walk_at "wp"
      simp only [Bool.false_eq_true, Bool.true_eq_false, reduceCtorEq, false_implies, true_implies, and_true, true_and, Bool.not_false, Bool.not_true, decide_true, if_true, if_false]
      exact hQ
    | str z =>
      walk_at "wp"
      simp only [Bool.false_eq_true, Bool.true_eq_false, reduceCtorEq, false_implies, true_implies, and_true, true_and, Bool.not_false, Bool.not_true, decide_true, if_true, if_false]
      exact hQ
    | list xs =>
      walk_at "wp"
      simp only [Bool.false_eq_true, Bool.true_eq_false, reduceCtorEq, false_implies, true_implies, and_true, true_and, Bool.not_false, Bool.not_true, decide_true, if_true, if_false]
      have ok2 : okAll xs = true ∧ xs.length ≤ 100000 := by
        have z : (decide (xs.length ≤ 100000) && okAll xs) = true := ok
        rw [Bool.and_eq_true] at z
        exact ⟨z.2, of_decide_eq_true z.1⟩
      have dp2 : ∀ x ∈ xs, PyData.depth x < t := fun x hx => by
        have h1 := depth_mem x hx
        have h2 : PyData.depthAll xs + 1 < t + 1 := by simpa only [PyData.depth, Nat.add_comm] using dp
        omega
      have z := ok2.2
      refine ⟨by omega, by omega, fun i ρ => ∃ a, ρ = [.d (.list xs), .d (.list xs), a], ⟨_, rfl⟩, fun i d ρ hd hI => ?_, fun ρ hI => ?_⟩
      · obtain ⟨hi, rfl⟩ := rgD0_get hd
        obtain ⟨a, rfl⟩ := hI
        walk_at "wp"
        refine ⟨_, atI_some hi, _, atI_some hi, _, rfl, okAll_mem ok2.1 _ (List.getElem_mem hi), dp2 _ (List.getElem_mem hi), ?_⟩
        walk_at "wp"
        exact ⟨fun z => (by cases z), fun _ => ⟨_, rfl⟩⟩
      · obtain ⟨a, rfl⟩ := hI
        walk_at "wp"
        exact hQ
    | tuple xs =>
      walk_at "wp"
      simp only [Bool.false_eq_true, Bool.true_eq_false, reduceCtorEq, false_implies, true_implies, and_true, true_and, Bool.not_false, Bool.not_true, decide_true, if_true, if_false]
      have ok2 : okAll xs = true ∧ xs.length ≤ 100000 := by
        have z : (decide (xs.length ≤ 100000) && okAll xs) = true := ok
        rw [Bool.and_eq_true] at z
        exact ⟨z.2, of_decide_eq_true z.1⟩
      have dp2 : ∀ x ∈ xs, PyData.depth x < t := fun x hx => by
        have h1 := depth_mem x hx
        have h2 : PyData.depthAll xs + 1 < t + 1 := by simpa only [PyData.depth, Nat.add_comm] using dp
        omega
      have z := ok2.2
      refine ⟨by omega, by omega, fun i ρ => ∃ a, ρ = [.d (.tuple xs), .d (.tuple xs), a], ⟨_, rfl⟩, fun i d ρ hd hI => ?_, fun ρ hI => ?_⟩
      · obtain ⟨hi, rfl⟩ := rgD0_get hd
        obtain ⟨a, rfl⟩ := hI
        walk_at "wp"
        refine ⟨_, atI_some hi, _, atI_some hi, _, rfl, okAll_mem ok2.1 _ (List.getElem_mem hi), dp2 _ (List.getElem_mem hi), ?_⟩
        walk_at "wp"
        exact ⟨fun z => (by cases z), fun _ => ⟨_, rfl⟩⟩
      · obtain ⟨a, rfl⟩ := hI
        walk_at "wp"
        exact hQ

/-! ### reasons as trees -/
inductive Why where
  | word (s : Bool)
  | tie (e : Int)
  | cases (rows : List (Nat × Why))
mutual
def Why.toD : Why → PyData
  | .word s => .tuple [.str (if s then "mark" else "many")]
  | .tie e => .tuple [.str "tie", .int e]
  | .cases rows => .tuple [.str "cases", .tuple (Why.toDs rows)]
def Why.toDs : List (Nat × Why) → List PyData
  | [] => []
  | (q, w) :: r => .tuple [nI q, w.toD] :: Why.toDs r
end
mutual
def Why.rank : Why → Nat
  | .word _ => 0
  | .tie _ => 0
  | .cases rows => Why.ranks rows + 1
def Why.ranks : List (Nat × Why) → Nat
  | [] => 0
  | (_, w) :: r => max w.rank (Why.ranks r)
end
mutual
/-- is_shown's answer -/
def shown (y1 y2 : Y) (ns : List Nat) (q : Nat) : Why → Bool
  | .word s => s && !decide (y1.m ns.length = y2.m q)
  | .tie e => decide (0 ≤ e) && (decide (e < (ns.length : Int)) && !decide (y1.k e.toNat ns.length = y2.k (ns.getD e.toNat 0) q))
  | .cases rows => caseOk y1 y2 (ns ++ [q]) rows
def caseOk (y1 y2 : Y) (ns : List Nat) (rows : List (Nat × Why)) : Bool :=
  decide (ns.length < y1.n) && (decide (rows.map (·.1) = (List.range y1.n).filter fun q => !decide (q ∈ ns)) && allShown y1 y2 ns rows)
def allShown (y1 y2 : Y) (ns : List Nat) : List (Nat × Why) → Bool
  | [] => true
  | (q, w) :: r => shown y1 y2 ns q w && allShown y1 y2 ns r
end
mutual
def Why.fit : Why → Bool
  | .word _ => true
  | .tie _ => true
  | .cases rows => decide (rows.length ≤ 1000) && Why.fits rows
def Why.fits : List (Nat × Why) → Bool
  | [] => true
  | (_, w) :: r => w.fit && Why.fits r
end
def rowD (r : Nat × Why) : PyData := .tuple [nI r.1, r.2.toD]
theorem toDs_map : ∀ rows : List (Nat × Why), Why.toDs rows = rows.map rowD
  | [] => rfl
  | (q, w) :: r => by rw [Why.toDs, toDs_map r]; rfl
theorem fits_mem : ∀ {rows : List (Nat × Why)}, Why.fits rows = true → ∀ r ∈ rows, r.2.fit = true
  | [], _, x, h => by simp at h
  | (q, w) :: t, h, x, hx => by
    rw [Why.fits, Bool.and_eq_true] at h
    rcases List.mem_cons.mp hx with z | z
    · rw [z]; exact h.1
    · exact fits_mem h.2 x z
theorem ranks_mem : ∀ {rows : List (Nat × Why)}, ∀ r ∈ rows, r.2.rank ≤ Why.ranks rows
  | [], x, h => by simp at h
  | (q, w) :: t, x, hx => by
    rw [Why.ranks]
    rcases List.mem_cons.mp hx with z | z
    · rw [z]; exact Nat.le_max_left _ _
    · exact Nat.le_trans (ranks_mem x z) (Nat.le_max_right _ _)
theorem so_mark : PyData.strOk ("mark" : Str) = true := by decide +kernel
theorem so_many : PyData.strOk ("many" : Str) = true := by decide +kernel
theorem so_tie : PyData.strOk ("tie" : Str) = true := by decide +kernel
theorem so_cases : PyData.strOk ("cases" : Str) = true := by decide +kernel
mutual
theorem toD_lay : ∀ w : Why, PyData.canLay0 w.toD = true
  | .word s => by cases s <;> simp [Why.toD, PyData.canLay0, PyData.canLayAll0, so_mark, so_many]
  | .tie e => by simp [Why.toD, PyData.canLay0, PyData.canLayAll0, so_tie]
  | .cases rows => by simp [Why.toD, PyData.canLay0, PyData.canLayAll0, toDs_lay rows, so_cases]
theorem toDs_lay : ∀ rows : List (Nat × Why), PyData.canLayAll0 (Why.toDs rows) = true
  | [] => by simp [Why.toDs, PyData.canLayAll0]
  | (q, w) :: r => by simp [Why.toDs, PyData.canLay0, PyData.canLayAll0, toD_lay w, toDs_lay r]
end
mutual
theorem toD_depth : ∀ w : Why, PyData.depth w.toD ≤ 3 * w.rank + 2
  | .word s => by simp [Why.toD, PyData.depth, PyData.depthAll, Why.rank]
  | .tie e => by simp [Why.toD, PyData.depth, PyData.depthAll, Why.rank]
  | .cases rows => by
    have := toDs_depth rows
    simp only [Why.toD, PyData.depth, PyData.depthAll, Why.rank]
    omega
theorem toDs_depth : ∀ rows : List (Nat × Why), PyData.depthAll (Why.toDs rows) ≤ 3 * Why.ranks rows + 3
  | [] => by simp [Why.toDs, PyData.depthAll]
  | (q, w) :: r => by
    have h1 := toD_depth w
    have h2 := toDs_depth r
    simp only [Why.toDs, PyData.depth, PyData.depthAll, Why.ranks]
    omega
end
theorem shaped_rows {rows : List (Nat × Why)} (h : Why.ranks rows ≤ 18) : SeqAt.shaped (.list (Why.toDs rows)) = true := by
  have h1 := toDs_depth rows
  show (PyData.canLay0 (.list (Why.toDs rows)) && decide (PyData.depth (.list (Why.toDs rows)) ≤ 64)) = true
  rw [Bool.and_eq_true]
  refine ⟨?_, decide_eq_true ?_⟩
  · simp only [PyData.canLay0]; exact toDs_lay rows
  · simp only [PyData.depth]; omega
theorem ranks_filter (f : Nat × Why → Bool) : ∀ rows : List (Nat × Why), Why.ranks (rows.filter f) ≤ Why.ranks rows
  | [] => by simp [Why.ranks]
  | (q, w) :: r => by
    have := ranks_filter f r
    rw [List.filter_cons]
    split
    · simp only [Why.ranks]; omega
    · simp only [Why.ranks]; omega
theorem eqv_empty (xs : List PyData) : PyData.eqv (.list xs) (.list []) = xs.isEmpty := by
  cases xs <;> simp [PyData.eqv, PyData.eqvAll]
theorem allShown_filter (y1 y2 : Y) (ns : List Nat) : ∀ rows : List (Nat × Why), (rows.filter fun r => !shown y1 y2 ns r.1 r.2).isEmpty = allShown y1 y2 ns rows
  | [] => by simp [allShown]
  | (q, w) :: r => by
    have ih := allShown_filter y1 y2 ns r
    rw [List.filter_cons, allShown]
    cases h : shown y1 y2 ns q w
    · simp
    · simp [ih]
def isCase (y1 y2 : Y) (ns : List Nat) : Why → Bool
  | .cases rows => caseOk y1 y2 ns rows
  | _ => false
def leftOf (n : Nat) (ns : List Nat) : List Nat := (List.range n).filter fun q => !decide (q ∈ ns)
/-! ### how wide -/
mutual
def Why.wide : Why → Nat
  | .word _ => 0
  | .tie _ => 0
  | .cases rows => max rows.length (Why.wides rows)
def Why.wides : List (Nat × Why) → Nat
  | [] => 0
  | (_, w) :: r => max w.wide (Why.wides r)
end
mutual
theorem fit_of : ∀ w : Why, w.wide ≤ 1000 → w.fit = true
  | .word _, _ => rfl
  | .tie _, _ => rfl
  | .cases rows, h => by
    rw [Why.wide] at h
    have := fits_of rows (by omega)
    rw [Why.fit, this, decide_eq_true (by omega)]
    rfl
theorem fits_of : ∀ rows : List (Nat × Why), Why.wides rows ≤ 1000 → Why.fits rows = true
  | [], _ => rfl
  | (q, w) :: r, h => by
    rw [Why.wides] at h
    rw [Why.fits, fit_of w (by omega), fits_of r (by omega)]
    rfl
end

/-! ### is_case, is_shown, shows -/
def spIsCase (t : Nat) : Spc := fun as Q => ∃ (y1 y2 : Y) (ns : List Nat) (w : Why), as = [yA y1, yA y2, .d (NL ns), .d w.toD] ∧ y1.n = y2.n ∧ y1.n ≤ 7 ∧ Pre y1.n ns ∧ w.rank ≤ t ∧ t ≤ 18 ∧ w.fit = true ∧ Q (.d (.bool (isCase y1 y2 ns w)))
def spIsShown (t : Nat) : Spc := fun as Q => ∃ (y1 y2 : Y) (ns : List Nat) (q : Nat) (w : Why), as = [yA y1, yA y2, .d (NL ns), .d (nI q), .d w.toD] ∧ y1.n = y2.n ∧ y1.n ≤ 7 ∧ Pre y1.n ns ∧ q < y1.n ∧ q ∉ ns ∧ w.rank ≤ t ∧ t ≤ 18 ∧ w.fit = true ∧ Q (.d (.bool (shown y1 y2 ns q w)))
def showsB (y1 y2 : Y) : Why → Bool
  | .word false => !decide (y1.n = y2.n)
  | w => decide (y1.n = y2.n) && isCase y1 y2 [] w
def spShows : Spc := fun as Q => ∃ (y1 y2 : Y) (w : Why), as = [yA y1, yA y2, .d w.toD] ∧ y1.n ≤ 7 ∧ w.rank ≤ 10 ∧ w.fit = true ∧ Q (.d (.bool (showsB y1 y2 w)))
theorem pre_nil (n : Nat) : Pre n [] := ⟨.nil, by simp, Nat.zero_le _⟩
def alikeD (y1 y2 : Y) : PyData := if y1.n = y2.n then (match firstM y1 y2 [] with
  | some l => .tuple [.str "renaming", NL l]
  | none => .tuple [.str "apart", casesD y1 y2 y1.n []]) else .tuple [.str "apart", .tuple [.str "many"]]
def spAlikeY : Spc := fun as Q => ∃ (y1 y2 : Y), as = [yA y1, yA y2] ∧ y1.n ≤ 7 ∧ Q (.d (alikeD y1 y2))
/-! ### two rows -/
theorem cut_to {α : Type} (xs : List α) (k : Nat) : cutD xs none (some (k : Int)) = xs.take k := by
  unfold cutD
  rw [HT.sIx_none, HT.sIx_nat, List.drop_zero, Nat.sub_zero, ← List.take_eq_take_min]
theorem cut_from {α : Type} (xs : List α) (k : Nat) : cutD xs (some (k : Int)) none = xs.drop k := by
  unfold cutD
  rw [HT.sIx_none, HT.sIx_nat]
  by_cases h : k ≤ xs.length
  · rw [Nat.min_eq_left h, List.take_of_length_le (by rw [List.length_drop]; exact Nat.le_refl _)]
  · rw [Nat.min_eq_right (by omega), List.drop_of_length_le (Nat.le_refl _), List.drop_of_length_le (by omega)]
    simp
abbrev pD (p : Nat × Nat) : PyData := .tuple [nI p.1, nI p.2]
theorem eqv_pD (p q : Nat × Nat) : PyData.eqv (pD p) (pD q) = decide (p = q) := by
  have h1 : plainD (pD p) = true := by simp [plainD, plainAll]
  have h2 : plainD (pD q) = true := by simp [plainD, plainAll]
  rw [Bool.eq_iff_iff, eqv_iff _ _ h1 h2, decide_eq_true_iff]
  constructor
  · intro h
    injection h with h
    simp only [List.cons.injEq, PyData.int.injEq, and_true] at h
    exact Prod.ext (by omega) (by omega)
  · rintro rfl; rfl
theorem shaped_pD (p : Nat × Nat) : SeqAt.shaped (pD p) = true := by
  simp [SeqAt.shaped, PyData.canLay0, PyData.canLayAll0, PyData.depth, PyData.depthAll]
theorem shaped_pDs (ps : List (Nat × Nat)) : SeqAt.shaped (.list (ps.map pD)) = true := by
  have h1 : PyData.canLayAll0 (ps.map pD) = true := by
    induction ps with
    | nil => simp [PyData.canLayAll0]
    | cons a l ih => simp [PyData.canLayAll0, PyData.canLay0, ih]
  have h2 : PyData.depthAll (ps.map pD) ≤ 3 := by
    clear h1
    induction ps with
    | nil => simp [PyData.depthAll]
    | cons a l ih =>
      rw [List.map_cons]
      simp only [PyData.depthAll, PyData.depth]
      omega
  show (PyData.canLay0 (.list (ps.map pD)) && decide (PyData.depth (.list (ps.map pD)) ≤ 64)) = true
  rw [Bool.and_eq_true]
  refine ⟨by simp only [PyData.canLay0]; exact h1, decide_eq_true ?_⟩
  simp only [PyData.depth]
  omega
theorem shaped_ties (ts : List Tie) : SeqAt.shaped (.list (ts.map tieD)) = true := by
  have h1 : PyData.canLayAll0 (ts.map tieD) = true := by
    induction ts with
    | nil => simp [PyData.canLayAll0]
    | cons a l ih => simp [PyData.canLayAll0, PyData.canLay0, ih]
  have h2 : PyData.depthAll (ts.map tieD) ≤ 3 := by
    clear h1
    induction ts with
    | nil => simp [PyData.depthAll]
    | cons a l ih =>
      rw [List.map_cons]
      simp only [PyData.depthAll, PyData.depth]
      omega
  show (PyData.canLay0 (.list (ts.map tieD)) && decide (PyData.depth (.list (ts.map tieD)) ≤ 64)) = true
  rw [Bool.and_eq_true]
  refine ⟨by simp only [PyData.canLay0]; exact h1, decide_eq_true ?_⟩
  simp only [PyData.depth]
  omega
theorem any_pD (ts : List Tie) (p : Nat × Nat) : ((ts.map fun t => pD (t.1, t.2.1)).any fun z => PyData.eqv z (pD p)) = ts.any fun t => decide ((t.1, t.2.1) = p) := by
  rw [List.any_map]
  congr 1
  funext t
  exact eqv_pD _ _
/-- a pair that is free of ties -/
def FreeP (y : Y) (p : Nat × Nat) : Prop := p.1 < p.2 ∧ p.2 < y.n ∧ ∀ t ∈ y.ties, ¬ (t.1 = p.1 ∧ t.2.1 = p.2)
/-- a tie is moved to a free pair -/
theorem moved_ok {y : Y} (ok : y.Ok) {i : Nat} {t : Tie} (et : y.ties[i]? = some t) {p : Nat × Nat} (fp : FreeP y p) {us : List (List Int)}
    (pm : us.Perm ((y.ties.take i ++ y.ties.drop (i + 1) ++ [(p.1, p.2, t.2.2)]).map tI)) (so : us.Pairwise fun x y => TS.code 16 x ≤ TS.code 16 y) : ∃ ts : List Tie, us.map intsD = ts.map tieD ∧ STies y.n ts := by
  have h7 := ok.n7
  have st := ok.sties
  have sub : (y.ties.take i ++ y.ties.drop (i + 1)).Sublist y.ties := by
    have h := List.take_append_drop i y.ties
    conv => rhs; rw [← h]
    refine List.Sublist.append (List.Sublist.refl _) ?_
    rw [← List.drop_drop]
    exact List.drop_sublist _ _
  have bt := st.bd t (List.mem_of_getElem? et)
  have bd : ∀ u ∈ y.ties.take i ++ y.ties.drop (i + 1) ++ [(p.1, p.2, t.2.2)], u.1 < u.2.1 ∧ u.2.1 < y.n ∧ 1 ≤ u.2.2 ∧ u.2.2 ≤ 9 := fun u hu => by
    rcases List.mem_append.mp hu with z | z
    · exact st.bd u (sub.mem z)
    · have : u = (p.1, p.2, t.2.2) := by simpa using z
      subst this
      exact ⟨fp.1, fp.2.1, bt.2.2.1, bt.2.2.2⟩
  obtain ⟨ts, rfl, p2, s2⟩ := sorted_ties (fun u hu => by have := bd u hu; omega) (by
    rw [List.pairwise_append]
    refine ⟨(st.so.sublist sub).imp fun {a b} r z => ?_, by simp, fun a ha b hb => ?_⟩
    · unfold ltT at r
      omega
    · have : b = (p.1, p.2, t.2.2) := by simpa using hb
      subst this
      exact fp.2.2 a (sub.mem ha)) pm so
  exact ⟨ts, by rw [tieD_ints], fun u hu => bd u (p2.mem_iff.mp hu), s2⟩
def spTwo : Spc := fun as Q => ∃ most : Nat, as = [.box, .d (nI most)] ∧ 1 ≤ most ∧ most ≤ 7 ∧ ∀ y1 y2 : Y, y1.Ok → y2.Ok → y1.n ≤ most → y2.n ≤ most → Q (.d (.tuple [rowsD y1, rowsD y2]))
/-! ### place by place, and depth first -/
theorem gd_good {y1 y2 : Y} {ns : List Nat} {q : Nat} : gd y1 y2 ns.length ns q ns.length = good y1 y2 ns q := by
  unfold gd good clashW
  by_cases h : y1.m ns.length = y2.m q
  · rw [if_pos h, decide_eq_true h, Bool.and_true]
    congr 1
    rw [Option.isNone_map]
    cases e : (List.range ns.length).find? fun e => decide (y1.k e ns.length ≠ y2.k (ns.getD e 0) q) with
    | none =>
      rw [List.find?_eq_none] at e
      simp only [Option.isNone_none, List.all_eq_true]
      intro x hx
      have := e x hx
      simpa using this
    | some x =>
      have h1 := List.find?_some e
      have h2 := List.mem_of_find?_eq_some e
      simp only [Option.isNone_some]
      rw [List.all_eq_false]
      exact ⟨x, h2, by simpa using h1⟩
  · rw [if_neg h, decide_eq_false h]
    simp
def ex1 (y1 y2 : Y) (ns : List Nat) : List (List Nat) := ext y1 y2 ns.length ns y1.n
theorem some_filter {α β γ : Type} (f : α → Option β) (g : β → Option γ) : ∀ l : List α, (l.filterMap f).findSome? g = l.findSome? fun a => (f a).bind g
  | [] => rfl
  | a :: l => by
    rw [List.filterMap_cons, List.findSome?_cons]
    cases h : f a with
    | none => simp only [Option.bind_none]; exact some_filter f g l
    | some b =>
      simp only [Option.bind_some]
      rw [List.findSome?_cons, some_filter f g l]
def desc (y1 y2 : Y) : Nat → List Nat → List (List Nat)
  | 0, ns => [ns]
  | t + 1, ns => (ex1 y1 y2 ns).flatMap (desc y1 y2 t)
theorem led_desc (y1 y2 : Y) : ∀ (t : Nat) (ns : List Nat), led y1 y2 t ns = (desc y1 y2 t ns).head?
  | 0, _ => rfl
  | t + 1, ns => by
    rw [led, desc, List.head?_flatMap]
    unfold ex1 ext
    rw [some_filter]
    congr 1
    funext q
    rw [gd_good]
    by_cases h : good y1 y2 ns q = true
    · rw [if_pos h, if_pos h, led_desc y1 y2 t]; rfl
    · rw [if_neg h, if_neg h]; rfl
theorem flat_congr {α β : Type} {f g : α → List β} : ∀ {l : List α}, (∀ x ∈ l, f x = g x) → l.flatMap f = l.flatMap g
  | [], _ => rfl
  | x :: l, h => by
    rw [List.flatMap_cons, List.flatMap_cons, h x List.mem_cons_self, flat_congr fun y hy => h y (List.mem_cons_of_mem _ hy)]
theorem lev_desc (y1 y2 : Y) : ∀ (t p : Nat), (lev y1 y2 p).flatMap (desc y1 y2 t) = lev y1 y2 (p + t)
  | 0, p => by
    have : desc y1 y2 0 = fun ns => [ns] := by funext ns; rfl
    rw [this]
    simp
  | t + 1, p => by
    have e : lev y1 y2 (p + 1) = (lev y1 y2 p).flatMap (ex1 y1 y2) := flat_congr fun ns h => by
      unfold ex1
      rw [(lev_pre h).1]
    have e2 : (lev y1 y2 p).flatMap (desc y1 y2 (t + 1)) = ((lev y1 y2 p).flatMap (ex1 y1 y2)).flatMap (desc y1 y2 t) := by
      rw [List.flatMap_assoc]
      rfl
    rw [e2, ← e, lev_desc y1 y2 t (p + 1)]
    congr 1
    omega
/-- the first found is the head of all -/
theorem first_lev {y1 y2 : Y} (h : y1.n = y2.n) : firstM y1 y2 [] = (lev y1 y2 y1.n).head? := by
  unfold firstM
  rw [if_pos h, if_pos (by rfl), led_desc]
  have := lev_desc y1 y2 y1.n 0
  simp only [lev, List.flatMap_cons, List.flatMap_nil, List.append_nil, Nat.zero_add] at this
  rw [← this]
  rfl
theorem getD_left {l : List Nat} {q i : Nat} (h : i < l.length) : (l ++ [q]).getD i 0 = l.getD i 0 := by
  simp [List.getD, List.getElem?_append_left h]
theorem getD_last {l : List Nat} {q : Nat} : (l ++ [q]).getD l.length 0 = q := by
  simp [List.getD]
theorem lev_iso {y1 y2 : Y} : ∀ {p : Nat} {l : List Nat}, l ∈ lev y1 y2 p → ∀ i, i < p → y1.m i = y2.m (l.getD i 0) ∧ ∀ e, e < i → y1.k e i = y2.k (l.getD e 0) (l.getD i 0)
  | 0, _, _, i, hi => by omega
  | p + 1, l, h, i, hi => by
    obtain ⟨ms, hm, h2⟩ := List.mem_flatMap.mp h
    obtain ⟨q, hq, e⟩ := List.mem_filterMap.mp h2
    obtain ⟨ln, pre⟩ := lev_pre hm
    split at e
    · rename_i hg
      cases e
      by_cases z : i < p
      · have ih := lev_iso hm i z
        rw [getD_left (by omega)]
        refine ⟨ih.1, fun e he => ?_⟩
        rw [getD_left (by omega)]
        exact ih.2 e he
      · have z : i = ms.length := by omega
        subst z
        rw [getD_last]
        unfold gd at hg
        rw [Bool.and_eq_true, Bool.and_eq_true, List.all_eq_true] at hg
        rw [← ln] at hg
        refine ⟨of_decide_eq_true hg.1.2, fun e he => ?_⟩
        rw [getD_left he]
        exact of_decide_eq_true (hg.2 e (List.mem_range.mpr he))
    · cases e
theorem lev_nm {y1 y2 : Y} {l : List Nat} (h : l ∈ lev y1 y2 y1.n) : Nm y1.n l := ⟨(lev_pre h).1, (lev_pre h).2.nd, (lev_pre h).2.lt⟩
/-- what is found renames the one yard into the other -/
theorem ren_lev {y1 y2 : Y} (ok1 : y1.Ok) (ok2 : y2.Ok) (hn : y1.n = y2.n) {l : List Nat} (h : l ∈ lev y1 y2 y1.n) : rowsD (ren y1 l) = rowsD y2 := by
  have nm := lev_nm h
  have iso := lev_iso h
  have em : ∀ a, a < y1.n → y1.m (l.idxOf a) = y2.m a := fun a ha => by
    have := (iso _ (nm.idx_lt ha)).1
    rw [nm.get_idx ha] at this
    exact this
  have ek : ∀ a b, a < y1.n → b < y1.n → y1.k (l.idxOf a) (l.idxOf b) = y2.k a b := fun a b ha hb => by
    have ia := nm.idx_lt ha
    have ib := nm.idx_lt hb
    have ga := nm.get_idx ha
    have gb := nm.get_idx hb
    rcases Nat.lt_trichotomy (l.idxOf a) (l.idxOf b) with z | z | z
    · have := (iso _ ib).2 _ z
      rw [ga, gb] at this
      exact this
    · have e : a = b := by rw [← ga, ← gb, z]
      subst e
      rw [ok1.dg, ok2.dg]
    · have := (iso _ ia).2 _ z
      rw [ga, gb] at this
      rw [ok1.sy, this, ok2.sy]
  have e1 : (ren y1 l).ml = y2.ml := by
    show (List.range y1.n).map (fun a => y1.m (l.idxOf a)) = (List.range y2.n).map y2.m
    rw [← hn]
    exact List.map_congr_left fun a ha => em a (by simpa using ha)
  have e2 : (ren y1 l).ties = y2.ties := by
    refine sorted_ext ltT_irr ltT_asym (tiesOf_pw _ _ _) (tiesOf_pw _ _ _) fun x => ?_
    show x ∈ tiesOf _ y1.n y1.n ↔ x ∈ tiesOf y2.k y2.n y2.n
    rw [← hn, mem_tiesOf, mem_tiesOf]
    constructor
    · rintro ⟨h1, h2, h3, h4, h5⟩
      exact ⟨h1, h2, h3, by rw [h4]; exact ek _ _ h1 h3, h5⟩
    · rintro ⟨h1, h2, h3, h4, h5⟩
      exact ⟨h1, h2, h3, by rw [h4]; exact (ek _ _ h1 h3).symm, h5⟩
  show PyData.tuple [.list ((ren y1 l).ml.map PyData.int), .list ((ren y1 l).ties.map tieD)] = PyData.tuple [.list (y2.ml.map PyData.int), .list (y2.ties.map tieD)]
  rw [e1, e2]
/-! ### where nothing is found, the reasons are shown -/
theorem clash_why {y1 y2 : Y} {ns : List Nat} {q : Nat} {o : Option Nat} (h : clashW y1 y2 ns ns.length q = some o) : ∃ w : Why, w.toD = whyD (some o) ∧ w.rank = 0 ∧ w.wide = 0 ∧ shown y1 y2 ns q w = true := by
  unfold clashW at h
  by_cases z : y1.m ns.length = y2.m q
  · rw [if_pos z] at h
    obtain ⟨e, h1, rfl⟩ := Option.map_eq_some_iff.mp h
    have h2 := List.find?_some h1
    have h3 := List.mem_range.mp (List.mem_of_find?_eq_some h1)
    have h2 := of_decide_eq_true h2
    refine ⟨.tie e, by simp [Why.toD, whyD], rfl, rfl, ?_⟩
    simp only [shown, Int.toNat_natCast]
    rw [decide_eq_true (show (0 : Int) ≤ (e : Int) by omega), decide_eq_true (show (e : Int) < (ns.length : Int) by omega), decide_eq_false h2]
    rfl
  · rw [if_neg z] at h
    cases h
    refine ⟨.word true, by simp [Why.toD, whyD], rfl, rfl, ?_⟩
    simp [shown, z]
theorem ranks_snoc (r : Nat × Why) : ∀ rows, Why.ranks (rows ++ [r]) = max (Why.ranks rows) r.2.rank
  | [] => by obtain ⟨q, w⟩ := r; simp [Why.ranks]
  | (q, w) :: t => by
    rw [List.cons_append, Why.ranks, Why.ranks, ranks_snoc r t, Nat.max_assoc]
theorem wides_snoc (r : Nat × Why) : ∀ rows, Why.wides (rows ++ [r]) = max (Why.wides rows) r.2.wide
  | [] => by obtain ⟨q, w⟩ := r; simp [Why.wides]
  | (q, w) :: t => by
    rw [List.cons_append, Why.wides, Why.wides, wides_snoc r t, Nat.max_assoc]
theorem allShown_snoc (y1 y2 : Y) (ns : List Nat) (r : Nat × Why) : ∀ rows, allShown y1 y2 ns (rows ++ [r]) = (allShown y1 y2 ns rows && shown y1 y2 ns r.1 r.2)
  | [] => by obtain ⟨q, w⟩ := r; simp [allShown]
  | (q, w) :: t => by
    rw [List.cons_append, allShown, allShown, allShown_snoc y1 y2 ns r t, Bool.and_assoc]
theorem isCase_shown {y1 y2 : Y} {ns : List Nat} {q : Nat} {w : Why} (h : isCase y1 y2 (ns ++ [q]) w = true) : shown y1 y2 ns q w = true := by
  cases w with
  | word b => cases h
  | tie e => cases h
  | cases rows =>
    rw [shown]
    exact h
theorem some_none {β : Type} {n : Nat} {f : Nat → Option β} (h : (List.range n).findSome? f = none) : ∀ q, q < n → f q = none := fun q hq => List.findSome?_eq_none_iff.mp h q (List.mem_range.mpr hq)
theorem tree {y1 y2 : Y} (h7 : y1.n ≤ 7) : ∀ (t : Nat) (ns : List Nat), Pre y1.n ns → ns.length + t = y1.n → led y1 y2 t ns = none → ∃ w : Why, w.toD = casesD y1 y2 t ns ∧ w.rank ≤ t ∧ w.wide ≤ 7 ∧ isCase y1 y2 ns w = true
  | 0, ns, _, _, h => by cases h
  | t + 1, ns, pre, hl, h => by
    have hnone := some_none (by rw [led] at h; exact h)
    have rows : ∀ i, i ≤ y1.n → ∃ rows : List (Nat × Why), Why.toDs rows = caseRows y1 y2 (casesD y1 y2 t) ns i ∧ rows.map (·.1) = ((List.range i).filter fun q => !decide (q ∈ ns)) ∧ Why.ranks rows ≤ t ∧ Why.wides rows ≤ 7 ∧ allShown y1 y2 ns rows = true ∧ rows.length ≤ i := by
      intro i
      induction i with
      | zero => exact fun _ => ⟨[], rfl, rfl, Nat.zero_le _, Nat.zero_le _, by rw [allShown], Nat.le_refl _⟩
      | succ i ih =>
        intro hi
        obtain ⟨rows, e1, e2, e3, e4, e5, e6⟩ := ih (by omega)
        by_cases hm : i ∈ ns
        · refine ⟨rows, by rw [caseRows_in hm, e1], ?_, e3, e4, e5, by omega⟩
          rw [List.range_succ, List.filter_append, e2]
          simp [hm]
        · have one : ∃ w : Why, caseRows y1 y2 (casesD y1 y2 t) ns (i + 1) = caseRows y1 y2 (casesD y1 y2 t) ns i ++ [.tuple [nI i, w.toD]] ∧ w.rank ≤ t ∧ w.wide ≤ 7 ∧ shown y1 y2 ns i w = true := by
            cases c : clashW y1 y2 ns ns.length i with
            | some o =>
              obtain ⟨w, w1, w2, w3, w4⟩ := clash_why c
              refine ⟨w, ?_, by omega, by omega, w4⟩
              rw [caseRows_why hm (by rw [c]; rfl), w1, c]
            | none =>
              have hg : good y1 y2 ns i = true := by unfold good; rw [c]; simp [hm]
              have hz := hnone i (by omega)
              rw [if_pos hg] at hz
              obtain ⟨w, w1, w2, w3, w4⟩ := tree h7 t (ns ++ [i]) (pre.go (by omega) hm).1 (by simp; omega) hz
              refine ⟨w, ?_, w2, w3, isCase_shown w4⟩
              rw [caseRows_sub hm (by rw [c]; rfl), w1]
          obtain ⟨w, w1, w2, w3, w4⟩ := one
          refine ⟨rows ++ [(i, w)], ?_, ?_, ?_, ?_, ?_, by simp; omega⟩
          · rw [w1, toDs_map, List.map_append, ← toDs_map, e1]; rfl
          · rw [List.range_succ, List.filter_append, List.map_append, e2]
            simp [hm]
          · rw [ranks_snoc]; exact Nat.max_le.mpr ⟨e3, w2⟩
          · rw [wides_snoc]; exact Nat.max_le.mpr ⟨e4, w3⟩
          · rw [allShown_snoc, e5, w4]; rfl
    obtain ⟨rows, e1, e2, e3, e4, e5, e6⟩ := rows y1.n (Nat.le_refl _)
    refine ⟨.cases rows, ?_, ?_, ?_, ?_⟩
    · rw [Why.toD, e1, casesD]
    · rw [Why.rank]; omega
    · rw [Why.wide]; omega
    · rw [isCase, caseOk, decide_eq_true (show ns.length < y1.n by omega), decide_eq_true e2, e5]; rfl
/-- the tree of cases of two yards that are not alike -/
theorem tree0 {y1 y2 : Y} (h7 : y1.n ≤ 7) (n1 : 1 ≤ y1.n) (hn : y1.n = y2.n) (h : firstM y1 y2 [] = none) : ∃ w : Why, w.toD = casesD y1 y2 y1.n [] ∧ w.rank ≤ 7 ∧ w.fit = true ∧ showsB y1 y2 w = true := by
  unfold firstM at h
  rw [if_pos hn, if_pos (by rfl)] at h
  obtain ⟨w, w1, w2, w3, w4⟩ := tree h7 y1.n [] (pre_nil _) (by simp) h
  refine ⟨w, w1, by omega, fit_of w (by omega), ?_⟩
  cases w with
  | word b => cases w4
  | tie e => cases w4
  | cases rows =>
    show (decide (y1.n = y2.n) && isCase y1 y2 [] (.cases rows)) = true
    rw [decide_eq_true hn, w4]
    rfl

/-! ### plain data -/
theorem okAll_ints (l : List Nat) : okAll (l.map nI) = true := by
  induction l with
  | nil => rfl
  | cons a l ih => rw [List.map_cons, okAll, ih]; rfl
theorem okD_names {l : List Nat} (h : l.length ≤ 100000) : okD (NL l) = true := by
  show (decide ((l.map nI).length ≤ 100000) && okAll (l.map nI)) = true
  rw [okAll_ints, List.length_map, decide_eq_true h]
  rfl
mutual
theorem okD_why : ∀ w : Why, w.fit = true → okD w.toD = true
  | .word s, _ => by cases s <;> simp [Why.toD, okD, okAll]
  | .tie e, _ => by simp [Why.toD, okD, okAll]
  | .cases rows, h => by
    rw [Why.fit, Bool.and_eq_true] at h
    have h1 := okD_whys rows h.2
    have h2 := of_decide_eq_true h.1
    simp only [Why.toD, okD, okAll, h1]
    rw [toDs_map]
    simp
    omega
theorem okD_whys : ∀ rows : List (Nat × Why), Why.fits rows = true → okAll (Why.toDs rows) = true
  | [], _ => by rw [Why.toDs, okAll]
  | (q, w) :: r, h => by
    rw [Why.fits, Bool.and_eq_true] at h
    have h1 := okD_why w h.1
    have h2 := okD_whys r h.2
    simp [Why.toDs, okD, okAll, h1, h2]
end
theorem shaped_NLs (ls : List (List Nat)) : SeqAt.shaped (.list (ls.map NL)) = true := by
  have h1 : PyData.canLayAll0 (ls.map NL) = true := by
    induction ls with
    | nil => simp [PyData.canLayAll0]
    | cons a l ih => simp only [List.map_cons, PyData.canLayAll0, PyData.canLay0, ih, canLay_names, Bool.and_self]
  have h2 : PyData.depthAll (ls.map NL) ≤ 3 := by
    clear h1
    induction ls with
    | nil => simp [PyData.depthAll]
    | cons a l ih =>
      have := depth_names a
      rw [List.map_cons]
      simp only [PyData.depthAll, PyData.depth]
      omega
  show (PyData.canLay0 (.list (ls.map NL)) && decide (PyData.depth (.list (ls.map NL)) ≤ 64)) = true
  rw [Bool.and_eq_true]
  refine ⟨by simp only [PyData.canLay0]; exact h1, decide_eq_true ?_⟩
  simp only [PyData.depth]
  omega
theorem canLay_all : ∀ {xs : List PyData}, (∀ x ∈ xs, PyData.canLay0 x = true) → PyData.canLayAll0 xs = true
  | [], _ => by simp [PyData.canLayAll0]
  | x :: xs, h => by
    rw [PyData.canLayAll0, h x List.mem_cons_self, canLay_all fun y hy => h y (List.mem_cons_of_mem _ hy)]
    rfl
theorem depth_all {k : Nat} : ∀ {xs : List PyData}, (∀ x ∈ xs, PyData.depth x ≤ k) → PyData.depthAll xs ≤ k
  | [], _ => by simp [PyData.depthAll]
  | x :: xs, h => by
    have h1 := h x List.mem_cons_self
    have h2 := depth_all fun y hy => h y (List.mem_cons_of_mem _ hy)
    rw [PyData.depthAll]
    omega
theorem plain_all {xs : List PyData} (h : ∀ x ∈ xs, plainD x = true) : plainAll xs = true := (plainAll_iff xs).mpr h
theorem rowsD_lay (y : Y) : PyData.canLay0 (rowsD y) = true ∧ PyData.depth (rowsD y) ≤ 10 ∧ plainD (rowsD y) = true := by
  have a1 : PyData.canLayAll0 (y.ml.map PyData.int) = true := canLay_all fun x hx => by
    obtain ⟨i, _, rfl⟩ := List.mem_map.mp hx
    simp [PyData.canLay0]
  have a2 : PyData.canLayAll0 (y.ties.map tieD) = true := canLay_all fun x hx => by
    obtain ⟨i, _, rfl⟩ := List.mem_map.mp hx
    simp [PyData.canLay0, PyData.canLayAll0]
  have b1 : PyData.depthAll (y.ml.map PyData.int) ≤ 3 := depth_all fun x hx => by
    obtain ⟨i, _, rfl⟩ := List.mem_map.mp hx
    simp [PyData.depth]
  have b2 : PyData.depthAll (y.ties.map tieD) ≤ 3 := depth_all fun x hx => by
    obtain ⟨i, _, rfl⟩ := List.mem_map.mp hx
    simp [PyData.depth, PyData.depthAll]
  have c1 : plainAll (y.ml.map PyData.int) = true := plain_all fun x hx => by
    obtain ⟨i, _, rfl⟩ := List.mem_map.mp hx
    simp [plainD]
  have c2 : plainAll (y.ties.map tieD) = true := plain_all fun x hx => by
    obtain ⟨i, _, rfl⟩ := List.mem_map.mp hx
    simp [plainD, plainAll]
  refine ⟨?_, ?_, ?_⟩
  · simp only [PyData.canLay0, PyData.canLayAll0, a1, a2, Bool.and_self]
  · simp only [PyData.depth, PyData.depthAll]; omega
  · simp only [plainD, plainAll, c1, c2, Bool.and_self]
theorem shaped_rowsD (y : Y) : SeqAt.shaped (rowsD y) = true := by
  have h := rowsD_lay y
  show (PyData.canLay0 (rowsD y) && decide (PyData.depth (rowsD y) ≤ 64)) = true
  rw [h.1, decide_eq_true (by omega)]
  rfl
theorem eqv_rowsD (y : Y) : PyData.eqv (rowsD y) (rowsD y) = true := (eqv_iff _ _ (rowsD_lay y).2.2 (rowsD_lay y).2.2).mpr rfl
theorem dec_nat (a b : Nat) : decide ((a : Int) = (b : Int)) = decide (a = b) := by
  by_cases z : a = b
  · rw [decide_eq_true z, z]; simp
  · have : ¬ (a : Int) = (b : Int) := by omega
    rw [decide_eq_false z, decide_eq_false this]
theorem any_NL (ls : List (List Nat)) (l : List Nat) : ((ls.map NL).any fun z => PyData.eqv z (NL l)) = decide (l ∈ ls) := by
  induction ls with
  | nil => simp
  | cons a ls ih =>
    rw [List.map_cons, List.any_cons, ih, eqv_names]
    by_cases h : a = l
    · subst h; simp
    · have h2 : ¬ l = a := fun z => h z.symm
      simp [h, h2]

/-! ### the law -/
theorem okAll_intsT : ∀ l : List Int, okAll (l.map PyData.int) = true
  | [] => rfl
  | a :: l => by
    rw [List.map_cons, okAll, okAll_intsT l]
    rfl
theorem depth_intsT : ∀ l : List Int, PyData.depthAll (l.map PyData.int) ≤ 1
  | [] => by simp [PyData.depthAll]
  | a :: l => by
    have := depth_intsT l
    simp only [List.map_cons, PyData.depthAll, PyData.depth]
    omega
theorem okAll_tiesT : ∀ l : List Tie, okAll (l.map tieD) = true
  | [] => rfl
  | a :: l => by
    rw [List.map_cons, okAll, okAll_tiesT l]
    rfl
theorem depth_tiesT : ∀ l : List Tie, PyData.depthAll (l.map tieD) ≤ 3
  | [] => by simp [PyData.depthAll]
  | a :: l => by
    have := depth_tiesT l
    simp only [List.map_cons, PyData.depthAll, PyData.depth]
    omega
theorem rows_okT {y : Y} (ok : y.Ok) : okD (.list [.list (y.ml.map PyData.int), .list (y.ties.map tieD)]) = true ∧ PyData.depth (.list [.list (y.ml.map PyData.int), .list (y.ties.map tieD)]) < 40 := by
  have h7 := ok.n7
  have sz := ok.tok.sz
  have l7 : y.ml.length ≤ 100000 := by simp [Y.ml]; omega
  have a := depth_intsT y.ml
  have b := depth_tiesT y.ties
  refine ⟨?_, ?_⟩
  · show (decide (2 ≤ 100000) && ((decide ((y.ml.map PyData.int).length ≤ 100000) && okAll (y.ml.map PyData.int)) && ((decide ((y.ties.map tieD).length ≤ 100000) && okAll (y.ties.map tieD)) && true))) = true
    have e1 : (y.ml.map PyData.int).length ≤ 100000 := by rw [List.length_map]; exact l7
    have e2 : (y.ties.map tieD).length ≤ 100000 := by rw [List.length_map]; exact sz
    rw [okAll_intsT, okAll_tiesT, decide_eq_true e1, decide_eq_true e2]
    rfl
  · simp only [PyData.depth, PyData.depthAll]
    omega

/-! ### all renamings, in order -/
def ltL : List Nat → List Nat → Prop
  | [], _ => False
  | _ :: _, [] => False
  | a :: l, b :: m => a < b ∨ (a = b ∧ ltL l m)
theorem ltL_irr : ∀ l : List Nat, ¬ ltL l l
  | [], h => h
  | a :: l, h => by
    rcases h with h | h
    · omega
    · exact ltL_irr l h.2
theorem ltL_asym : ∀ l m : List Nat, ltL l m → ¬ ltL m l
  | [], _, h, _ => h
  | _ :: _, [], h, _ => h
  | a :: l, b :: m, h, k => by
    rcases h with h | h
    · rcases k with k | k <;> omega
    · rcases k with k | k
      · omega
      · exact ltL_asym l m h.2 k.2
theorem ltL_trans : ∀ l m n : List Nat, ltL l m → ltL m n → ltL l n
  | [], _, _, h, _ => h.elim
  | _ :: _, [], _, h, _ => h.elim
  | _ :: _, _ :: _, [], _, h => h.elim
  | a :: l, b :: m, c :: n, h, k => by
    rcases h with h | h <;> rcases k with k | k
    · exact .inl (by omega)
    · exact .inl (by omega)
    · exact .inl (by omega)
    · exact .inr ⟨by omega, ltL_trans l m n h.2 k.2⟩
theorem ltL_snoc : ∀ {l m : List Nat} (q r : Nat), l.length = m.length → ltL l m → ltL (l ++ [q]) (m ++ [r])
  | [], [], _, _, _, h => h.elim
  | [], _ :: _, _, _, e, _ => by cases e
  | _ :: _, [], _, _, e, _ => by cases e
  | a :: l, b :: m, q, r, e, h => by
    rcases h with h | h
    · exact .inl h
    · exact .inr ⟨h.1, ltL_snoc q r (by simpa using e) h.2⟩
theorem ltL_last : ∀ (l : List Nat) {q r : Nat}, q < r → ltL (l ++ [q]) (l ++ [r])
  | [], _, _, h => .inl h
  | a :: l, _, _, h => .inr ⟨rfl, ltL_last l h⟩
theorem ltL_tri : ∀ {l m : List Nat}, l.length = m.length → ltL l m ∨ l = m ∨ ltL m l
  | [], [], _ => .inr (.inl rfl)
  | [], _ :: _, e => by cases e
  | _ :: _, [], e => by cases e
  | a :: l, b :: m, e => by
    rcases Nat.lt_trichotomy a b with z | z | z
    · exact .inl (.inl z)
    · subst z
      rcases ltL_tri (l := l) (m := m) (by simpa using e) with y | y | y
      · exact .inl (.inr ⟨rfl, y⟩)
      · exact .inr (.inl (by rw [y]))
      · exact .inr (.inr (.inr ⟨rfl, y⟩))
    · exact .inr (.inr (.inl z))
theorem ext_mem {y1 y2 : Y} {p : Nat} {ns l : List Nat} {i : Nat} : l ∈ ext y1 y2 p ns i ↔ ∃ q, q < i ∧ gd y1 y2 p ns q p = true ∧ l = ns ++ [q] := by
  unfold ext
  rw [List.mem_filterMap]
  constructor
  · rintro ⟨q, hq, e⟩
    split at e
    · rename_i hg
      cases e
      exact ⟨q, List.mem_range.mp hq, hg, rfl⟩
    · cases e
  · rintro ⟨q, hq, hg, rfl⟩
    exact ⟨q, List.mem_range.mpr hq, by rw [if_pos hg]⟩
theorem ext_sorted (y1 y2 : Y) (p : Nat) (ns : List Nat) : ∀ i, (ext y1 y2 p ns i).Pairwise ltL
  | 0 => by simp [ext]
  | i + 1 => by
    rw [ext_succ, List.pairwise_append]
    refine ⟨ext_sorted y1 y2 p ns i, by split <;> simp, fun a ha b hb => ?_⟩
    obtain ⟨q, hq, _, rfl⟩ := ext_mem.mp ha
    split at hb
    · have : b = ns ++ [i] := by simpa using hb
      subst this
      exact ltL_last ns hq
    · simp at hb
theorem lev_sorted (y1 y2 : Y) : ∀ p, (lev y1 y2 p).Pairwise ltL
  | 0 => by simp [lev]
  | p + 1 => by
    rw [lev]
    refine pairwise_flatMap (lev_sorted y1 y2 p) (fun a _ => ext_sorted y1 y2 p a y1.n) fun a ha b hb h x hx y hy => ?_
    obtain ⟨q, _, _, rfl⟩ := ext_mem.mp hx
    obtain ⟨r, _, _, rfl⟩ := ext_mem.mp hy
    exact ltL_snoc q r (by rw [(lev_pre ha).1, (lev_pre hb).1]) h
theorem lev_nodup (y1 y2 : Y) (p : Nat) : (lev y1 y2 p).Nodup := (lev_sorted y1 y2 p).imp fun {a b} h z => by
  subst z
  exact ltL_irr a h
/-- a beginning of a renaming -/
structure IsoP (y1 y2 : Y) (p : Nat) (l : List Nat) : Prop where
  len : l.length = p
  nd : l.Nodup
  lt : ∀ x ∈ l, x < y1.n
  m : ∀ i, i < p → y1.m i = y2.m (l.getD i 0)
  k : ∀ i, i < p → ∀ e, e < i → y1.k e i = y2.k (l.getD e 0) (l.getD i 0)
theorem take_lev {y1 y2 : Y} : ∀ {p : Nat} {l : List Nat}, l ∈ lev y1 y2 (p + 1) → l.take p ∈ lev y1 y2 p ∧ ∃ q, q < y1.n ∧ gd y1 y2 p (l.take p) q p = true ∧ l = l.take p ++ [q] := fun {p l} h => by
  obtain ⟨ms, hm, h2⟩ := List.mem_flatMap.mp h
  obtain ⟨q, hq, hg, rfl⟩ := ext_mem.mp h2
  have ln := (lev_pre hm).1
  have e : (ms ++ [q]).take p = ms := by rw [← ln, List.take_left]
  rw [e]
  exact ⟨hm, q, hq, hg, rfl⟩
theorem mem_lev {y1 y2 : Y} : ∀ {p : Nat} {l : List Nat}, l ∈ lev y1 y2 p ↔ IsoP y1 y2 p l
  | 0, l => by
    constructor
    · intro h
      have : l = [] := by simpa [lev] using h
      subst this
      exact ⟨rfl, .nil, by simp, fun i h => by omega, fun i h => by omega⟩
    · intro h
      have : l = [] := List.eq_nil_of_length_eq_zero h.len
      subst this
      simp [lev]
  | p + 1, l => by
    constructor
    · intro h
      have pr := lev_pre h
      exact ⟨pr.1, pr.2.nd, pr.2.lt, fun i hi => (lev_iso h i hi).1, fun i hi => (lev_iso h i hi).2⟩
    · intro h
      have hl : p < l.length := by have := h.len; omega
      have e : l = l.take p ++ [l.getD p 0] := by
        have := List.take_append_drop p l
        rw [List.drop_eq_getElem_cons hl, List.drop_of_length_le (by have := h.len; omega)] at this
        rw [getD_get hl]
        exact this.symm
      have tl : (l.take p).length = p := by rw [List.length_take]; omega
      have tg : ∀ i, i < p → (l.take p).getD i 0 = l.getD i 0 := fun i hi => by
        conv => rhs; rw [e]
        rw [getD_left (by omega)]
      have it : IsoP y1 y2 p (l.take p) := ⟨tl, h.nd.sublist (List.take_sublist _ _), fun x hx => h.lt x (List.mem_of_mem_take hx), fun i hi => by rw [tg i hi]; exact h.m i (by omega), fun i hi e he => by rw [tg i hi, tg e (by omega)]; exact h.k i (by omega) e he⟩
      rw [lev]
      refine List.mem_flatMap.mpr ⟨l.take p, mem_lev.mpr it, ext_mem.mpr ⟨l.getD p 0, h.lt _ (getD_mem hl), ?_, e⟩⟩
      have nin : l.getD p 0 ∉ l.take p := fun z => by
        have nd := h.nd
        rw [e, List.nodup_append] at nd
        exact nd.2.2 _ z _ (by simp) rfl
      unfold gd
      rw [decide_eq_true (h.m p (by omega)), decide_eq_false nin, Bool.not_false, Bool.true_and, Bool.true_and, List.all_eq_true]
      intro e he
      have he := List.mem_range.mp he
      rw [tg e he]
      exact decide_eq_true (h.k p (by omega) e he)
theorem lev_take {y1 y2 : Y} {l : List Nat} : ∀ {t p : Nat}, l ∈ lev y1 y2 (p + t) → l.take p ∈ lev y1 y2 p
  | 0, p, h => by
    rw [List.take_of_length_le (by rw [(lev_pre h).1]; omega)]
    exact h
  | t + 1, p, h => by
    have h1 := (take_lev (p := p + t) h).1
    have h2 := lev_take (t := t) (p := p) h1
    rw [List.take_take, Nat.min_eq_left (by omega)] at h2
    exact h2
theorem desc_pre {y1 y2 : Y} : ∀ {t : Nat} {ns l : List Nat}, l ∈ desc y1 y2 t ns → l.take ns.length = ns
  | 0, ns, l, h => by
    have : l = ns := by simpa [desc] using h
    subst this
    simp
  | t + 1, ns, l, h => by
    rw [desc] at h
    obtain ⟨ms, hm, h⟩ := List.mem_flatMap.mp h
    obtain ⟨q, _, _, rfl⟩ := ext_mem.mp hm
    have := desc_pre h
    have h2 := congrArg (List.take ns.length) this
    rw [List.take_take, List.length_append, Nat.min_eq_left (by omega), List.take_left] at h2
    exact h2
theorem filter_flatMap {α β : Type} (f : α → List β) (g : β → Bool) : ∀ l : List α, (l.flatMap f).filter g = l.flatMap fun a => (f a).filter g
  | [] => rfl
  | a :: l => by rw [List.flatMap_cons, List.flatMap_cons, List.filter_append, filter_flatMap f g l]
theorem flat_one {α β : Type} [DecidableEq α] (f : α → List β) {a : α} : ∀ {l : List α}, l.Nodup → a ∈ l → (l.flatMap fun b => if b = a then f b else []) = f a
  | [], _, h => by simp at h
  | b :: l, nd, h => by
    rw [List.nodup_cons] at nd
    rw [List.flatMap_cons]
    rcases List.mem_cons.mp h with z | z
    · subst z
      rw [if_pos rfl]
      have : (l.flatMap fun b => if b = a then f b else []) = [] := List.flatMap_eq_nil_iff.mpr fun x hx => by
        rw [if_neg (fun e => nd.1 (by rw [← e]; exact hx))]
      rw [this, List.append_nil]
    · rw [if_neg (fun e => nd.1 (by rw [e]; exact z)), List.nil_append]
      exact flat_one f nd.2 z
theorem desc_filter {y1 y2 : Y} {p t : Nat} {ns : List Nat} (h : ns ∈ lev y1 y2 p) : desc y1 y2 t ns = (lev y1 y2 (p + t)).filter fun l => decide (l.take p = ns) := by
  rw [← lev_desc y1 y2 t p, filter_flatMap]
  have e : (lev y1 y2 p).flatMap (fun a => (desc y1 y2 t a).filter fun l => decide (l.take p = ns)) = (lev y1 y2 p).flatMap fun a => if a = ns then desc y1 y2 t a else [] := flat_congr fun a ha => by
    have la := (lev_pre ha).1
    by_cases z : a = ns
    · rw [if_pos z, List.filter_eq_self.mpr fun l hl => ?_]
      subst z
      have := desc_pre hl
      rw [la] at this
      exact decide_eq_true this
    · rw [if_neg z, List.filter_eq_nil_iff.mpr fun l hl => ?_]
      have := desc_pre hl
      rw [la] at this
      rw [decide_eq_true_iff, this]
      exact z
  rw [e, flat_one _ (lev_nodup y1 y2 p) h]
theorem goods_lev {y1 y2 : Y} {given : List Nat} (hb : ∀ x ∈ given, x < y1.n) : ∀ {i : Nat}, i ≤ given.length → (goods y1 y2 given i = true ↔ given.take i ∈ lev y1 y2 i)
  | 0, _ => by simp [goods, lev]
  | i + 1, hi => by
    have ih := goods_lev (y1 := y1) (y2 := y2) hb (i := i) (by omega)
    have tl : (given.take i).length = i := by rw [List.length_take]; omega
    have g : good y1 y2 (given.take i) (given.getD i 0) = gd y1 y2 i (given.take i) (given.getD i 0) i := by
      have := gd_good (y1 := y1) (y2 := y2) (ns := given.take i) (q := given.getD i 0)
      rw [tl] at this
      exact this.symm
    rw [goods_succ, Bool.and_eq_true, ih, g]
    constructor
    · rintro ⟨h1, h2⟩
      rw [lev]
      exact List.mem_flatMap.mpr ⟨_, h1, ext_mem.mpr ⟨_, hb _ (getD_mem (by omega)), h2, (take_snoc (by omega)).symm⟩⟩
    · intro h
      obtain ⟨h1, q, _, h2, e⟩ := take_lev h
      have e1 : (given.take (i + 1)).take i = given.take i := by rw [List.take_take, Nat.min_eq_left (by omega)]
      rw [e1] at h1 h2 e
      refine ⟨h1, ?_⟩
      rw [← take_snoc (show i < given.length by omega)] at e
      have : given.getD i 0 = q := by simpa using e
      rw [this]
      exact h2
/-- first tells the first of all that begin as given -/
theorem first_filter {y1 y2 : Y} {given : List Nat} (hn : y1.n = y2.n) (hl : given.length ≤ y1.n) (hb : ∀ x ∈ given, x < y1.n) : firstM y1 y2 given = ((lev y1 y2 y1.n).filter fun l => decide (l.take given.length = given)).head? := by
  unfold firstM
  rw [if_pos hn]
  have gl := goods_lev (y1 := y1) (y2 := y2) hb (Nat.le_refl _)
  rw [List.take_length] at gl
  by_cases h : goods y1 y2 given given.length = true
  · rw [if_pos h, led_desc, desc_filter (gl.mp h), show given.length + (y1.n - given.length) = y1.n by omega]
  · rw [if_neg h]
    have e : ((lev y1 y2 y1.n).filter fun l => decide (l.take given.length = given)) = [] := List.filter_eq_nil_iff.mpr fun l hl2 z => by
      have z := of_decide_eq_true z
      have := lev_take (y1 := y1) (y2 := y2) (l := l) (p := given.length) (t := y1.n - given.length) (by rw [show given.length + (y1.n - given.length) = y1.n by omega]; exact hl2)
      rw [z] at this
      exact h (gl.mpr this)
    rw [e]
    rfl

/-! ### renamings as a whole; one behind another; turned back -/
structure IsoF (y1 y2 : Y) (l : List Nat) : Prop where
  nm : Nm y1.n l
  m : ∀ i, i < y1.n → y1.m i = y2.m (l.getD i 0)
  k : ∀ e i, e < y1.n → i < y1.n → y1.k e i = y2.k (l.getD e 0) (l.getD i 0)
theorem isoF_iff {y1 y2 : Y} (ok1 : y1.Ok) (ok2 : y2.Ok) {l : List Nat} : l ∈ lev y1 y2 y1.n ↔ IsoF y1 y2 l := by
  rw [mem_lev]
  constructor
  · intro h
    refine ⟨⟨h.len, h.nd, h.lt⟩, h.m, fun e i he hi => ?_⟩
    rcases Nat.lt_trichotomy e i with z | z | z
    · exact h.k i hi e z
    · subst z
      rw [ok1.dg, ok2.dg]
    · rw [ok1.sy, ok2.sy]
      exact h.k e he i z
  · intro h
    exact ⟨h.nm.len, h.nm.nd, h.nm.lt, h.m, fun i hi e he => h.k e i (by omega) hi⟩
/-- one renaming, and then another one -/
def beh (a b : List Nat) : List Nat := a.map fun x => b.getD x 0
theorem beh_len (a b : List Nat) : (beh a b).length = a.length := by simp [beh]
theorem beh_get {a b : List Nat} {i : Nat} (h : i < a.length) : (beh a b).getD i 0 = b.getD (a.getD i 0) 0 := by
  rw [getD_get (by rw [beh_len]; exact h), getD_get h]
  simp [beh]
theorem ext_getD {n : Nat} {a b : List Nat} (ha : a.length = n) (hb : b.length = n) (h : ∀ i, i < n → a.getD i 0 = b.getD i 0) : a = b := by
  apply List.ext_getElem (by omega)
  intro i h1 h2
  have := h i (by omega)
  rw [getD_get h1, getD_get h2] at this
  exact this
theorem nm_of_inj {n : Nat} {l : List Nat} (hl : l.length = n) (lt : ∀ i, i < n → l.getD i 0 < n) (inj : ∀ i j, i < n → j < n → l.getD i 0 = l.getD j 0 → i = j) : Nm n l := by
  refine ⟨hl, ?_, fun x hx => ?_⟩
  · rw [List.nodup_iff_pairwise_ne, List.pairwise_iff_getElem]
    intro i j hi hj hij e
    have := inj i j (by omega) (by omega) (by rw [getD_get hi, getD_get hj]; exact e)
    omega
  · obtain ⟨i, hi, rfl⟩ := List.mem_iff_getElem.mp hx
    have := lt i (by omega)
    rw [getD_get hi] at this
    exact this
theorem Nm.inj {n : Nat} {l : List Nat} (h : Nm n l) {i j : Nat} (hi : i < n) (hj : j < n) (e : l.getD i 0 = l.getD j 0) : i = j := by
  have a := h.idx_get hi
  have b := h.idx_get hj
  rw [e, b] at a
  exact a.symm
theorem beh_nm {n : Nat} {a b : List Nat} (ha : Nm n a) (hb : Nm n b) : Nm n (beh a b) := by
  have hl := ha.len
  refine nm_of_inj (by rw [beh_len, hl]) (fun i hi => ?_) fun i j hi hj e => ?_
  · rw [beh_get (by omega)]
    exact hb.get_lt (ha.get_lt hi)
  · rw [beh_get (by omega), beh_get (by omega)] at e
    exact ha.inj hi hj (hb.inj (ha.get_lt hi) (ha.get_lt hj) e)
/-- turned back -/
def inv (l : List Nat) : List Nat := (List.range l.length).map fun a => l.idxOf a
theorem inv_len (l : List Nat) : (inv l).length = l.length := by simp [inv]
theorem inv_get {l : List Nat} {i : Nat} (h : i < l.length) : (inv l).getD i 0 = l.idxOf i := by
  rw [getD_get (by rw [inv_len]; exact h)]
  simp [inv]
theorem inv_nm {n : Nat} {l : List Nat} (h : Nm n l) : Nm n (inv l) := by
  have hl := h.len
  refine nm_of_inj (by rw [inv_len, hl]) (fun i hi => ?_) fun i j hi hj e => ?_
  · rw [inv_get (by omega)]
    exact h.idx_lt hi
  · rw [inv_get (by omega), inv_get (by omega)] at e
    have a := h.get_idx hi
    have b := h.get_idx hj
    rw [e, b] at a
    exact a.symm
def idn (n : Nat) : List Nat := List.range n
theorem idn_get {n i : Nat} (h : i < n) : (idn n).getD i 0 = i := by
  rw [getD_get (by simpa [idn] using h)]
  simp [idn]
theorem idn_nm (n : Nat) : Nm n (idn n) := ⟨by simp [idn], List.nodup_range, fun x hx => List.mem_range.mp hx⟩
theorem beh_inv {n : Nat} {l : List Nat} (h : Nm n l) : beh l (inv l) = idn n := by
  refine ext_getD (n := n) (by rw [beh_len, h.len]) (by simp [idn]) fun i hi => ?_
  have hl := h.len
  rw [beh_get (by omega), idn_get hi, inv_get (by rw [hl]; exact h.get_lt hi), h.idx_get hi]
theorem inv_beh {n : Nat} {l : List Nat} (h : Nm n l) : beh (inv l) l = idn n := by
  have hl := h.len
  refine ext_getD (n := n) (by rw [beh_len, inv_len, hl]) (by simp [idn]) fun i hi => ?_
  rw [beh_get (by rw [inv_len]; omega), idn_get hi, inv_get (by omega), h.get_idx hi]
theorem beh_assoc {n : Nat} {a b c : List Nat} (ha : Nm n a) (hb : Nm n b) : beh (beh a b) c = beh a (beh b c) := by
  have la := ha.len
  have lb := hb.len
  refine ext_getD (n := n) (by rw [beh_len, beh_len, la]) (by rw [beh_len, la]) fun i hi => ?_
  rw [beh_get (by rw [beh_len]; omega), beh_get (by omega), beh_get (by omega), beh_get (by rw [lb]; exact ha.get_lt hi)]
theorem beh_id {n : Nat} {a : List Nat} (ha : Nm n a) : beh a (idn n) = a := by
  have la := ha.len
  refine ext_getD (n := n) (by rw [beh_len, la]) la fun i hi => ?_
  rw [beh_get (by omega), idn_get (ha.get_lt hi)]
theorem id_beh {n : Nat} {a : List Nat} (ha : a.length = n) : beh (idn n) a = a := by
  refine ext_getD (n := n) (by rw [beh_len]; simp [idn]) ha fun i hi => ?_
  rw [beh_get (by simpa [idn] using hi), idn_get hi]
theorem iso_id (y : Y) : IsoF y y (idn y.n) := ⟨idn_nm _, fun i hi => by rw [idn_get hi], fun e i he hi => by rw [idn_get hi, idn_get he]⟩
theorem iso_beh {y1 y2 y3 : Y} {a b : List Nat} (e12 : y1.n = y2.n) (ha : IsoF y1 y2 a) (hb : IsoF y2 y3 b) : IsoF y1 y3 (beh a b) := by
  have la := ha.nm.len
  have nb : Nm y1.n b := by rw [e12]; exact hb.nm
  refine ⟨beh_nm ha.nm nb, fun i hi => ?_, fun e i he hi => ?_⟩
  · rw [beh_get (by omega), ha.m i hi, hb.m _ (by rw [← e12]; exact ha.nm.get_lt hi)]
  · rw [beh_get (by omega), beh_get (by omega), ha.k e i he hi, hb.k _ _ (by rw [← e12]; exact ha.nm.get_lt he) (by rw [← e12]; exact ha.nm.get_lt hi)]
theorem iso_inv {y1 y2 : Y} {a : List Nat} (e12 : y1.n = y2.n) (ha : IsoF y1 y2 a) : IsoF y2 y1 (inv a) := by
  have la := ha.nm.len
  refine ⟨by rw [← e12]; exact inv_nm ha.nm, fun i hi => ?_, fun e i he hi => ?_⟩
  · have hi' : i < y1.n := by omega
    rw [inv_get (by omega), ha.m _ (ha.nm.idx_lt hi'), ha.nm.get_idx hi']
  · have hi' : i < y1.n := by omega
    have he' : e < y1.n := by omega
    rw [inv_get (by omega), inv_get (by omega), ha.k _ _ (ha.nm.idx_lt he') (ha.nm.idx_lt hi'), ha.nm.get_idx hi', ha.nm.get_idx he']
/-- a renaming makes the renamed yard -/
theorem iso_ren {y : Y} {ns : List Nat} (h : Nm y.n ns) : IsoF y (ren y ns) ns := ⟨h, fun i hi => by show _ = y.m _; rw [h.idx_get hi], fun e i he hi => by show _ = y.k _ _; rw [h.idx_get hi, h.idx_get he]⟩
theorem iso_of_ren {y y2 : Y} {ns l : List Nat} (hn : Nm y.n ns) (h : IsoF (ren y ns) y2 l) : IsoF y y2 (beh ns l) := iso_beh (y2 := ren y ns) rfl (iso_ren hn) h
theorem iso_to_ren {y y2 : Y} {ns l : List Nat} (hn : Nm y.n ns) (h : IsoF y y2 l) : IsoF (ren y ns) y2 (beh (inv ns) l) := iso_beh (y2 := y) (show (ren y ns).n = y.n from rfl) (iso_inv (y2 := ren y ns) rfl (iso_ren hn)) h
/-! ### ties by other names -/
theorem find_map {α β : Type} (f : α → β) (g : β → Bool) : ∀ l : List α, (l.map f).find? g = (l.find? fun a => g (f a)).map f
  | [] => rfl
  | a :: l => by
    rw [List.map_cons, List.find?_cons, List.find?_cons]
    cases g (f a)
    · exact find_map f g l
    · rfl
def nmT (ns : List Nat) (t : Tie) : Tie := (ns.getD t.1 0, ns.getD t.2.1 0, t.2.2)
theorem find_congr {α : Type} {f g : α → Bool} : ∀ {l : List α}, (∀ x ∈ l, f x = g x) → l.find? f = l.find? g
  | [], _ => rfl
  | a :: l, h => by
    rw [List.find?_cons, List.find?_cons, h a List.mem_cons_self, find_congr fun x hx => h x (List.mem_cons_of_mem _ hx)]
theorem kmt_nm {n : Nat} {ns : List Nat} (hn : Nm n ns) {t : Tie} (h1 : t.1 < n) (h2 : t.2.1 < n) {a b : Nat} (ha : a < n) (hb : b < n) : kmt (nmT ns t) (ns.getD a 0) (ns.getD b 0) = kmt t a b := by
  have e : ∀ x y, x < n → y < n → (ns.getD x 0 == ns.getD y 0) = (x == y) := fun x y hx hy => by
    by_cases z : x = y
    · subst z; simp
    · have : ns.getD x 0 ≠ ns.getD y 0 := fun w => z (hn.inj hx hy w)
      rw [beq_eq_false_iff_ne.mpr this, beq_eq_false_iff_ne.mpr z]
  unfold kmt nmT
  show (ns.getD t.1 0 == ns.getD a 0 && ns.getD t.2.1 0 == ns.getD b 0 || ns.getD t.1 0 == ns.getD b 0 && ns.getD t.2.1 0 == ns.getD a 0) = _
  rw [e _ _ h1 ha, e _ _ h2 hb, e _ _ h1 hb, e _ _ h2 ha]
theorem nmT_k {y : Y} (ok : y.Ok) {ns : List Nat} (hn : Nm y.n ns) {a b : Nat} (ha : a < y.n) (hb : b < y.n) : kOf (y.ties.map (nmT ns)) a b = (ren y ns).k a b := by
  show _ = y.k (ns.idxOf a) (ns.idxOf b)
  have ia := hn.idx_lt ha
  have ib := hn.idx_lt hb
  rw [← kOf_ties ok ia ib]
  unfold kOf
  rw [find_map]
  have e : y.ties.find? (fun t => kmt (nmT ns t) a b) = y.ties.find? fun t => kmt t (ns.idxOf a) (ns.idxOf b) := find_congr fun t ht => by
    have := ok.sties.bd t ht
    have := kmt_nm hn (t := t) (by omega) (by omega) ia ib
    rw [hn.get_idx ha, hn.get_idx hb] at this
    exact this
  rw [e]
  cases y.ties.find? fun t => kmt t (ns.idxOf a) (ns.idxOf b) <;> rfl
theorem nmT_ok {y : Y} (ok : y.Ok) {ns : List Nat} (hn : Nm y.n ns) : TiesOk y.n (y.ties.map (nmT ns)) where
  bd := fun t ht => by
    obtain ⟨u, hu, rfl⟩ := List.mem_map.mp ht
    have b := ok.sties.bd u hu
    refine ⟨hn.get_lt (by omega), hn.get_lt (by omega), fun z => ?_, b.2.2.1, b.2.2.2⟩
    have := hn.inj (by omega) (by omega) z
    omega
  pw := by
    rw [List.pairwise_map]
    refine List.Pairwise.imp_of_mem (fun {t u} ht hu h => ?_) ok.sties.pw
    have b := ok.sties.bd t ht
    have c := ok.sties.bd u hu
    show kmt (nmT ns t) (ns.getD u.1 0) (ns.getD u.2.1 0) = false
    rw [kmt_nm hn (by omega) (by omega) (by omega) (by omega)]
    exact h
  sz := by
    rw [List.length_map]
    exact ok.tok.sz
theorem nmT_kl {y : Y} (ok : y.Ok) {ns : List Nat} (hn : Nm y.n ns) : matL y.n (kOf (y.ties.map (nmT ns))) = (ren y ns).kl := by
  unfold matL
  apply List.map_congr_left
  intro i hi
  apply List.map_congr_left
  intro j hj
  exact nmT_k ok hn (by simpa using hi) (by simpa using hj)
/-! ### a place called 0, those ahead of it one more -/
def mv (k o : Nat) : Nat := if o = k then 0 else if o < k then o + 1 else o
def nmv (n k : Nat) : List Nat := (List.range n).map (mv k)
theorem nmv_get {n k i : Nat} (h : i < n) : (nmv n k).getD i 0 = mv k i := by
  rw [getD_get (by simpa [nmv] using h)]
  simp [nmv]
theorem nmv_nm {n k : Nat} (hk : k < n) : Nm n (nmv n k) := by
  refine nm_of_inj (by simp [nmv]) (fun i hi => ?_) fun i j hi hj e => ?_
  · rw [nmv_get hi]
    unfold mv
    by_cases h1 : i = k
    · rw [if_pos h1]; omega
    · rw [if_neg h1]
      by_cases h2 : i < k
      · rw [if_pos h2]; omega
      · rw [if_neg h2]; exact hi
  · rw [nmv_get hi, nmv_get hj] at e
    have key : ∀ x, (x = k ∧ mv k x = 0) ∨ (x < k ∧ mv k x = x + 1) ∨ (k < x ∧ mv k x = x) := fun x => by
      unfold mv
      rcases Nat.lt_trichotomy x k with z | z | z
      · exact .inr (.inl ⟨z, by rw [if_neg (by omega), if_pos z]⟩)
      · exact .inl ⟨z, by rw [if_pos z]⟩
      · exact .inr (.inr ⟨z, by rw [if_neg (by omega), if_neg (by omega)]⟩)
    have a := key i
    have b := key j
    omega
/-- what comes of o :: t -/
def ins (k : Nat) (l : List Nat) : List Nat := (l.drop 1).take k ++ [l.getD 0 0] ++ l.drop (k + 1)
theorem ins_beh {n k : Nat} {l : List Nat} (hl : l.length = n) (hk : k < n) : ins k l = beh (nmv n k) l := by
  have lt : ((l.drop 1).take k).length = k := by rw [List.length_take, List.length_drop]; omega
  have li : (ins k l).length = n := by unfold ins; simp; omega
  refine ext_getD (n := n) li (by rw [beh_len]; simp [nmv]) fun i hi => ?_
  rw [beh_get (by simpa [nmv] using hi), nmv_get hi]
  unfold mv ins
  rcases Nat.lt_trichotomy i k with z | z | z
  · rw [if_neg (by omega), if_pos z, List.append_assoc]
    simp only [List.getD]
    rw [List.getElem?_append_left (by omega), List.getElem?_take, if_pos z, List.getElem?_drop, Nat.add_comm]
  · subst z
    rw [if_pos rfl]
    simp only [List.getD]
    rw [List.getElem?_append_left (by rw [List.length_append, lt]; simp), List.getElem?_append_right (by omega), lt]
    simp
  · rw [if_neg (by omega), if_neg (by omega)]
    simp only [List.getD]
    rw [List.getElem?_append_right (by rw [List.length_append, lt]; simp; omega), List.length_append, lt, List.length_singleton, List.getElem?_drop, show k + 1 + (i - (k + 1)) = i by omega]
theorem ltL_pre : ∀ (p : List Nat) {l m : List Nat}, ltL (p ++ l) (p ++ m) ↔ ltL l m
  | [], _, _ => Iff.rfl
  | a :: p, l, m => by
    constructor
    · intro h
      rcases h with h | h
      · omega
      · exact (ltL_pre p).mp h.2
    · exact fun h => .inr ⟨rfl, (ltL_pre p).mpr h⟩
theorem ltL_ins {o : Nat} : ∀ (k : Nat) {l m : List Nat}, l.length = m.length → (ltL (l.take k ++ o :: l.drop k) (m.take k ++ o :: m.drop k) ↔ ltL l m)
  | 0, l, m, _ => by
    simp only [List.take_zero, List.nil_append, List.drop_zero]
    exact ltL_pre [o]
  | k + 1, [], [], _ => by
    simp only [List.take_nil, List.nil_append, List.drop_nil]
    exact ltL_pre [o]
  | k + 1, [], _ :: _, e => by cases e
  | k + 1, _ :: _, [], e => by cases e
  | k + 1, a :: l, b :: m, e => by
    simp only [List.take_succ_cons, List.drop_succ_cons, List.cons_append]
    constructor
    · intro h
      rcases h with h | h
      · exact .inl h
      · exact .inr ⟨h.1, (ltL_ins k (by simpa using e)).mp h.2⟩
    · intro h
      rcases h with h | h
      · exact .inl h
      · exact .inr ⟨h.1, (ltL_ins k (by simpa using e)).mpr h.2⟩
theorem ins_cons (k o : Nat) (t : List Nat) : ins k (o :: t) = t.take k ++ o :: t.drop k := by simp [ins]
/-- the turns that lead k to o, by the yard with k ahead -/
theorem led_turns {y : Y} (ok : y.Ok) {k o : Nat} (hk : k < y.n) : ((lev (ren y (nmv y.n k)) y y.n).filter fun l => decide (l.take 1 = [o])).map (ins k) = (lev y y y.n).filter fun l => decide (l.getD k 0 = o) := by
  have nk := nmv_nm hk
  have okr := ren_ok ok nk
  have hd : ∀ l ∈ lev (ren y (nmv y.n k)) y y.n, (l.take 1 = [o] ↔ ∃ t, l = o :: t) := fun l hl => by
    have := (lev_pre hl).1
    cases l with
    | nil => simp at this; omega
    | cons a t => simp
  refine sorted_ext ltL_irr ltL_asym ?_ ((lev_sorted y y y.n).filter _) fun x => ?_
  · rw [List.pairwise_map]
    refine List.Pairwise.imp_of_mem (fun {a b} ha hb r => ?_) ((lev_sorted (ren y (nmv y.n k)) y y.n).filter _)
    rw [List.mem_filter, decide_eq_true_iff] at ha hb
    obtain ⟨t, rfl⟩ := (hd a ha.1).mp ha.2
    obtain ⟨u, rfl⟩ := (hd b hb.1).mp hb.2
    have l1 := (lev_pre ha.1).1
    have l2 := (lev_pre hb.1).1
    rw [ins_cons, ins_cons, ltL_ins k (by simp at l1 l2; omega)]
    exact (ltL_pre [o]).mp r
  · rw [List.mem_map, List.mem_filter, decide_eq_true_iff, isoF_iff ok ok]
    constructor
    · rintro ⟨l, hl, rfl⟩
      rw [List.mem_filter, decide_eq_true_iff] at hl
      obtain ⟨t, rfl⟩ := (hd l hl.1).mp hl.2
      have iso := (isoF_iff okr ok).mp hl.1
      have ll : (o :: t).length = y.n := iso.nm.len
      rw [ins_beh ll hk]
      refine ⟨iso_of_ren nk iso, ?_⟩
      rw [beh_get (by rw [nk.len]; exact hk), nmv_get hk]
      simp [mv]
    · rintro ⟨iso, e⟩
      have i2 := iso_to_ren nk iso
      have mm : beh (inv (nmv y.n k)) x ∈ lev (ren y (nmv y.n k)) y y.n := (isoF_iff okr ok).mpr i2
      have nl := nk.len
      have il : (inv (nmv y.n k)).length = y.n := by rw [inv_len, nl]
      have e0 : (beh (inv (nmv y.n k)) x).getD 0 0 = o := by
        rw [beh_get (by omega), inv_get (by omega)]
        have := nk.idx_get hk
        rw [nmv_get hk, show mv k k = 0 by simp [mv]] at this
        rw [this, e]
      refine ⟨beh (inv (nmv y.n k)) x, List.mem_filter.mpr ⟨mm, decide_eq_true ?_⟩, ?_⟩
      · have ll := (lev_pre mm).1
        have h1 := ok.n1
        cases hb : beh (inv (nmv y.n k)) x with
        | nil => rw [hb] at ll; simp at ll; omega
        | cons a t =>
          rw [hb] at e0
          have : a = o := by simpa using e0
          rw [this]
          rfl
      · rw [ins_beh (n := y.n) (by rw [beh_len, il]) hk, ← beh_assoc nk (inv_nm nk), beh_inv nk, id_beh iso.nm.len]
def leadW (y : Y) (k o : Nat) : Option (List Nat) := ((lev y y y.n).filter fun l => decide (l.getD k 0 = o)).head?
theorem lead_first {y : Y} (ok : y.Ok) {k o : Nat} (hk : k < y.n) (ho : o < y.n) : (firstM (ren y (nmv y.n k)) y [o]).map (ins k) = leadW y k o := by
  have h := first_filter (y1 := ren y (nmv y.n k)) (y2 := y) (given := [o]) rfl (by show 1 ≤ y.n; omega) (fun x hx => by
    have : x = o := by simpa using hx
    rw [this]; exact ho)
  rw [h]
  unfold leadW
  rw [← led_turns ok hk, List.head?_map]
  rfl

/-! ### steps: a chain -/
def begP (p : Nat) (t : List Nat) : Bool := decide (t.take p = List.range p)
def begV (p v : Nat) (t : List Nat) : Bool := decide (t.take (p + 1) = List.range p ++ [v])
def stp (y : Y) (p v : Nat) : Option (List Nat) := ((lev y y y.n).filter (begV p v)).head?
/-- the first j names from p on -/
def rowJ (y : Y) (p j : Nat) : List (List Nat) := (List.range j).filterMap fun k => stp y p (p + k)
def row (y : Y) (p : Nat) : List (List Nat) := rowJ y p (y.n - p)
def stepsL (y : Y) (i : Nat) : List PyData := (List.range i).map fun p => .list ((row y p).map NL)
theorem rowJ_succ (y : Y) (p j : Nat) : rowJ y p (j + 1) = rowJ y p j ++ (stp y p (p + j)).toList := by
  unfold rowJ
  rw [List.range_succ, List.filterMap_append]
  congr 1
  all_goals (cases h : stp y p (p + j) <;> simp [h])
theorem rowJ_len (y : Y) (p j : Nat) : (rowJ y p j).length ≤ j := Nat.le_trans (List.length_filterMap_le _ _) (by simp)
theorem stp_first {y : Y} {p v : Nat} (hp : p < y.n) (hv : v < y.n) : firstM y y (List.range p ++ [v]) = stp y p v := by
  rw [first_filter rfl (by simp; omega) (fun x hx => by
    rcases List.mem_append.mp hx with h | h
    · have := List.mem_range.mp h; omega
    · have : x = v := by simpa using h
      omega)]
  have : (List.range p ++ [v]).length = p + 1 := by simp
  rw [this]
  all_goals rfl
theorem begV_iff {n p v : Nat} {t : List Nat} (ht : t.length = n) (hp : p < n) : begV p v t = true ↔ (∀ i, i < p → t.getD i 0 = i) ∧ t.getD p 0 = v := by
  unfold begV
  rw [decide_eq_true_iff, ← take_snoc (by omega)]
  constructor
  · intro h
    obtain ⟨h1, h2⟩ := List.append_inj h (by simp; omega)
    refine ⟨fun i hi => ?_, by simpa using h2⟩
    have e : (t.take p).getD i 0 = (List.range p).getD i 0 := by rw [h1]
    have e2 : (t.take p).getD i 0 = t.getD i 0 := by simp [List.getD, hi]
    rw [e2] at e
    rw [e]
    simp [List.getD, hi]
  · rintro ⟨h1, h2⟩
    rw [h2]
    congr 1
    refine ext_getD (n := p) (by simp; omega) (by simp) fun i hi => ?_
    have e2 : (t.take p).getD i 0 = t.getD i 0 := by simp [List.getD, hi]
    rw [e2, h1 i hi]
    simp [List.getD, hi]
theorem begP_iff {n p : Nat} {t : List Nat} (ht : t.length = n) (hp : p ≤ n) : begP p t = true ↔ ∀ i, i < p → t.getD i 0 = i := by
  unfold begP
  rw [decide_eq_true_iff]
  constructor
  · intro h i hi
    have e : (t.take p).getD i 0 = (List.range p).getD i 0 := by rw [h]
    have e2 : (t.take p).getD i 0 = t.getD i 0 := by simp [List.getD, hi]
    rw [e2] at e
    rw [e]
    simp [List.getD, hi]
  · intro h
    refine ext_getD (n := p) (by simp; omega) (by simp) fun i hi => ?_
    have e2 : (t.take p).getD i 0 = t.getD i 0 := by simp [List.getD, hi]
    rw [e2, h i hi]
    simp [List.getD, hi]
theorem begV_P {n p v : Nat} {t : List Nat} (ht : t.length = n) (hp : p < n) : begV p v t = (begP p t && decide (t.getD p 0 = v)) := by
  rw [Bool.eq_iff_iff, begV_iff ht hp, Bool.and_eq_true, begP_iff ht (by omega), decide_eq_true_iff]
theorem begP_succ {n p : Nat} {t : List Nat} (ht : t.length = n) (hp : p < n) : begP (p + 1) t = begV p p t := by
  rw [Bool.eq_iff_iff, begV_iff ht hp, begP_iff ht (by omega)]
  constructor
  · intro h
    exact ⟨fun i hi => h i (by omega), h p (by omega)⟩
  · rintro ⟨h1, h2⟩ i hi
    by_cases z : i = p
    · rw [z]; exact h2
    · exact h1 i (by omega)
/-- a name that is less is given already -/
theorem stp_less {y : Y} {p v : Nat} (hp : p < y.n) (hv : v < p) : stp y p v = none := by
  unfold stp
  rw [List.head?_eq_none_iff, List.filter_eq_nil_iff]
  intro t ht h
  have nm := lev_nm ht
  obtain ⟨h1, h2⟩ := (begV_iff nm.len hp).mp h
  have := nm.inj (show v < y.n by omega) hp (by rw [h1 v hv, h2])
  omega
theorem stp_mem {y : Y} {p v : Nat} {s : List Nat} (h : stp y p v = some s) : s ∈ lev y y y.n ∧ begV p v s = true := by
  unfold stp at h
  have := List.mem_of_mem_head? h
  exact ⟨(List.mem_filter.mp this).1, (List.mem_filter.mp this).2⟩
theorem row_all {y : Y} {p : Nat} (hp : p < y.n) : row y p = (List.range y.n).filterMap (stp y p) := by
  have e : List.range y.n = List.range p ++ (List.range (y.n - p)).map fun k => p + k := by
    have := List.range_add (n := p) (m := y.n - p)
    rw [show p + (y.n - p) = y.n by omega] at this
    exact this
  rw [e, List.filterMap_append, List.filterMap_map]
  have : (List.range p).filterMap (stp y p) = [] := List.filterMap_eq_nil_iff.mpr fun v hv => stp_less hp (List.mem_range.mp hv)
  rw [this]
  rfl
/-- turns that leave the first p places -/
def stab (y : Y) (p : Nat) : List (List Nat) := (lev y y y.n).filter (begP p)
theorem stab_nd (y : Y) (p : Nat) : (stab y p).Nodup := (lev_nodup y y y.n).filter _
theorem stab_mem {y : Y} (ok : y.Ok) {p : Nat} (hp : p ≤ y.n) {t : List Nat} : t ∈ stab y p ↔ IsoF y y t ∧ ∀ i, i < p → t.getD i 0 = i := by
  unfold stab
  rw [List.mem_filter, isoF_iff ok ok]
  constructor
  · rintro ⟨h1, h2⟩
    exact ⟨h1, (begP_iff h1.1.len hp).mp h2⟩
  · rintro ⟨h1, h2⟩
    exact ⟨h1, (begP_iff h1.1.len hp).mpr h2⟩
theorem len_of_same {α : Type} [DecidableEq α] {l m : List α} (h1 : l.Nodup) (h2 : m.Nodup) (h : ∀ x, x ∈ l ↔ x ∈ m) : l.length = m.length := ((List.perm_ext_iff_of_nodup h1 h2).mpr h).length_eq
theorem nodup_map_of {α β : Type} {f : α → β} : ∀ {l : List α}, l.Nodup → (∀ a ∈ l, ∀ b ∈ l, f a = f b → a = b) → (l.map f).Nodup
  | [], _, _ => by simp
  | a :: l, h, inj => by
    rw [List.nodup_cons] at h
    rw [List.map_cons, List.nodup_cons]
    refine ⟨fun z => ?_, nodup_map_of h.2 fun x hx y hy => inj x (List.mem_cons_of_mem _ hx) y (List.mem_cons_of_mem _ hy)⟩
    obtain ⟨b, hb, e⟩ := List.mem_map.mp z
    have := inj b (List.mem_cons_of_mem _ hb) a List.mem_cons_self e
    subst this
    exact h.1 hb
/-- a class: those of the next chain link behind its first -/
theorem class_len {y : Y} (ok : y.Ok) {p v : Nat} (hp : p < y.n) {s : List Nat} (hs : stp y p v = some s) : ((stab y p).filter fun t => decide (t.getD p 0 = v)).length = (stab y (p + 1)).length := by
  obtain ⟨s1, s2⟩ := stp_mem hs
  have is := (isoF_iff ok ok).mp s1
  have ns := is.1
  obtain ⟨s3, s4⟩ := (begV_iff ns.len hp).mp s2
  have e : ((stab y p).filter fun t => decide (t.getD p 0 = v)).length = ((stab y (p + 1)).map fun u => beh u s).length := by
    refine len_of_same ((stab_nd y p).filter _) (nodup_map_of (stab_nd y (p + 1)) fun a ha b hb e => ?_) fun t => ?_
    · have na := ((stab_mem ok (by omega)).mp ha).1.1
      have nb := ((stab_mem ok (by omega)).mp hb).1.1
      refine ext_getD na.len nb.len fun i hi => ?_
      have e2 : (beh a s).getD i 0 = (beh b s).getD i 0 := by rw [show beh a s = beh b s from e]
      rw [beh_get (by rw [na.len]; exact hi), beh_get (by rw [nb.len]; exact hi)] at e2
      exact ns.inj (na.get_lt hi) (nb.get_lt hi) e2
    · rw [List.mem_filter, decide_eq_true_iff, stab_mem ok (by omega), List.mem_map]
      constructor
      · rintro ⟨⟨h1, h2⟩, h3⟩
        have nt := h1.1
        refine ⟨beh t (inv s), (stab_mem ok (by omega)).mpr ⟨iso_beh rfl h1 (iso_inv rfl is), fun i hi => ?_⟩, ?_⟩
        · rw [beh_get (by rw [nt.len]; omega)]
          have lt := nt.get_lt (show i < y.n by omega)
          rw [inv_get (by rw [ns.len]; exact lt)]
          have : t.getD i 0 = s.getD i 0 := by
            by_cases z : i = p
            · rw [z, h3, s4]
            · rw [h2 i (by omega), s3 i (by omega)]
          rw [this, ns.idx_get (by omega)]
        · rw [beh_assoc nt (inv_nm ns), inv_beh ns, beh_id nt]
      · rintro ⟨u, hu, rfl⟩
        obtain ⟨u1, u2⟩ := (stab_mem ok (by omega)).mp hu
        have nu := u1.1
        refine ⟨⟨iso_beh rfl u1 is, fun i hi => ?_⟩, ?_⟩
        · rw [beh_get (by rw [nu.len]; omega), u2 i (by omega), s3 i hi]
        · rw [beh_get (by rw [nu.len]; omega), u2 p (by omega), s4]
  rw [e, List.length_map]
theorem sum_zero : ∀ l : List Nat, (l.map fun _ => 0).sum = 0
  | [] => rfl
  | a :: l => by rw [List.map_cons, List.sum_cons, sum_zero l]
theorem sum_ite (n k : Nat) (h : k < n) : ((List.range n).map fun v => if k = v then 1 else 0).sum = 1 := by
  induction n with
  | zero => omega
  | succ n ih =>
    rw [List.range_succ, List.map_append, List.sum_append]
    by_cases z : k = n
    · subst z
      have : ((List.range k).map fun v => if k = v then 1 else 0) = (List.range k).map fun _ => 0 := List.map_congr_left fun v hv => by
        have := List.mem_range.mp hv
        rw [if_neg (by omega)]
      rw [this, sum_zero]
      simp
    · rw [ih (by omega)]
      simp [z]
theorem sum_add {α : Type} (f g : α → Nat) : ∀ l : List α, (l.map fun v => f v + g v).sum = (l.map f).sum + (l.map g).sum
  | [] => rfl
  | a :: l => by simp only [List.map_cons, List.sum_cons, sum_add f g l]; omega
theorem len_classes {α : Type} (n : Nat) (k : α → Nat) : ∀ {l : List α}, (∀ x ∈ l, k x < n) → l.length = ((List.range n).map fun v => (l.filter fun x => decide (k x = v)).length).sum
  | [], _ => by
    have : ((List.range n).map fun v => (([] : List α).filter fun x => decide (k x = v)).length) = (List.range n).map fun _ => 0 := rfl
    rw [this, sum_zero]
    rfl
  | a :: l, h => by
    have e : ((List.range n).map fun v => ((a :: l).filter fun x => decide (k x = v)).length) = (List.range n).map fun v => (if k a = v then 1 else 0) + (l.filter fun x => decide (k x = v)).length := List.map_congr_left fun v _ => by
      rw [List.filter_cons]
      by_cases z : k a = v
      · rw [if_pos (by simpa using z), if_pos z, List.length_cons]; omega
      · rw [if_neg (by simpa using z), if_neg z]; omega
    rw [e, sum_add, sum_ite n (k a) (h a List.mem_cons_self), ← len_classes n k fun x hx => h x (List.mem_cons_of_mem _ hx), List.length_cons]
    omega
theorem sum_some {α β : Type} (f : α → Option β) (c : Nat) : ∀ l : List α, (l.map fun v => if (f v).isSome then c else 0).sum = (l.filterMap f).length * c
  | [] => by simp
  | a :: l => by
    rw [List.map_cons, List.sum_cons, sum_some f c l]
    cases h : f a with
    | none => rw [List.filterMap_cons_none h]; simp
    | some b => rw [List.filterMap_cons_some h, List.length_cons, Nat.add_mul]; simp; omega
theorem stab_step {y : Y} (ok : y.Ok) {p : Nat} (hp : p < y.n) : (stab y p).length = (row y p).length * (stab y (p + 1)).length := by
  have lt : ∀ t ∈ stab y p, t.getD p 0 < y.n := fun t ht => ((stab_mem ok (by omega)).mp ht).1.1.get_lt hp
  rw [len_classes y.n (fun t : List Nat => t.getD p 0) lt, row_all hp, ← sum_some (stp y p)]
  congr 1
  refine List.map_congr_left fun v _ => ?_
  cases h : stp y p v with
  | some s => exact class_len ok hp h
  | none =>
    have : (stab y p).filter (fun t => decide (t.getD p 0 = v)) = [] := by
      rw [List.filter_eq_nil_iff]
      intro t ht z
      unfold stab at ht
      rw [List.mem_filter] at ht
      unfold stp at h
      rw [List.head?_eq_none_iff, List.filter_eq_nil_iff] at h
      refine h t ht.1 ?_
      rw [begV_P (lev_nm ht.1).len hp, ht.2, z]
      rfl
    rw [this]
    rfl
def prodN (y : Y) (i : Nat) : Nat := (List.range i).foldl (fun a p => a * (row y p).length) 1
theorem prodN_succ (y : Y) (i : Nat) : prodN y (i + 1) = prodN y i * (row y i).length := by
  unfold prodN
  rw [List.range_succ, List.foldl_append]
  rfl
theorem stab_all {y : Y} (ok : y.Ok) : ∀ i, i ≤ y.n → prodN y i * (stab y i).length = (lev y y y.n).length
  | 0, _ => by
    have : stab y 0 = lev y y y.n := List.filter_eq_self.mpr fun t _ => by unfold begP; simp
    rw [this]
    show 1 * _ = _
    omega
  | i + 1, h => by
    have e := stab_step ok (show i < y.n by omega)
    rw [← stab_all ok i (by omega), prodN_succ, e, Nat.mul_assoc]
theorem stab_n {y : Y} (ok : y.Ok) : (stab y y.n).length = 1 := by
  have : (stab y y.n).length = [idn y.n].length := by
    refine len_of_same (stab_nd y y.n) (by simp) fun t => ?_
    rw [stab_mem ok (Nat.le_refl _), List.mem_singleton]
    constructor
    · rintro ⟨h1, h2⟩
      exact ext_getD h1.1.len (idn_nm y.n).len fun i hi => by rw [h2 i hi, idn_get hi]
    · rintro rfl
      exact ⟨iso_id y, fun i hi => idn_get hi⟩
  rw [this]
  rfl
/-- turns are as many as the product of the steps' counts -/
theorem count_all {y : Y} (ok : y.Ok) : prodN y y.n = (lev y y y.n).length := by
  have := stab_all ok y.n (Nat.le_refl _)
  rw [stab_n ok] at this
  omega
theorem row_pos {y : Y} (ok : y.Ok) {p : Nat} (hp : p < y.n) : row y p ≠ [] := fun z => by
  have h := stab_step ok hp
  rw [z] at h
  have : idn y.n ∈ stab y p := (stab_mem ok (by omega)).mpr ⟨iso_id y, fun i hi => idn_get (by omega)⟩
  cases e : stab y p with
  | nil => rw [e] at this; cases this
  | cons a l => rw [e] at h; simp at h

/-! ### steps, count -/
def spSteps : Spc := fun as Q => ∃ (y : Y), as = [yA y] ∧ y.Ok ∧ Q (.own (stepsL y y.n))
theorem c_steps (T : Txt K mg C) : Cal P w K mg base C "steps" 12 spSteps := by
  have c_first := c_first (P := P) (w := w) (base := base) T
  have m_many := m_many (P := P) (w := w) (base := base) T
  refine cal_of T.d_steps sc_steps (fun as Q h => by obtain ⟨_, rfl, _⟩ := h; rfl) fun f cdv A0 outer s H E hr G F as Q hs => ?_
  obtain ⟨y, rfl, ok, hQ⟩ := hs
  have h7 := ok.n7
  have n1 := ok.n1
  refine ⟨_, _, (pss_consA (ps_setA (i := 1) sc_steps.nd (pd_lst pda_nil))
  (pss_consA (ps_forA (pi_range1A T.range (pda_cons (pd_meth0 m_many hr (by omega) (pd_var 0)) pda_nil)) (pg_nameA 2 sc_steps.nd) (pss_consA (ps_setA (i := 3) sc_steps.nd (pd_lst pda_nil))
  (pss_consA (ps_forA (pi_range2A T.range (pda_cons (pd_var 2) (pda_cons (pd_meth0 m_many hr (by omega) (pd_var 0)) pda_nil))) (pg_nameA 4 sc_steps.nd) (pss_consA (ps_setA (i := 5) sc_steps.nd (pd_call c_first hr (by omega) (pda_cons (pd_var 0) (pda_cons (pd_var 0) (pda_cons (pd_add (K := K) (pd_lstRg T.list (pr_1 T.range (pd_var 2))) (pd_lst (pda_cons (pd_var 4) pda_nil))) pda_nil)))))
  (pss_oneA (ps_ifA (pt_isnot (pd_var 5) pd_non) (pss_oneA (ps_appA (pd_var 3) (pd_var 5))) pss_nilA))) PassesOwn.never)
  (pss_oneA (ps_fz 3 (ps_appA (pd_var 1) (pd_var 3)))))) PassesOwn.never)
  (pss_oneA (ps_retA (pd_var 1))))), ?_⟩
  walk_at "wp"
  refine ⟨by decide, y, rfl, ?_⟩
  walk_at "wp"
  refine ⟨by omega, by omega, fun i ρ => ∃ a2 a3 a4 a5, ρ = [yA y, .own (stepsL y i), a2, a3, a4, a5], ⟨_, _, _, _, rfl⟩, fun p d ρ hd hI => ?_, fun ρ hI => ?_⟩
  · obtain ⟨hp, rfl⟩ := rgD0_get hd
    obtain ⟨a2, a3, a4, a5, rfl⟩ := hI
    walk_at "wp"
    refine ⟨by decide, y, rfl, ?_⟩
    walk_at "wp"
    rw [show ((y.n : Int) - (p : Int)).toNat = y.n - p by omega]
    refine ⟨by omega, fun i ρ => ∃ a4 a5, ρ = [yA y, .own (stepsL y p), .d (nI p), .own ((rowJ y p i).map NL), a4, a5], ⟨_, _, rfl⟩, fun j d ρ hd hI => ?_, fun ρ hI => ?_⟩
    · obtain ⟨hj, rfl⟩ := rgD1_get hd
      obtain ⟨a4, a5, rfl⟩ := hI
      walk_at "wp"
      have hv : p + j < y.n := by omega
      refine ⟨by unfold RgOk; omega, by decide, ?_, y, y, List.range p ++ [p + j], ?_, h7, by simp; omega, fun x hx => ?_, ?_⟩
      · have : ((p : Int) - 0).toNat = p := by omega
        rw [this]
        exact Nat.le_trans (show p + 1 ≤ 8 by omega) (by decide)
      · rw [show ((p : Int) - 0).toNat = p by omega, rgD0]
        simp
      · rcases List.mem_append.mp hx with h | h
        · have := List.mem_range.mp h; omega
        · have : x = p + j := by simpa using h
          omega
      rw [stp_first hp hv]
      have e := rowJ_succ y p j
      have l := rowJ_len y p j
      cases h : stp y p (p + j) with
      | none =>
        rw [h] at e
        show frK (.d .none) _
        walk_at "wp"
        rw [e, Option.toList_none, List.append_nil]
        exact ⟨fun z => absurd z (by decide), fun _ => ⟨_, _, rfl⟩⟩
      | some t =>
        rw [h] at e
        show frK (.d (NL t)) _
        walk_at "wp"
        rw [e, Option.toList_some, List.map_append]
        exact ⟨fun _ => ⟨Nat.lt_of_le_of_lt l (Nat.lt_of_lt_of_le (show j < 8 by omega) (by decide)), _, _, rfl⟩, fun z => absurd z (by decide)⟩
    obtain ⟨a4, a5, rfl⟩ := hI
    walk_at "wp"
    have e : stepsL y (p + 1) = stepsL y p ++ [PyData.list (List.map NL (rowJ y p (y.n - p)))] := by
      unfold stepsL
      rw [List.range_succ, List.map_append]
      rfl
    rw [e]
    refine ⟨?_, _, _, _, _, rfl⟩
    unfold stepsL
    rw [List.length_map, List.length_range]
    exact Nat.lt_of_lt_of_le (show p < 8 by omega) (by decide)
  obtain ⟨a2, a3, a4, a5, rfl⟩ := hI
  walk_at "wp"
  exact hQ
def spCount : Spc := fun as Q => ∃ (y : Y), as = [yA y] ∧ y.Ok ∧ Q (.d (nI (lev y y y.n).length))
theorem c_count (T : Txt K mg C) : Cal P w K mg base C "count" 13 spCount := by
  have c_steps := c_steps (P := P) (w := w) (base := base) T
  refine cal_of T.d_count sc_count (fun as Q h => by obtain ⟨_, rfl, _⟩ := h; rfl) fun f cdv A0 outer s H E hr G F as Q hs => ?_
  obtain ⟨y, rfl, ok, hQ⟩ := hs
  refine ⟨_, _, (pss_consA (ps_setA (i := 1) sc_count.nd pd_int)
  (pss_consA (ps_forA (pi_listA (K := K) (pd_call c_steps hr (by omega) (pda_cons (pd_var 0) pda_nil))) (pg_nameA 2 sc_count.nd) (pss_oneA (ps_setA (i := 1) sc_count.nd (pd_mul (pd_var 1) (pd_len (K := K) T.len (pda_cons (pd_var 2) pda_nil))))) PassesOwn.never)
  (pss_oneA (ps_retA (pd_var 1))))), ?_⟩
  walk_at "wp"
  refine ⟨y, rfl, ok, ?_⟩
  walk_at "wp"
  refine ⟨fun i ρ => ∃ a2, ρ = [yA y, .d (nI (prodN y i)), a2], ⟨_, rfl⟩, fun p d ρ hd hI => ?_, fun ρ hI => ?_⟩
  · unfold stepsL at hd
    rw [List.getElem?_map] at hd
    obtain ⟨q, eq, rfl⟩ := Option.map_eq_some_iff.mp hd
    obtain ⟨h1, h2⟩ := List.getElem?_eq_some_iff.mp eq
    rw [List.getElem_range] at h2
    subst h2
    obtain ⟨a2, rfl⟩ := hI
    walk_at "wp"
    have rl : (row y p).length ≤ y.n := Nat.le_trans (rowJ_len y p _) (by omega)
    have h7 := ok.n7
    have : ((prodN y p : Nat) : Int) * ((row y p).length : Int) = ((prodN y p * (row y p).length : Nat) : Int) := by rw [Int.natCast_mul]
    rw [prodN_succ, this]
    exact ⟨.inr ⟨by omega, by omega⟩, _, rfl⟩
  obtain ⟨a2, rfl⟩ := hI
  walk_at "wp"
  have e : (stepsL y y.n).length = y.n := by simp [stepsL]
  rw [e, count_all ok]
  exact hQ

/-! ### picks -/
/-- the number of the step of place p that leads p to v -/
def nmF (y : Y) (p v : Nat) : Nat := ((row y p).map fun s => s.getD p 0).idxOf v
def stF (y : Y) (p k : Nat) : List Nat := (row y p).getD k []
theorem row_mem {y : Y} (ok : y.Ok) {p : Nat} (hp : p < y.n) {s : List Nat} (h : s ∈ row y p) : s ∈ stab y p ∧ stp y p (s.getD p 0) = some s := by
  rw [row_all hp] at h
  obtain ⟨v, _, e⟩ := List.mem_filterMap.mp h
  obtain ⟨h1, h2⟩ := stp_mem e
  have is := (isoF_iff ok ok).mp h1
  obtain ⟨h3, h4⟩ := (begV_iff is.1.len hp).mp h2
  exact ⟨(stab_mem ok (by omega)).mpr ⟨is, h3⟩, by rw [h4]; exact e⟩
theorem row_at {y : Y} {p v : Nat} (hp : p < y.n) (hv : v < y.n) {s : List Nat} (h : stp y p v = some s) : s ∈ row y p := by
  rw [row_all hp]
  exact List.mem_filterMap.mpr ⟨v, List.mem_range.mpr hv, h⟩
theorem row_nd {y : Y} (ok : y.Ok) {p : Nat} (hp : p < y.n) : ((row y p).map fun s => s.getD p 0).Nodup := by
  rw [row_all hp, List.map_filterMap]
  have e : (List.range y.n).filterMap (fun v => (stp y p v).map fun s => s.getD p 0) = (List.range y.n).filter fun v => (stp y p v).isSome := by
    rw [← List.filterMap_eq_filter]
    apply fm_congr
    intro v hv
    cases h : stp y p v with
    | none => simp [h, Option.guard]
    | some s =>
      obtain ⟨h1, h2⟩ := stp_mem h
      have is := (isoF_iff ok ok).mp h1
      have := ((begV_iff is.1.len hp).mp h2).2
      simp only [Option.map_some, Option.guard, h, Option.isSome_some, if_true, this]
  rw [e]
  exact List.nodup_range.filter _
/-- a turn that leaves those below p: the step of p -/
theorem stp_some {y : Y} (ok : y.Ok) {p : Nat} (hp : p < y.n) {t : List Nat} (ht : t ∈ stab y p) : ∃ s, stp y p (t.getD p 0) = some s := by
  have h := (stab_mem ok (by omega)).mp ht
  cases e : stp y p (t.getD p 0) with
  | some s => exact ⟨s, rfl⟩
  | none =>
    unfold stp at e
    rw [List.head?_eq_none_iff, List.filter_eq_nil_iff] at e
    refine absurd ?_ (e t ((isoF_iff ok ok).mpr h.1))
    exact (begV_iff h.1.1.len hp).mpr ⟨h.2, rfl⟩
theorem nmF_of {y : Y} (ok : y.Ok) {p : Nat} (hp : p < y.n) {t : List Nat} (ht : t ∈ stab y p) : nmF y p (t.getD p 0) < (row y p).length ∧ stF y p (nmF y p (t.getD p 0)) ∈ row y p ∧ (stF y p (nmF y p (t.getD p 0))).getD p 0 = t.getD p 0 := by
  obtain ⟨s, hs⟩ := stp_some ok hp ht
  have h := (stab_mem ok (by omega)).mp ht
  have hv := h.1.1.get_lt hp
  have m := row_at hp hv hs
  have ev : s.getD p 0 = t.getD p 0 := by
    obtain ⟨h1, h2⟩ := stp_mem hs
    exact ((begV_iff ((isoF_iff ok ok).mp h1).1.len hp).mp h2).2
  have mv : t.getD p 0 ∈ (row y p).map fun s => s.getD p 0 := List.mem_map.mpr ⟨s, m, ev⟩
  have lt := List.idxOf_lt_length_of_mem mv
  have lt2 : nmF y p (t.getD p 0) < (row y p).length := by rw [List.length_map] at lt; exact lt
  have es : stF y p (nmF y p (t.getD p 0)) = (row y p)[nmF y p (t.getD p 0)] := by
    unfold stF
    rw [List.getD_eq_getElem?_getD, List.getElem?_eq_getElem lt2]
    rfl
  rw [es]
  refine ⟨lt2, List.getElem_mem lt2, ?_⟩
  have := List.getElem_idxOf lt
  rw [List.getElem_map] at this
  exact this
theorem nmF_st {y : Y} (ok : y.Ok) {p k : Nat} (hp : p < y.n) (hk : k < (row y p).length) : stF y p k ∈ row y p ∧ nmF y p ((stF y p k).getD p 0) = k := by
  have e : stF y p k = (row y p)[k] := by
    unfold stF
    rw [List.getD_eq_getElem?_getD, List.getElem?_eq_getElem hk]
    rfl
  refine ⟨by rw [e]; exact List.getElem_mem hk, ?_⟩
  have := (row_nd ok hp).idxOf_getElem k (by rw [List.length_map]; exact hk)
  rw [List.getElem_map] at this
  unfold nmF
  rw [e]
  exact this
/-- what is left of a turn behind p picks -/
def lfF (y : Y) (t : List Nat) : Nat → List Nat
  | 0 => t
  | p + 1 => beh (lfF y t p) (inv (stF y p (nmF y p ((lfF y t p).getD p 0))))
def pkF (y : Y) (t : List Nat) (p : Nat) : Nat := nmF y p ((lfF y t p).getD p 0)
def picksL (y : Y) (t : List Nat) (i : Nat) : List Nat := (List.range i).map (pkF y t)
/-- one behind another: the steps of the places from n - 1 to n - i -/
def mkF (y : Y) (ks : Nat → Nat) : Nat → List Nat
  | 0 => idn y.n
  | i + 1 => beh (mkF y ks i) (stF y (y.n - 1 - i) (ks (y.n - 1 - i)))
theorem stab_beh {y : Y} (ok : y.Ok) {p : Nat} (hp : p ≤ y.n) {a b : List Nat} (ha : a ∈ stab y p) (hb : b ∈ stab y p) : beh a b ∈ stab y p := by
  obtain ⟨a1, a2⟩ := (stab_mem ok hp).mp ha
  obtain ⟨b1, b2⟩ := (stab_mem ok hp).mp hb
  refine (stab_mem ok hp).mpr ⟨iso_beh rfl a1 b1, fun i hi => ?_⟩
  rw [beh_get (by rw [a1.1.len]; omega), a2 i hi, b2 i hi]
theorem stab_mono {y : Y} (ok : y.Ok) {p : Nat} (hp : p < y.n) {a : List Nat} (ha : a ∈ stab y (p + 1)) : a ∈ stab y p := by
  obtain ⟨a1, a2⟩ := (stab_mem ok (by omega)).mp ha
  exact (stab_mem ok (by omega)).mpr ⟨a1, fun i hi => a2 i (by omega)⟩
/-- off with the step -/
theorem stab_off {y : Y} (ok : y.Ok) {p : Nat} (hp : p < y.n) {t s : List Nat} (ht : t ∈ stab y p) (hs : s ∈ stab y p) (e : s.getD p 0 = t.getD p 0) : beh t (inv s) ∈ stab y (p + 1) := by
  obtain ⟨t1, t2⟩ := (stab_mem ok (by omega)).mp ht
  obtain ⟨s1, s2⟩ := (stab_mem ok (by omega)).mp hs
  refine (stab_mem ok (by omega)).mpr ⟨iso_beh rfl t1 (iso_inv rfl s1), fun i hi => ?_⟩
  rw [beh_get (by rw [t1.1.len]; omega)]
  have lt := t1.1.get_lt (show i < y.n by omega)
  rw [inv_get (by rw [s1.1.len]; exact lt)]
  have : t.getD i 0 = s.getD i 0 := by
    by_cases z : i = p
    · rw [z, e]
    · rw [t2 i (by omega), s2 i (by omega)]
  rw [this, s1.1.idx_get (by omega)]
theorem lfF_stab {y : Y} (ok : y.Ok) {t : List Nat} (ht : IsoF y y t) : ∀ p, p ≤ y.n → lfF y t p ∈ stab y p
  | 0, _ => (stab_mem ok (Nat.zero_le _)).mpr ⟨ht, fun i hi => by omega⟩
  | p + 1, h => by
    have ih := lfF_stab ok ht p (by omega)
    obtain ⟨_, h2, h3⟩ := nmF_of ok (show p < y.n by omega) ih
    exact stab_off ok (by omega) ih (row_mem ok (by omega) h2).1 h3
theorem beh_back {n : Nat} {a s : List Nat} (ha : Nm n a) (hs : Nm n s) : beh (beh a (inv s)) s = a := by
  rw [beh_assoc ha (inv_nm hs), inv_beh hs, beh_id ha]
theorem beh_back' {n : Nat} {a s : List Nat} (ha : Nm n a) (hs : Nm n s) : beh (beh a s) (inv s) = a := by
  rw [beh_assoc ha hs, beh_inv hs, beh_id ha]
/-- the picks of a turn make it -/
theorem mk_lf {y : Y} (ok : y.Ok) {t : List Nat} (ht : IsoF y y t) {ks : Nat → Nat} (hk : ∀ p, p < y.n → ks p = pkF y t p) : ∀ i, i ≤ y.n → mkF y ks i = lfF y t (y.n - i)
  | 0, _ => by
    obtain ⟨h1, h2⟩ := (stab_mem ok (Nat.le_refl _)).mp (lfF_stab ok ht y.n (Nat.le_refl _))
    show idn y.n = lfF y t (y.n - 0)
    rw [Nat.sub_zero]
    exact ext_getD (idn_nm y.n).len h1.1.len fun i hi => by rw [h2 i hi, idn_get hi]
  | i + 1, h => by
    have hp : y.n - 1 - i < y.n := by omega
    have ih := mk_lf ok ht hk i (by omega)
    show beh (mkF y ks i) (stF y (y.n - 1 - i) (ks (y.n - 1 - i))) = lfF y t (y.n - (i + 1))
    rw [ih, hk _ hp, show y.n - (i + 1) = y.n - 1 - i by omega, show y.n - i = (y.n - 1 - i) + 1 by omega]
    have st := lfF_stab ok ht (y.n - 1 - i) (by omega)
    obtain ⟨_, h2, _⟩ := nmF_of ok hp st
    exact beh_back ((stab_mem ok (by omega)).mp st).1.1 ((stab_mem ok (by omega)).mp (row_mem ok hp h2).1).1.1
theorem mk_stab {y : Y} (ok : y.Ok) {ks : Nat → Nat} (hk : ∀ p, p < y.n → ks p < (row y p).length) : ∀ i, i ≤ y.n → mkF y ks i ∈ stab y (y.n - i)
  | 0, _ => (stab_mem ok (by omega)).mpr ⟨iso_id y, fun i hi => idn_get (by omega)⟩
  | i + 1, h => by
    have hp : y.n - 1 - i < y.n := by omega
    have ih := mk_stab ok hk i (by omega)
    rw [show y.n - i = (y.n - 1 - i) + 1 by omega] at ih
    rw [show y.n - (i + 1) = y.n - 1 - i by omega]
    exact stab_beh ok (by omega) (stab_mono ok hp ih) (row_mem ok hp (nmF_st ok hp (hk _ hp)).1).1
/-- picks of what picks make are the picks -/
theorem lf_mk {y : Y} (ok : y.Ok) {ks : Nat → Nat} (hk : ∀ p, p < y.n → ks p < (row y p).length) : ∀ p, p ≤ y.n → lfF y (mkF y ks y.n) p = mkF y ks (y.n - p) ∧ ∀ q, q < p → pkF y (mkF y ks y.n) q = ks q
  | 0, _ => ⟨by rw [Nat.sub_zero]; rfl, fun q hq => by omega⟩
  | p + 1, h => by
    obtain ⟨ih, ih2⟩ := lf_mk ok hk p (by omega)
    have hp : p < y.n := by omega
    have e : y.n - p = (y.n - (p + 1)) + 1 := by omega
    have e2 : y.n - 1 - (y.n - (p + 1)) = p := by omega
    have st := mk_stab ok hk (y.n - (p + 1)) (by omega)
    rw [show y.n - (y.n - (p + 1)) = p + 1 by omega] at st
    obtain ⟨m1, m2⟩ := nmF_st ok hp (hk p hp)
    have ss := (stab_mem ok (by omega)).mp (row_mem ok hp m1).1
    have sm := (stab_mem ok (by omega)).mp st
    have ev : (lfF y (mkF y ks y.n) p) = beh (mkF y ks (y.n - (p + 1))) (stF y p (ks p)) := by
      rw [ih, e]
      show beh _ (stF y (y.n - 1 - (y.n - (p + 1))) (ks (y.n - 1 - (y.n - (p + 1))))) = _
      rw [e2]
    have eg : (lfF y (mkF y ks y.n) p).getD p 0 = (stF y p (ks p)).getD p 0 := by
      rw [ev, beh_get (by rw [sm.1.1.len]; omega), sm.2 p (by omega)]
    have ek : pkF y (mkF y ks y.n) p = ks p := by
      unfold pkF
      rw [eg]
      exact m2
    refine ⟨?_, fun q hq => ?_⟩
    · show beh (lfF y (mkF y ks y.n) p) (inv (stF y p (nmF y p ((lfF y (mkF y ks y.n) p).getD p 0)))) = _
      rw [eg, m2, ev]
      exact beh_back' sm.1.1 ss.1.1
    · by_cases z : q = p
      · rw [z]; exact ek
      · exact ih2 q (by omega)
/-! ### no more than 5,040 turns -/
def fct : Nat → Nat
  | 0 => 1
  | n + 1 => (n + 1) * fct n
theorem prodN_le (y : Y) : ∀ i, i ≤ y.n → prodN y i * fct (y.n - i) ≤ fct y.n
  | 0, _ => by
    show 1 * _ ≤ _
    rw [Nat.one_mul, Nat.sub_zero]
    exact Nat.le_refl _
  | i + 1, h => by
    have ih := prodN_le y i (by omega)
    have e : y.n - i = (y.n - (i + 1)) + 1 := by omega
    have rl : (row y i).length ≤ y.n - i := rowJ_len y i _
    have f : fct (y.n - i) = (y.n - i) * fct (y.n - (i + 1)) := by rw [e]; rfl
    rw [f, ← Nat.mul_assoc] at ih
    rw [prodN_succ]
    exact Nat.le_trans (Nat.mul_le_mul_right _ (Nat.mul_le_mul_left _ rl)) ih
theorem fct_mono : ∀ {n : Nat}, n ≤ 7 → fct n ≤ 5040
  | 0, _ => by decide
  | 1, _ => by decide
  | 2, _ => by decide
  | 3, _ => by decide
  | 4, _ => by decide
  | 5, _ => by decide
  | 6, _ => by decide
  | 7, _ => by decide
  | n + 8, h => by omega
theorem lev_le {y : Y} (ok : y.Ok) : (lev y y y.n).length ≤ 5040 := by
  have h := prodN_le y y.n (Nat.le_refl _)
  rw [count_all ok, Nat.sub_self] at h
  have : (lev y y y.n).length * 1 ≤ fct y.n := h
  have := fct_mono ok.n7
  omega

/-! ### what comes of some turns, one behind another -/
inductive Com (n : Nat) (S : List (List Nat)) : List Nat → Prop
  | id : Com n S (idn n)
  | step {a s : List Nat} : Com n S a → s ∈ S → Com n S (beh a s)
theorem Com.nm {n : Nat} {S : List (List Nat)} (hS : ∀ s ∈ S, Nm n s) {a : List Nat} (h : Com n S a) : Nm n a := by
  induction h with
  | id => exact idn_nm n
  | step _ hs ih => exact beh_nm ih (hS _ hs)
theorem Com.beh {n : Nat} {S : List (List Nat)} (hS : ∀ s ∈ S, Nm n s) {a b : List Nat} (ha : Com n S a) (hb : Com n S b) : Com n S (beh a b) := by
  induction hb with
  | id => rw [beh_id (ha.nm hS)]; exact ha
  | step hb hs ih =>
    rw [← beh_assoc (ha.nm hS) (hb.nm hS)]
    exact ih.step hs
theorem Com.one {n : Nat} {S : List (List Nat)} (hS : ∀ s ∈ S, Nm n s) {s : List Nat} (h : s ∈ S) : Com n S s := by
  have := (Com.id (n := n) (S := S)).step h
  rwa [id_beh (hS s h).len] at this
theorem Com.up {n : Nat} {S T : List (List Nat)} (hT : ∀ s ∈ T, Nm n s) (h : ∀ s ∈ S, Com n T s) {a : List Nat} (ha : Com n S a) : Com n T a := by
  induction ha with
  | id => exact .id
  | step _ hs ih => exact ih.beh hT (h _ hs)
theorem Com.iso {y : Y} {S : List (List Nat)} (hS : ∀ s ∈ S, IsoF y y s) {a : List Nat} (h : Com y.n S a) : IsoF y y a := by
  induction h with
  | id => exact iso_id y
  | step _ hs ih => exact iso_beh rfl ih (hS _ hs)
/-- all of them, each once -/
structure Told (n : Nat) (S L : List (List Nat)) : Prop where
  nd : L.Nodup
  mem : ∀ x, x ∈ L ↔ Com n S x
theorem nodup_ls : ∀ (D l : List (List Nat)), l.Nodup → (∀ x ∈ l, x ∈ D) → l.length ≤ D.length
  | [], l, _, h => by
    cases l with
    | nil => exact Nat.le_refl _
    | cons a l => have := h a List.mem_cons_self; simp at this
  | d :: D, l, nd, h => by
    have e1 := nodup_ls D (l.erase d) (nd.erase d) fun x hx => by
      have h1 := h x (List.mem_of_mem_erase hx)
      have h2 : x ≠ d := ((nd.mem_erase_iff).mp hx).1
      exact (List.mem_cons.mp h1).resolve_left h2
    have e2 : l.length ≤ (l.erase d).length + 1 := by
      rw [List.length_erase]
      split <;> omega
    rw [List.length_cons]
    omega
theorem nd_map {f : List Nat → List Nat} {l : List (List Nat)} (nd : l.Nodup) (inj : ∀ a ∈ l, ∀ b ∈ l, f a = f b → a = b) : (l.map f).Nodup :=
  List.pairwise_map.mpr (nd.imp_of_mem fun {a b} ha hb ne e => ne (inj a ha b hb e))
theorem onto {f : List Nat → List Nat} {l : List (List Nat)} (nd : l.Nodup) (into : ∀ a ∈ l, f a ∈ l) (inj : ∀ a ∈ l, ∀ b ∈ l, f a = f b → a = b) {d : List Nat} (hd : d ∈ l) : ∃ a ∈ l, f a = d := by
  by_cases z : d ∈ l.map f
  · exact List.mem_map.mp z
  · have := nodup_ls l (d :: l.map f) (List.nodup_cons.mpr ⟨z, nd_map nd inj⟩) fun x hx => by
      rcases List.mem_cons.mp hx with e | e
      · rw [e]; exact hd
      · obtain ⟨a, ha, rfl⟩ := List.mem_map.mp e
        exact into a ha
    rw [List.length_cons, List.length_map] at this
    omega
theorem beh_left {n : Nat} {c x z : List Nat} (hc : Nm n c) (hx : Nm n x) (hz : Nm n z) (e : beh c x = beh c z) : x = z := by
  have h := congrArg (beh (inv c)) e
  rw [← beh_assoc (inv_nm hc) hc, ← beh_assoc (inv_nm hc) hc, inv_beh hc, id_beh hx.len, id_beh hz.len] at h
  exact h
theorem Told.double {n : Nat} {S L L' : List (List Nat)} {t : List Nat} (hS : ∀ s ∈ S, Nm n s) (ht : Nm n t) (h : Told n S L) (h' : Told n (S ++ [t]) L') (no : ¬ Com n S t) : 2 * L.length ≤ L'.length := by
  have hS' : ∀ s ∈ S ++ [t], Nm n s := fun s hs => by
    rcases List.mem_append.mp hs with z | z
    · exact hS s z
    · rw [List.mem_singleton.mp z]; exact ht
  have up : ∀ a, Com n S a → Com n (S ++ [t]) a := fun a ha => ha.up hS' fun s hs => Com.one hS' (List.mem_append_left _ hs)
  have nm : ∀ a ∈ L, Nm n a := fun a ha => ((h.mem a).mp ha).nm hS
  have nd2 : (L.map fun a => beh a t).Nodup := nd_map h.nd fun a ha b hb e => by
    have := congrArg (fun z => beh z (inv t)) e
    simp only [beh_back' (nm a ha) ht, beh_back' (nm b hb) ht] at this
    exact this
  have := nodup_ls L' (L ++ L.map fun a => beh a t) (List.nodup_append.mpr ⟨h.nd, nd2, fun d hd b hb e => ?_⟩) fun x hx => ?_
  · rw [List.length_append, List.length_map] at this
    omega
  · obtain ⟨c, hc, rfl⟩ := List.mem_map.mp hb
    obtain ⟨x, hx, e2⟩ := onto (f := beh c) h.nd (fun a ha => (h.mem _).mpr (((h.mem c).mp hc).beh hS ((h.mem a).mp ha))) (fun a ha b hb e => beh_left (nm c hc) (nm a ha) (nm b hb) e) hd
    rw [e] at e2
    have := beh_left (nm c hc) (nm x hx) ht e2
    rw [this] at hx
    exact no ((h.mem t).mp hx)
  · rcases List.mem_append.mp hx with z | z
    · exact (h'.mem x).mpr (up x ((h.mem x).mp z))
    · obtain ⟨c, hc, rfl⟩ := List.mem_map.mp z
      exact (h'.mem _).mpr ((up c ((h.mem c).mp hc)).step (List.mem_append_right _ List.mem_cons_self))
/-! few -/
open Classical in
noncomputable def fewT (n : Nat) (S : List (List Nat)) (t : List Nat) : List (List Nat) := if Com n S t then S else S ++ [t]
noncomputable def fewR (n : Nat) (S row : List (List Nat)) : List (List Nat) := row.foldl (fewT n) S
/-- behind i rows, the last place's first -/
noncomputable def fewI (y : Y) : Nat → List (List Nat)
  | 0 => []
  | i + 1 => fewR y.n (fewI y i) (row y (y.n - 1 - i))
theorem fewT_yes {n : Nat} {S : List (List Nat)} {t : List Nat} (h : Com n S t) : fewT n S t = S := if_pos h
theorem fewT_no {n : Nat} {S : List (List Nat)} {t : List Nat} (h : ¬ Com n S t) : fewT n S t = S ++ [t] := if_neg h
theorem fewT_sub {n : Nat} {S : List (List Nat)} {t s : List Nat} (h : s ∈ S) : s ∈ fewT n S t := by
  unfold fewT
  split
  · exact h
  · exact List.mem_append_left _ h
theorem fewT_all {n : Nat} {S : List (List Nat)} {t : List Nat} {P : List Nat → Prop} (hS : ∀ s ∈ S, P s) (ht : P t) : ∀ s ∈ fewT n S t, P s := by
  unfold fewT
  split
  · exact hS
  · intro s hs
    rcases List.mem_append.mp hs with z | z
    · exact hS s z
    · rw [List.mem_singleton.mp z]; exact ht
theorem fewT_com {n : Nat} {S : List (List Nat)} {t : List Nat} (hS : ∀ s ∈ S, Nm n s) (ht : Nm n t) : Com n (fewT n S t) t := by
  by_cases h : Com n S t
  · rw [fewT_yes h]; exact h
  · rw [fewT_no h]
    exact Com.one (fun s hs => by
      rcases List.mem_append.mp hs with z | z
      · exact hS s z
      · rw [List.mem_singleton.mp z]; exact ht) (List.mem_append_right _ List.mem_cons_self)
theorem fewR_snoc (n : Nat) (S row : List (List Nat)) (t : List Nat) : fewR n S (row ++ [t]) = fewT n (fewR n S row) t := by rw [fewR, List.foldl_append]; rfl
theorem fewR_sub {n : Nat} {s : List Nat} : ∀ {row S : List (List Nat)}, s ∈ S → s ∈ fewR n S row
  | [], _, h => h
  | t :: row, S, h => by
    show s ∈ fewR n (fewT n S t) row
    exact fewR_sub (fewT_sub h)
theorem fewR_all {n : Nat} {P : List Nat → Prop} : ∀ {row S : List (List Nat)}, (∀ s ∈ S, P s) → (∀ t ∈ row, P t) → ∀ s ∈ fewR n S row, P s
  | [], _, h, _ => h
  | t :: row, S, h, h2 => by
    show ∀ s ∈ fewR n (fewT n S t) row, P s
    exact fewR_all (fewT_all h (h2 t List.mem_cons_self)) fun u hu => h2 u (List.mem_cons_of_mem _ hu)
theorem fewR_com {n : Nat} : ∀ {row S : List (List Nat)}, (∀ s ∈ S, Nm n s) → (∀ t ∈ row, Nm n t) → ∀ t ∈ row, Com n (fewR n S row) t
  | [], _, _, _, t, h => by cases h
  | u :: row, S, hS, hr, t, h => by
    have hu := hr u List.mem_cons_self
    have hr' : ∀ t ∈ row, Nm n t := fun t ht => hr t (List.mem_cons_of_mem _ ht)
    have hS' := fewT_all (n := n) (t := u) (P := Nm n) hS hu
    show Com n (fewR n (fewT n S u) row) t
    rcases List.mem_cons.mp h with e | z
    · rw [e]
      exact (fewT_com hS hu).up (fewR_all hS' hr') fun s hs => Com.one (fewR_all hS' hr') (fewR_sub hs)
    · exact fewR_com hS' hr' t z
theorem row_iso {y : Y} (ok : y.Ok) {p : Nat} (hp : p < y.n) : ∀ t ∈ row y p, IsoF y y t := fun t ht => ((stab_mem ok (by omega)).mp (row_mem ok hp ht).1).1
theorem fewI_iso {y : Y} (ok : y.Ok) : ∀ i, i ≤ y.n → ∀ s ∈ fewI y i, IsoF y y s
  | 0, _, s, h => by cases h
  | i + 1, hi, s, h => by
    rw [fewI] at h
    exact fewR_all (fewI_iso ok i (by omega)) (row_iso ok (by omega)) s h
theorem fewI_row {y : Y} (ok : y.Ok) : ∀ i, i ≤ y.n → ∀ p, p < y.n → y.n - i ≤ p → ∀ t ∈ row y p, Com y.n (fewI y i) t
  | 0, _, p, hp, h, t, _ => by omega
  | i + 1, hi, p, hp, h, t, ht => by
    have nmI : ∀ s ∈ fewI y i, Nm y.n s := fun s hs => (fewI_iso ok i (by omega) s hs).nm
    have nmR : ∀ s ∈ row y (y.n - 1 - i), Nm y.n s := fun s hs => (row_iso ok (by omega) s hs).nm
    rw [fewI]
    by_cases z : p = y.n - 1 - i
    · rw [z] at ht
      exact fewR_com nmI nmR t ht
    · exact (fewI_row ok i (by omega) p hp (by omega) t ht).up (fewR_all nmI nmR) fun s hs => Com.one (fewR_all nmI nmR) (fewR_sub hs)
theorem few_all {y : Y} (ok : y.Ok) {t : List Nat} (ht : IsoF y y t) : Com y.n (fewI y y.n) t := by
  have nmI : ∀ s ∈ fewI y y.n, Nm y.n s := fun s hs => (fewI_iso ok y.n (Nat.le_refl _) s hs).nm
  have h : ∀ i, i ≤ y.n → Com y.n (fewI y y.n) (mkF y (pkF y t) i) := fun i => by
    induction i with
    | zero => intro _; exact .id
    | succ i ih =>
      intro hi
      have hp : y.n - 1 - i < y.n := by omega
      exact (ih (by omega)).beh nmI (fewI_row ok y.n (Nat.le_refl _) _ hp (by omega) _ (nmF_of ok hp (lfF_stab ok ht _ (by omega))).2.1)
  have := h y.n (Nat.le_refl _)
  rw [mk_lf ok ht (fun p _ => rfl) y.n (Nat.le_refl _), Nat.sub_self] at this
  exact this
theorem few_told {y : Y} (ok : y.Ok) {L : List (List Nat)} (h : Told y.n (fewI y y.n) L) : L.length = (lev y y y.n).length := by
  have e : ∀ x, x ∈ L ↔ x ∈ lev y y y.n := fun x => by
    rw [h.mem, isoF_iff ok ok]
    exact ⟨fun z => z.iso (fewI_iso ok y.n (Nat.le_refl _)), few_all ok⟩
  exact ((List.perm_ext_iff_of_nodup h.nd (lev_nodup y y y.n)).mpr e).length_eq

/-! ### the going through: what is found so far, what waits -/
structure Run (n : Nat) (S ks W : List (List Nat)) (P : List Nat → Prop) : Prop where
  nd : ks.Nodup
  id : idn n ∈ ks
  com : ∀ x ∈ ks, Com n S x
  sub : ∀ x ∈ W, x ∈ ks
  wl : W.length ≤ ks.length
  cl : ∀ x ∈ ks, x ∉ W → P x → ∀ s ∈ S, beh x s ∈ ks
theorem Run.start (n : Nat) (S : List (List Nat)) : Run n S [idn n] [idn n] (fun _ => True) :=
  ⟨by simp, List.mem_cons_self, fun x hx => by rw [List.mem_singleton.mp hx]; exact .id, fun x hx => hx, Nat.le_refl _, fun x hx h => absurd hx h⟩
theorem Run.pop {n : Nat} {S ks W : List (List Nat)} {x : List Nat} (h : Run n S ks (W ++ [x]) (fun _ => True)) : Run n S ks W (fun z => z ≠ x) ∧ x ∈ ks :=
  ⟨⟨h.nd, h.id, h.com, fun z hz => h.sub z (List.mem_append_left _ hz), by have := h.wl; rw [List.length_append, List.length_singleton] at this; omega, fun z hz hn hp => h.cl z hz (fun q => by
    rcases List.mem_append.mp q with y | y
    · exact hn y
    · exact hp (List.mem_singleton.mp y)) trivial⟩, h.sub x (List.mem_append_right _ List.mem_cons_self)⟩
theorem Run.add {n : Nat} {S ks W : List (List Nat)} {P : List Nat → Prop} {x s : List Nat} (h : Run n S ks W P) (hx : x ∈ ks) (hs : s ∈ S) (new : beh x s ∉ ks) : Run n S (ks ++ [beh x s]) (W ++ [beh x s]) P := by
  refine ⟨?_, List.mem_append_left _ h.id, fun z hz => ?_, fun z hz => ?_, by have := h.wl; simp; exact this, fun z hz hn hp t ht => ?_⟩
  · rw [List.nodup_append]
    refine ⟨h.nd, by simp, fun a ha b hb e => ?_⟩
    rw [List.mem_singleton.mp hb] at e
    rw [e] at ha
    exact new ha
  · rcases List.mem_append.mp hz with y | y
    · exact h.com z y
    · rw [List.mem_singleton.mp y]; exact (h.com x hx).step hs
  · rcases List.mem_append.mp hz with y | y
    · exact List.mem_append_left _ (h.sub z y)
    · exact List.mem_append_right _ y
  · rcases List.mem_append.mp hz with y | y
    · exact List.mem_append_left _ (h.cl z y (fun q => hn (List.mem_append_left _ q)) hp t ht)
    · exact absurd (List.mem_append_right _ y) hn
theorem Run.close {n : Nat} {S ks W : List (List Nat)} {x : List Nat} (h : Run n S ks W (fun z => z ≠ x)) (hc : ∀ s ∈ S, beh x s ∈ ks) : Run n S ks W (fun _ => True) :=
  ⟨h.nd, h.id, h.com, h.sub, h.wl, fun z hz hn _ => by
    by_cases e : z = x
    · rw [e]; exact hc
    · exact h.cl z hz hn e⟩
theorem Run.told {n : Nat} {S ks : List (List Nat)} (h : Run n S ks [] (fun _ => True)) : Told n S ks := by
  refine ⟨h.nd, fun x => ⟨h.com x, fun c => ?_⟩⟩
  induction c with
  | id => exact h.id
  | step _ hs ih => exact h.cl _ ih (fun q => by cases q) trivial _ hs
theorem Told.perm {n : Nat} {S L L' : List (List Nat)} (h : Told n S L) (p : L'.Perm L) : Told n S L' := ⟨p.nodup_iff.mpr h.nd, fun x => by rw [p.mem_iff]; exact h.mem x⟩
theorem Run.few {y : Y} (ok : y.Ok) {S ks W : List (List Nat)} {P : List Nat → Prop} (hS : ∀ s ∈ S, IsoF y y s) (h : Run y.n S ks W P) : ks.length ≤ (lev y y y.n).length := nodup_ls _ _ h.nd fun x hx => (isoF_iff ok ok).mpr ((h.com x hx).iso hS)
theorem Run.ne {n : Nat} (n1 : 1 ≤ n) {S ks W : List (List Nat)} {P : List Nat → Prop} (hS : ∀ s ∈ S, Nm n s) (h : Run n S ks W P) : ∀ k ∈ ks.map nsI, k ≠ [] := fun k hk e => by
  obtain ⟨x, hx, rfl⟩ := List.mem_map.mp hk
  have := ((h.com x hx).nm hS).len
  rw [show x = [] from nsI_inj e] at this
  simp at this
  omega
/-- a list of keys, in another order -/
theorem perm_keys : ∀ {ls : List (List Int)} {ks : List (List Nat)}, ls.Perm (ks.map nsI) → ∃ L : List (List Nat), L.Perm ks ∧ ls = L.map nsI := fun {ls ks} h => by
  have back : ∀ ls : List (List Int), (∀ l ∈ ls, ∃ x ∈ ks, nsI x = l) → ∃ L : List (List Nat), ls = L.map nsI := fun ls => by
    induction ls with
    | nil => exact fun _ => ⟨[], rfl⟩
    | cons l ls ih =>
      intro hl
      obtain ⟨x, _, e⟩ := hl l List.mem_cons_self
      obtain ⟨L, eL⟩ := ih fun m hm => hl m (List.mem_cons_of_mem _ hm)
      exact ⟨x :: L, by rw [List.map_cons, e, eL]⟩
  obtain ⟨L, rfl⟩ := back ls fun l hl => List.mem_map.mp (h.mem_iff.mp hl)
  refine ⟨L, ?_, rfl⟩
  have h2 := h.map (fun l : List Int => l.map Int.toNat)
  rw [List.map_map, List.map_map] at h2
  have e : ((fun l : List Int => l.map Int.toNat) ∘ nsI) = fun l : List Nat => l := by
    funext l
    show (nsI l).map Int.toNat = l
    unfold nsI
    rw [List.map_map]
    exact (List.map_congr_left fun a _ => by simp).trans (List.map_id l)
  rw [e, List.map_id', List.map_id'] at h2
  exact h2
theorem wait_eqv (W : List (List Nat)) : PyData.eqv (.list (W.map NL)) (.list []) = decide (W = []) := by
  cases W with
  | nil => simp [PyData.eqv, PyData.eqvAll]
  | cons a W => simp [PyData.eqv, PyData.eqvAll]
theorem front_eqv (W : List (List Nat)) : PyData.eqv (.list (W.map fun l => .tuple (l.map nI))) (.list []) = decide (W = []) := by
  cases W with
  | nil => simp [PyData.eqv, PyData.eqvAll]
  | cons a W => simp [PyData.eqv, PyData.eqvAll]
/-- told, and the doublings -/
structure TD (n : Nat) (S L : List (List Nat)) : Prop where
  td : Told n S L
  pw : 2 ^ S.length ≤ L.length
theorem TD.nil {n : Nat} {L : List (List Nat)} (h : Told n [] L) : TD n [] L := ⟨h, by
  have := List.length_pos_of_mem ((h.mem _).mpr (.id (n := n) (S := [])))
  show 1 ≤ _
  omega⟩
theorem TD.more {n : Nat} {S L L' : List (List Nat)} {t : List Nat} (hS : ∀ s ∈ S, Nm n s) (ht : Nm n t) (h : TD n S L) (h' : Told n (S ++ [t]) L') (no : ¬ Com n S t) : TD n (S ++ [t]) L' := ⟨h', by
  have := h.td.double hS ht h' no
  have := h.pw
  rw [List.length_append, List.length_singleton, Nat.pow_succ]
  omega⟩
theorem TD.few {y : Y} (ok : y.Ok) {S L : List (List Nat)} (hS : ∀ s ∈ S, IsoF y y s) (h : TD y.n S L) : S.length < (lev y y y.n).length := by
  have e1 : L.length ≤ (lev y y y.n).length := nodup_ls _ _ h.td.nd fun x hx => (isoF_iff ok ok).mpr (((h.td.mem x).mp hx).iso hS)
  have e2 := h.pw
  have e3 : S.length < 2 ^ S.length := Nat.lt_two_pow_self
  omega
theorem iso_more {y : Y} {S : List (List Nat)} {t : List Nat} (hS : ∀ s ∈ S, IsoF y y s) (ht : IsoF y y t) : ∀ s ∈ S ++ [t], IsoF y y s := fun s hs => by
  rcases List.mem_append.mp hs with z | z
  · exact hS s z
  · rw [List.mem_singleton.mp z]; exact ht

local macro_rules | `(tactic| walk_at "wd") => `(tactic| ((walk_at "wp"); (try simp only [dttK_d, dnK_d, dnK_f, ftK_f, ltK_l, tuK_n, e_tnew, e_tfz, e_lenT, e_sortT, e_lnin, e_tnin, e_tput, e_borL, nlA_lt, nlA_ft, frK_dtt, frK_ft, frK_lt, rtK_ft, rtK_lt, unfrA_ft, unfrA_dtt, unfrA_lt, fzK_ft, fzK_dtt, fzK_lt, nameK_ft, e_clr0, clr0K_l, e_guard, true_and, e_tupRg]); (walk_at "wp"); (try simp only [dttK_d, dnK_d, dnK_f, ftK_f, ltK_l, tuK_n, e_tnew, e_tfz, e_lenT, e_sortT, e_lnin, e_tnin, e_tput, e_borL, nlA_lt, nlA_ft, frK_dtt, frK_ft, frK_lt, rtK_ft, rtK_lt, unfrA_ft, unfrA_dtt, unfrA_lt, fzK_ft, fzK_dtt, fzK_lt, nameK_ft, e_clr0, clr0K_l, e_guard, true_and, e_tupRg]); (walk_at "wp"); (try simp only [dttK_d, dnK_d, dnK_f, ftK_f, ltK_l, tuK_n, e_tnew, e_tfz, e_lenT, e_sortT, e_lnin, e_tnin, e_tput, e_borL, nlA_lt, nlA_ft, frK_dtt, frK_ft, frK_lt, rtK_ft, rtK_lt, unfrA_ft, unfrA_dtt, unfrA_lt, fzK_ft, fzK_dtt, fzK_lt, nameK_ft, e_clr0, clr0K_l, e_guard, true_and, e_tupRg]); (walk_at "wp"); (try simp only [dttK_d, dnK_d, dnK_f, ftK_f, ltK_l, tuK_n, e_tnew, e_tfz, e_lenT, e_sortT, e_lnin, e_tnin, e_tput, e_borL, nlA_lt, nlA_ft, frK_dtt, frK_ft, frK_lt, rtK_ft, rtK_lt, unfrA_ft, unfrA_dtt, unfrA_lt, fzK_ft, fzK_dtt, fzK_lt, nameK_ft, e_clr0, clr0K_l, e_guard, true_and, e_tupRg]); (walk_at "wp")))
/-! ### behind, told_by, few -/
def spBehind : Spc := fun as Q => ∃ a b : List Nat, as = [.d (NL a), .d (NL b)] ∧ a.length ≤ 7 ∧ (∀ x ∈ a, x < b.length) ∧ Q (.own ((beh a b).map nI))
theorem c_behind (T : Txt K mg C) : Cal P w K mg base C "behind" 1 spBehind := by
  refine cal_of T.d_behind sc_behind (fun as Q h => by obtain ⟨_, _, rfl, _⟩ := h; rfl) fun f cdv A0 outer s H E hr G F as Q hs => ?_
  obtain ⟨a, b, rfl, h7, hlt, hQ⟩ := hs
  refine ⟨_, _, (pss_oneA (ps_retA (pd_lc [("name", 2)] sc_behind.nd (pi_listA (K := K) (pd_var 0)) (blkOk_by (N := n_behind) (sc := defScope s_behind) (by decide +kernel)) (fun _ _ _ _ _ => (pg_nameA 2 sc_behind.nd)) (fun _ _ _ _ _ => pts_nilA) (fun _ _ _ _ _ => (pd_ix (K := K) (pd_var 1) (pd_var 2))) (gw_name (by decide))))), ?_⟩
  walk_at "wd"
  refine ⟨fun i acc => acc = (beh (a.take i) b).map nI, rfl, fun i d acc hd hI => ⟨fun _ => ?_, fun z => (by cases z)⟩, ?_⟩
  · rw [List.getElem?_map] at hd
    obtain ⟨x, ex, rfl⟩ := Option.map_eq_some_iff.mp hd
    subst hI
    have hi := (List.getElem?_eq_some_iff.mp ex).1
    have hx := hlt x (List.mem_of_getElem? ex)
    walk_at "wd"
    refine ⟨_, at_names hx, ?_⟩
    walk_at "wd"
    refine ⟨sz_lt (by rw [beh_len, List.length_take]; omega), ?_⟩
    rw [List.take_succ, ex]
    unfold beh
    simp only [List.map_append, Option.toList, List.map_cons, List.map_nil]
    try rw [getD_get hx]
  rintro acc rfl
  rw [List.take_of_length_le (Nat.le_refl _)]
  exact hQ
def spTold : Spc := fun as Q => ∃ (y : Y) (S : List (List Nat)), as = [.d (.list (S.map NL)), .d (nI y.n)] ∧ y.Ok ∧ (∀ s ∈ S, IsoF y y s) ∧ ∀ L, Told y.n S L → Q (.lt (L.map nsI))
theorem c_told_by (T : Txt K mg C) : Cal P w K mg base C "told_by" 2 spTold := by
  have c_behind := c_behind (P := P) (w := w) (base := base) T
  refine cal_of T.d_told_by sc_told_by (fun as Q h => by obtain ⟨_, _, rfl, _⟩ := h; rfl) fun f cdv A0 outer s H E hr G F as Q hs => ?_
  obtain ⟨y, S, rfl, ok, hS, hQ⟩ := hs
  refine ⟨_, _, (pss_consA (ps_setA (i := 2) sc_told_by.nd (pd_tnew hr (pd_tupRg T.tuple (pr_1 T.range (pd_var 1))) pd_bl))
  (pss_consA (ps_setA (i := 3) sc_told_by.nd (pd_lst (pda_cons (pd_lstRg T.list (pr_1 T.range (pd_var 1))) pda_nil)))
  (pss_consA (ps_whileA (pt_ne (K := K) hr (pd_var 3) (pd_lst pda_nil)) (pss_consA (ps_popSetA (y := 4) sc_told_by.nd (pd_var 3))
  (pss_oneA (ps_forA (pi_listA (K := K) (pd_var 0)) (pg_nameA 5 sc_told_by.nd) (pss_consA (ps_setA (i := 6) sc_told_by.nd (pd_call c_behind hr (by omega) (pda_cons (pd_var 4) (pda_cons (pd_var 5) pda_nil))))
  (pss_oneA (ps_ifA (pt_tninA hr (pd_tuple (K := K) T.tuple (pda_cons (pd_var 6) pda_nil)) (pd_var 2)) (pss_consA (ps_tputB hr (pd_var 2) (pd_tuple (K := K) T.tuple (pda_cons (pd_var 6) pda_nil)) pd_bl)
  (pss_oneA (ps_fz 6 (ps_appA (pd_var 3) (pd_var 6))))) pss_nilA))) PassesOwn.never))) PassesOwn.never)
  (pss_oneA (ps_retA (pd_sortTB hr T.sorted (pd_var 2))))))), ?_⟩
  have h7 := ok.n7
  have n1 := ok.n1
  walk_at "wd"
  have ll : (lev y y y.n).length ≤ 7 ^ 7 := Nat.le_trans (lev_len y y y.n) (Nat.le_trans (Nat.pow_le_pow_left h7 _) (Nat.pow_le_pow_right (by decide) h7))
  have big : 7 ^ 7 < sizeLine := by decide
  have nmS : ∀ s ∈ S, Nm y.n s := fun s hs => (hS s hs).nm
  rw [show ((y.n : Int) - 0).toNat = y.n by omega, rgD0]
  refine ⟨by unfold RgOk; omega, ?_⟩
  walk_at "wd"
  refine ⟨by unfold RgOk; omega, by decide, fun m ρ => ∃ ks W a4 a5 a6, ρ = [.d (.list (S.map NL)), .d (nI y.n), .dtt (ks.map nsI), .own (W.map NL), a4, a5, a6] ∧ Run y.n S ks W (fun _ => True) ∧ m = 2 * ((lev y y y.n).length - ks.length) + W.length,
    ⟨_, [idn y.n], [idn y.n], _, _, _, rfl, Run.start y.n S, rfl⟩, fun m ρ hI => ?_⟩
  obtain ⟨ks, W, a4, a5, a6, rfl, hR, rfl⟩ := hI
  walk_at "wd"
  refine ⟨Nat.zero_le _, shaped_NLs _, shaped_names [], ?_⟩
  rw [wait_eqv]
  refine ⟨fun hc => ?_, fun hc => ?_⟩
  · rcases List.eq_nil_or_concat W with e | ⟨W0, here, e⟩
    · subst e
      exact absurd hc (by decide)
    · rw [List.concat_eq_append] at e
      subst e
      obtain ⟨hR, hh⟩ := hR.pop
      walk_at "wd"
      refine ⟨NL here, by simp, ?_⟩
      rw [show ((W0 ++ [here]).map NL).dropLast = W0.map NL by simp]
      walk_at "wd"
      have nmh := (hR.com here hh).nm nmS
      refine ⟨fun i ρ => ∃ ks' W' a5 a6, ρ = [.d (.list (S.map NL)), .d (nI y.n), .dtt (ks'.map nsI), .own (W'.map NL), .d (NL here), a5, a6] ∧ Run y.n S ks' W' (fun z => z ≠ here) ∧ here ∈ ks' ∧ (∀ j s, j < i → S[j]? = some s → beh here s ∈ ks') ∧
        2 * ((lev y y y.n).length - ks'.length) + W'.length ≤ 2 * ((lev y y y.n).length - ks.length) + W0.length, ⟨_, _, _, _, rfl, hR, hh, fun j s h => by omega, Nat.le_refl _⟩, fun i d ρ hd hI => ?_, fun ρ hI => ?_⟩
      · rw [List.getElem?_map] at hd
        obtain ⟨t, et, rfl⟩ := Option.map_eq_some_iff.mp hd
        obtain ⟨ks', W', a5, a6, rfl, hR', hh', hc', hm⟩ := hI
        have ht := List.mem_of_getElem? et
        have nmt := nmS t ht
        walk_at "wd"
        refine ⟨here, t, rfl, by rw [nmh.len]; exact h7, fun x hx => by rw [nmt.len]; exact nmh.lt x hx, ?_⟩
        walk_at "wd"
        have few' := hR'.few ok hS
        have clo : ∀ {K : List (List Nat)}, (∀ x ∈ ks', x ∈ K) → beh here t ∈ K → ∀ j s, j < i + 1 → S[j]? = some s → beh here s ∈ K := fun {K} sub hb j s hj es => by
          by_cases z : j = i
          · subst z
            rw [et] at es
            cases es
            exact hb
          · exact sub _ (hc' j s (by omega) es)
        refine ⟨fun hn => ?_, fun hn => ?_⟩
        · have hn : beh here t ∉ ks' := fun z => by
            have : nsI (beh here t) ∈ ks'.map nsI := nsI_mem.mpr z
            simp [this] at hn
          have hA := hR'.add hh' ht hn
          have fewA := hA.few ok hS
          rw [List.length_append, List.length_singleton] at fewA
          refine ⟨by omega, fun z => hn (nsI_mem.mp z), ?_⟩
          walk_at "wd"
          refine ⟨by have := hR'.wl; omega, ks' ++ [beh here t], W' ++ [beh here t], _, _, by rw [List.map_append, List.map_append]; rfl, hA, List.mem_append_left _ hh', clo (fun x hx => List.mem_append_left _ hx) (List.mem_append_right _ List.mem_cons_self), ?_⟩
          rw [List.length_append, List.length_append, List.length_singleton]
          omega
        · have hn : beh here t ∈ ks' := by
            refine nsI_mem.mp ?_
            simpa using hn
          exact ⟨_, _, _, _, rfl, hR', hh', clo (fun x hx => hx) hn, hm⟩
      · obtain ⟨ks', W', a5, a6, rfl, hR', hh', hc', hm⟩ := hI
        refine ⟨_, ?_, ks', W', _, _, _, rfl, hR'.close fun s hs => ?_, rfl⟩
        · rw [List.length_append, List.length_singleton]
          omega
        · obtain ⟨j, ej⟩ := List.mem_iff_getElem?.mp hs
          exact hc' j s (List.getElem?_eq_some_iff.mp ej).1 ej
  · have e : W = [] := by simpa using hc
    subst e
    have hT := hR.told
    walk_at "wd"
    refine ⟨hR.ne n1 nmS, fun ls hp => ?_⟩
    walk_at "wd"
    obtain ⟨L, pL, rfl⟩ := perm_keys hp
    exact hQ L (hT.perm pL)
def spFew : Spc := fun as Q => ∃ (y : Y), as = [yA y] ∧ y.Ok ∧ Q (.own ((fewI y y.n).map NL))
theorem c_few (T : Txt K mg C) : Cal P w K mg base C "few" 13 spFew := by
  have c_steps := c_steps (P := P) (w := w) (base := base) T
  have c_told_by := c_told_by (P := P) (w := w) (base := base) T
  have m_many := m_many (P := P) (w := w) (base := base) T
  refine cal_of T.d_few sc_few (fun as Q h => by obtain ⟨_, rfl, _⟩ := h; rfl) fun f cdv A0 outer s H E hr G F as Q hs => ?_
  obtain ⟨y, rfl, ok, hQ⟩ := hs
  have h7 := ok.n7
  have n1 := ok.n1
  refine ⟨_, _, (pss_consA (ps_setA (i := 1) sc_few.nd (pd_lst pda_nil))
  (pss_consA (ps_setA (i := 2) sc_few.nd (pd_borL 1 (pd_call c_told_by hr (by omega) (pda_cons (pd_var 1) (pda_cons (pd_meth0 m_many hr (by omega) (pd_var 0)) pda_nil)))))
  (pss_consA (ps_forA (pi_revA (K := K) T.reversed (pda_cons (pd_call c_steps hr (by omega) (pda_cons (pd_var 0) pda_nil)) pda_nil)) (pg_nameA 3 sc_few.nd) (pss_oneA (ps_forA (pi_listA (K := K) (pd_var 3)) (pg_nameA 4 sc_few.nd) (pss_oneA (ps_ifA (pt_lninA (K := K) hr (pd_tuple (K := K) T.tuple (pda_cons (pd_var 4) pda_nil)) (pd_var 2)) (pss_consA (ps_appA (pd_var 1) (pd_var 4))
  (pss_oneA (ps_setA (i := 2) sc_few.nd (pd_borL 1 (pd_call c_told_by hr (by omega) (pda_cons (pd_var 1) (pda_cons (pd_meth0 m_many hr (by omega) (pd_var 0)) pda_nil))))))) pss_nilA)) PassesOwn.never)) PassesOwn.never)
  (pss_oneA (ps_retA (pd_var 1)))))), ?_⟩
  have ll : (lev y y y.n).length ≤ 7 ^ 7 := Nat.le_trans (lev_len y y y.n) (Nat.le_trans (Nat.pow_le_pow_left h7 _) (Nat.pow_le_pow_right (by decide) h7))
  have big : 7 ^ 7 < sizeLine := by decide
  walk_at "wd"
  refine ⟨Nat.zero_le _, y, rfl, ?_⟩
  walk_at "wd"
  refine ⟨y, [], rfl, ok, fun s hs => (by cases hs), fun L0 hL0 => ?_⟩
  walk_at "wd"
  refine ⟨y, rfl, ok, ?_⟩
  walk_at "wd"
  have sl : (stepsL y y.n).length = y.n := by simp [stepsL]
  refine ⟨fun i ρ => ∃ L a3 a4, ρ = [yA y, .own ((fewI y i).map NL), .lt (L.map nsI), a3, a4] ∧ TD y.n (fewI y i) L, ⟨L0, _, _, rfl, .nil hL0⟩, fun i d ρ hd hI => ?_, fun ρ hI => ?_⟩
  · obtain ⟨L, a3, a4, rfl, hL⟩ := hI
    obtain ⟨hi, ed⟩ := List.getElem?_eq_some_iff.mp hd
    rw [List.length_reverse, sl] at hi
    have ed : d = .list ((row y (y.n - 1 - i)).map NL) := by
      rw [List.getElem?_reverse (by rw [sl]; exact hi), sl] at hd
      unfold stepsL at hd
      rw [List.getElem?_map, List.getElem?_range (by omega)] at hd
      exact (Option.some.inj hd).symm
    subst ed
    have hp : y.n - 1 - i < y.n := by omega
    walk_at "wd"
    refine ⟨fun j ρ => ∃ L a4, ρ = [yA y, .own ((fewR y.n (fewI y i) ((row y (y.n - 1 - i)).take j)).map NL), .lt (L.map nsI), .d (.list ((row y (y.n - 1 - i)).map NL)), a4] ∧ TD y.n (fewR y.n (fewI y i) ((row y (y.n - 1 - i)).take j)) L, ⟨L, _, rfl, hL⟩, fun j d ρ hd hI => ?_, fun ρ hI => ?_⟩
    · rw [List.getElem?_map] at hd
      obtain ⟨t, et, rfl⟩ := Option.map_eq_some_iff.mp hd
      obtain ⟨L, a4, rfl, hL⟩ := hI
      have ht := row_iso ok hp t (List.mem_of_getElem? et)
      have e1 : fewR y.n (fewI y i) ((row y (y.n - 1 - i)).take (j + 1)) = fewT y.n (fewR y.n (fewI y i) ((row y (y.n - 1 - i)).take j)) t := by
        rw [List.take_succ, et, ← fewR_snoc]
        rfl
      have hS : ∀ s ∈ fewR y.n (fewI y i) ((row y (y.n - 1 - i)).take j), IsoF y y s := fewR_all (fewI_iso ok i (by omega)) fun s hs => row_iso ok hp s (List.mem_of_mem_take hs)
      dsimp only
      rw [e1]
      generalize fewR y.n (fewI y i) ((row y (y.n - 1 - i)).take j) = S at hL hS ⊢
      walk_at "wd"
      refine ⟨fun hn => ?_, fun hn => ?_⟩
      · have hn : t ∉ L := fun z => by
          have : nsI t ∈ L.map nsI := nsI_mem.mpr z
          simp [this] at hn
        have no : ¬ Com y.n S t := fun z => hn ((hL.td.mem t).mpr z)
        rw [fewT_no no]
        walk_at "wd"
        have fw := hL.few ok hS
        refine ⟨by omega, y, rfl, ?_⟩
        walk_at "wd"
        refine ⟨y, S ++ [t], by rw [List.map_append]; rfl, ok, iso_more hS ht, fun L' hL' => ?_⟩
        walk_at "wd"
        exact ⟨L', _, by rw [List.map_append]; rfl, hL.more (fun s hs => (hS s hs).nm) ht.nm hL' no⟩
      · have hn : t ∈ L := by
          refine nsI_mem.mp ?_
          simpa using hn
        rw [fewT_yes ((hL.td.mem t).mp hn)]
        exact ⟨L, _, rfl, hL⟩
    · obtain ⟨L, a4, rfl, hL⟩ := hI
      rw [List.take_length] at hL
      rw [List.take_length]
      exact ⟨L, _, _, rfl, hL⟩
  · obtain ⟨L, a3, a4, rfl, hL⟩ := hI
    rw [List.length_reverse, sl]
    walk_at "wd"
    exact hQ

local macro_rules | `(tactic| walk_at "wd") => `(tactic| ((walk_at "wp"); (try simp only [dttK_d, dnK_d, dnK_f, ftK_f, ltK_l, tuK_n, e_tnew, e_tfz, e_lenT, e_sortT, e_lnin, e_tnin, e_tput, e_borL, nlA_lt, nlA_ft, frK_dtt, frK_ft, frK_lt, rtK_ft, rtK_lt, unfrA_ft, unfrA_dtt, unfrA_lt, fzK_ft, fzK_dtt, fzK_lt, nameK_ft, e_clr0, clr0K_l, e_guard, true_and, e_tupRg]); (walk_at "wp"); (try simp only [dttK_d, dnK_d, dnK_f, ftK_f, ltK_l, tuK_n, e_tnew, e_tfz, e_lenT, e_sortT, e_lnin, e_tnin, e_tput, e_borL, nlA_lt, nlA_ft, frK_dtt, frK_ft, frK_lt, rtK_ft, rtK_lt, unfrA_ft, unfrA_dtt, unfrA_lt, fzK_ft, fzK_dtt, fzK_lt, nameK_ft, e_clr0, clr0K_l, e_guard, true_and, e_tupRg]); (walk_at "wp"); (try simp only [dttK_d, dnK_d, dnK_f, ftK_f, ltK_l, tuK_n, e_tnew, e_tfz, e_lenT, e_sortT, e_lnin, e_tnin, e_tput, e_borL, nlA_lt, nlA_ft, frK_dtt, frK_ft, frK_lt, rtK_ft, rtK_lt, unfrA_ft, unfrA_dtt, unfrA_lt, fzK_ft, fzK_dtt, fzK_lt, nameK_ft, e_clr0, clr0K_l, e_guard, true_and, e_tupRg]); (walk_at "wp"); (try simp only [dttK_d, dnK_d, dnK_f, ftK_f, ltK_l, tuK_n, e_tnew, e_tfz, e_lenT, e_sortT, e_lnin, e_tnin, e_tput, e_borL, nlA_lt, nlA_ft, frK_dtt, frK_ft, frK_lt, rtK_ft, rtK_lt, unfrA_ft, unfrA_dtt, unfrA_lt, fzK_ft, fzK_dtt, fzK_lt, nameK_ft, e_clr0, clr0K_l, e_guard, true_and, e_tupRg]); (walk_at "wp")))
/-! ### _law_come_of, _law_doubled -/
def spCome : Spc := fun as Q => ∃ (y : Y) (S : List (List Nat)), as = [.d (.list (S.map NL)), .d (nI y.n)] ∧ y.Ok ∧ (∀ s ∈ S, IsoF y y s) ∧ ∀ L, Told y.n S L → Q (.ft (L.map nsI))
abbrev TL (l : List Nat) : PyData := .tuple (l.map nI)
theorem shaped_TLs (W : List (List Nat)) : SeqAt.shaped (.list (W.map TL)) = true := by
  have e : W.map TL = (W.map nsI).map intsD := by
    rw [List.map_map]
    refine List.map_congr_left fun l _ => ?_
    show PyData.tuple _ = PyData.tuple _
    rw [nsI_d]
  rw [e]
  exact shaped_tups _
theorem c_law_come_of (T : Txt K mg C) : Cal P w K mg base C "_law_come_of" 2 spCome := by
  refine cal_of T.d_law_come_of sc_law_come_of (fun as Q h => by obtain ⟨_, _, rfl, _⟩ := h; rfl) fun f cdv A0 outer s H E hr G F as Q hs => ?_
  obtain ⟨y, S, rfl, ok, hS, hQ⟩ := hs
  refine ⟨_, _, (pss_consA (ps_setA (i := 2) sc_law_come_of.nd (pd_lst (pda_cons (pd_tupRg T.tuple (pr_1 T.range (pd_var 1))) pda_nil)))
  (pss_consA (ps_setA (i := 3) sc_law_come_of.nd (pd_tnew hr (pd_ix (K := K) (pd_var 2) pd_int) pd_bl))
  (pss_consA (ps_whileA (pt_ne (K := K) hr (pd_var 2) (pd_lst pda_nil)) (pss_consA (ps_popSetA (y := 4) sc_law_come_of.nd (pd_var 2))
  (pss_oneA (ps_forA (pi_listA (K := K) (pd_var 0)) (pg_nameA 5 sc_law_come_of.nd) (pss_consA (ps_setA (i := 6) sc_law_come_of.nd (pd_tuple (K := K) T.tuple (pda_cons (pd_lc [("_law_name", 7)] sc_law_come_of.nd (pi_tupA (K := K) (pd_var 4)) (blkOk_by (N := n_law_come_of) (sc := defScope s_law_come_of) (by decide +kernel)) (fun _ _ _ _ _ => (pg_nameA 7 sc_law_come_of.nd)) (fun _ _ _ _ _ => pts_nilA) (fun _ _ _ _ _ => (pd_ix (K := K) (pd_var 5) (pd_var 7))) (gw_name (by decide))) pda_nil)))
  (pss_oneA (ps_ifA (pt_tninA hr (pd_var 6) (pd_var 3)) (pss_consA (ps_tputB hr (pd_var 3) (pd_var 6) pd_bl)
  (pss_oneA (ps_appA (pd_var 2) (pd_var 6)))) pss_nilA))) PassesOwn.never))) PassesOwn.never)
  (pss_oneA (ps_tfz 3 (ps_retA (pd_var 3))))))), ?_⟩
  have h7 := ok.n7
  have n1 := ok.n1
  walk_at "wd"
  have ll : (lev y y y.n).length ≤ 7 ^ 7 := Nat.le_trans (lev_len y y y.n) (Nat.le_trans (Nat.pow_le_pow_left h7 _) (Nat.pow_le_pow_right (by decide) h7))
  have big : 7 ^ 7 < sizeLine := by decide
  have nmS : ∀ s ∈ S, Nm y.n s := fun s hs => (hS s hs).nm
  rw [show ((y.n : Int) - 0).toNat = y.n by omega, rgD0]
  refine ⟨by unfold RgOk; omega, by decide, ?_⟩
  refine ⟨_, rfl, ?_⟩
  walk_at "wd"
  refine ⟨fun m ρ => ∃ ks W a4 a5 a6 a7, ρ = [.d (.list (S.map NL)), .d (nI y.n), .own (W.map TL), .dtt (ks.map nsI), a4, a5, a6, a7] ∧ Run y.n S ks W (fun _ => True) ∧ m = 2 * ((lev y y y.n).length - ks.length) + W.length,
    ⟨_, [idn y.n], [idn y.n], _, _, _, _, rfl, Run.start y.n S, rfl⟩, fun m ρ hI => ?_⟩
  obtain ⟨ks, W, a4, a5, a6, a7, rfl, hR, rfl⟩ := hI
  walk_at "wd"
  refine ⟨Nat.zero_le _, shaped_TLs _, shaped_names [], ?_⟩
  rw [front_eqv]
  refine ⟨fun hc => ?_, fun hc => ?_⟩
  · rcases List.eq_nil_or_concat W with e | ⟨W0, here, e⟩
    · subst e
      exact absurd hc (by decide)
    · rw [List.concat_eq_append] at e
      subst e
      obtain ⟨hR, hh⟩ := hR.pop
      walk_at "wd"
      refine ⟨TL here, by simp, ?_⟩
      rw [show ((W0 ++ [here]).map TL).dropLast = W0.map TL by simp]
      walk_at "wd"
      have nmh := (hR.com here hh).nm nmS
      refine ⟨fun i ρ => ∃ ks' W' a5 a6 a7, ρ = [.d (.list (S.map NL)), .d (nI y.n), .own (W'.map TL), .dtt (ks'.map nsI), .d (TL here), a5, a6, a7] ∧ Run y.n S ks' W' (fun z => z ≠ here) ∧ here ∈ ks' ∧ (∀ j s, j < i → S[j]? = some s → beh here s ∈ ks') ∧
        2 * ((lev y y y.n).length - ks'.length) + W'.length ≤ 2 * ((lev y y y.n).length - ks.length) + W0.length, ⟨_, _, _, _, _, rfl, hR, hh, fun j s h => by omega, Nat.le_refl _⟩, fun i d ρ hd hI => ?_, fun ρ hI => ?_⟩
      · rw [List.getElem?_map] at hd
        obtain ⟨t, et, rfl⟩ := Option.map_eq_some_iff.mp hd
        obtain ⟨ks', W', a5, a6, a7, rfl, hR', hh', hc', hm⟩ := hI
        have ht := List.mem_of_getElem? et
        have nmt := nmS t ht
        walk_at "wd"
        refine ⟨fun j acc => acc = (beh (here.take j) t).map nI, rfl, fun j d acc hd hI => ⟨fun _ => ?_, fun z => (by cases z)⟩, ?_⟩
        · rw [List.getElem?_map] at hd
          obtain ⟨x, ex, rfl⟩ := Option.map_eq_some_iff.mp hd
          subst hI
          have hj := (List.getElem?_eq_some_iff.mp ex).1
          have hx : x < t.length := by rw [nmt.len]; exact nmh.lt x (List.mem_of_getElem? ex)
          walk_at "wd"
          refine ⟨_, at_names hx, ?_⟩
          walk_at "wd"
          refine ⟨sz_lt (by rw [beh_len, List.length_take]; have := nmh.len; omega), ?_⟩
          rw [List.take_succ, ex]
          unfold beh
          simp only [List.map_append, Option.toList, List.map_cons, List.map_nil]
          try rw [getD_get hx]
        rintro acc rfl
        rw [List.take_length]
        walk_at "wd"
        have few' := hR'.few ok hS
        have clo : ∀ {K : List (List Nat)}, (∀ x ∈ ks', x ∈ K) → beh here t ∈ K → ∀ j s, j < i + 1 → S[j]? = some s → beh here s ∈ K := fun {K} sub hb j s hj es => by
          by_cases z : j = i
          · subst z
            rw [et] at es
            cases es
            exact hb
          · exact sub _ (hc' j s (by omega) es)
        refine ⟨fun hn => ?_, fun hn => ?_⟩
        · have hn : beh here t ∉ ks' := fun z => by
            have : nsI (beh here t) ∈ ks'.map nsI := nsI_mem.mpr z
            simp [this] at hn
          have hA := hR'.add hh' ht hn
          have fewA := hA.few ok hS
          rw [List.length_append, List.length_singleton] at fewA
          refine ⟨by omega, fun z => hn (nsI_mem.mp z), ?_⟩
          walk_at "wd"
          refine ⟨by have := hR'.wl; omega, ks' ++ [beh here t], W' ++ [beh here t], _, _, _, by rw [List.map_append, List.map_append]; rfl, hA, List.mem_append_left _ hh', clo (fun x hx => List.mem_append_left _ hx) (List.mem_append_right _ List.mem_cons_self), ?_⟩
          rw [List.length_append, List.length_append, List.length_singleton]
          omega
        · have hn : beh here t ∈ ks' := by
            refine nsI_mem.mp ?_
            simpa using hn
          exact ⟨_, _, _, _, _, rfl, hR', hh', clo (fun x hx => hx) hn, hm⟩
      · obtain ⟨ks', W', a5, a6, a7, rfl, hR', hh', hc', hm⟩ := hI
        refine ⟨_, ?_, ks', W', _, _, _, _, rfl, hR'.close fun s hs => ?_, rfl⟩
        · rw [List.length_append, List.length_singleton]
          omega
        · obtain ⟨j, ej⟩ := List.mem_iff_getElem?.mp hs
          exact hc' j s (List.getElem?_eq_some_iff.mp ej).1 ej
  · have e : W = [] := by simpa using hc
    subst e
    have hT := hR.told
    walk_at "wd"
    exact hQ ks hT
def spDoubled : Spc := fun as Q => ∃ n : Nat, as = [.d (nI n)] ∧ n ≤ 100000 ∧ Q (.d (nI (2 ^ n)))
theorem c_law_doubled (T : Txt K mg C) : Cal P w K mg base C "_law_doubled" 1 spDoubled := by
  refine cal_of T.d_law_doubled sc_law_doubled (fun as Q h => by obtain ⟨_, rfl, _⟩ := h; rfl) fun f cdv A0 outer s H E hr G F as Q hs => ?_
  obtain ⟨n, rfl, hn, hQ⟩ := hs
  refine ⟨_, _, (pss_consA (ps_setA (i := 1) sc_law_doubled.nd pd_int)
  (pss_consA (ps_forA (pi_range1A T.range (pda_cons (pd_var 0) pda_nil)) (pg_nameA 2 sc_law_doubled.nd) (pss_oneA (ps_setA (i := 1) sc_law_doubled.nd (pd_add (K := K) (pd_var 1) (pd_var 1)))) PassesOwn.never)
  (pss_oneA (ps_retA (pd_var 1))))), ?_⟩
  walk_at "wd"
  refine ⟨by omega, by omega, fun i ρ => ∃ a2, ρ = [.d (nI n), .d (nI (2 ^ i)), a2], ⟨_, rfl⟩, fun i d ρ hd hI => ?_, fun ρ hI => ?_⟩
  · obtain ⟨a2, rfl⟩ := hI
    walk_at "wd"
    rw [show ((2 ^ i : Nat) : Int) + ((2 ^ i : Nat) : Int) = ((2 ^ (i + 1) : Nat) : Int) by rw [Nat.pow_succ]; omega]
    exact ⟨_, rfl⟩
  · obtain ⟨a2, rfl⟩ := hI
    walk_at "wd"
    exact hQ

local macro_rules | `(tactic| walk_at "wd") => `(tactic| ((walk_at "wp"); (try simp only [dttK_d, dnK_d, dnK_f, ftK_f, ltK_l, tuK_n, e_tnew, e_tfz, e_lenT, e_sortT, e_lnin, e_tnin, e_tput, e_borL, nlA_lt, nlA_ft, frK_dtt, frK_ft, frK_lt, rtK_ft, rtK_lt, unfrA_ft, unfrA_dtt, unfrA_lt, fzK_ft, fzK_dtt, fzK_lt, nameK_ft, e_clr0, clr0K_l, e_guard, true_and, e_tupRg]); (walk_at "wp"); (try simp only [dttK_d, dnK_d, dnK_f, ftK_f, ltK_l, tuK_n, e_tnew, e_tfz, e_lenT, e_sortT, e_lnin, e_tnin, e_tput, e_borL, nlA_lt, nlA_ft, frK_dtt, frK_ft, frK_lt, rtK_ft, rtK_lt, unfrA_ft, unfrA_dtt, unfrA_lt, fzK_ft, fzK_dtt, fzK_lt, nameK_ft, e_clr0, clr0K_l, e_guard, true_and, e_tupRg]); (walk_at "wp"); (try simp only [dttK_d, dnK_d, dnK_f, ftK_f, ltK_l, tuK_n, e_tnew, e_tfz, e_lenT, e_sortT, e_lnin, e_tnin, e_tput, e_borL, nlA_lt, nlA_ft, frK_dtt, frK_ft, frK_lt, rtK_ft, rtK_lt, unfrA_ft, unfrA_dtt, unfrA_lt, fzK_ft, fzK_dtt, fzK_lt, nameK_ft, e_clr0, clr0K_l, e_guard, true_and, e_tupRg]); (walk_at "wp"); (try simp only [dttK_d, dnK_d, dnK_f, ftK_f, ltK_l, tuK_n, e_tnew, e_tfz, e_lenT, e_sortT, e_lnin, e_tnin, e_tput, e_borL, nlA_lt, nlA_ft, frK_dtt, frK_ft, frK_lt, rtK_ft, rtK_lt, unfrA_ft, unfrA_dtt, unfrA_lt, fzK_ft, fzK_dtt, fzK_lt, nameK_ft, e_clr0, clr0K_l, e_guard, true_and, e_tupRg]); (walk_at "wp")))
/-! ### the law -/
theorem most_of6 (a : Bool) : ∃ m : Nat, atI [PyData.int 6, .int 7] (if a = true then (1 : Int) else 0) = some (nI m) ∧ 1 ≤ m ∧ m ≤ 7 := by
  cases a
  · exact ⟨6, rfl, by decide, by decide⟩
  · exact ⟨7, rfl, by decide, by decide⟩
theorem ok_NLs {ls : List (List Nat)} (h : ∀ t ∈ ls, t.length ≤ 7) (few : ls.length ≤ 100000) : okD (.list (ls.map NL)) = true ∧ PyData.depth (.list (ls.map NL)) < 40 := by
  have one : ∀ ls : List (List Nat), (∀ t ∈ ls, t.length ≤ 7) → okAll (ls.map NL) = true := fun ls => by
    induction ls with
    | nil => intro _; rfl
    | cons a ls ih =>
      intro h
      rw [List.map_cons, okAll, okD_names (by have := h a List.mem_cons_self; omega), ih fun t ht => h t (List.mem_cons_of_mem _ ht)]
      rfl
  refine ⟨?_, ?_⟩
  · show (decide ((ls.map NL).length ≤ 100000) && okAll (ls.map NL)) = true
    rw [one _ h, List.length_map, decide_eq_true few]
    rfl
  · have := depth_all (k := 3) (xs := ls.map NL) fun x hx => by
      obtain ⟨l, _, rfl⟩ := List.mem_map.mp hx
      have := depth_names l
      simp only [PyData.depth]
      omega
    simp only [PyData.depth]
    omega
theorem c_law {f : Addr} {fd : FuncData} (T : Txt K mg C) (D : ∃ (f : Addr) (fd : FuncData), Fun K "__init__" "Yard.__init__" s_Yard_init f fd ∧ Mk K C f ∧ Binds K fd p_Yard_init []) (F : Fun K "law" "law" s_law f fd) : FnOk P w K mg base CX0 90 f fd p_law (spLaw K) := by
  obtain ⟨fb, fdb, FB, mgb, kpb, bdb⟩ := c_law_box (P := P) (w := w) (base := base) T
  have cI := c_init (P := P) (w := w) (base := base) T D
  have c_law_take := c_law_take (P := P) (w := w) (base := base) T
  have c_law_drawn := c_law_drawn (P := P) (w := w) (base := base) T
  have c_law_all := c_law_all (P := P) (w := w) (base := base) T
  have c_steps := c_steps (P := P) (w := w) (base := base) T
  have c_count := c_count (P := P) (w := w) (base := base) T
  have c_few := c_few (P := P) (w := w) (base := base) T
  have c_law_come_of := c_law_come_of (P := P) (w := w) (base := base) T
  have c_law_doubled := c_law_doubled (P := P) (w := w) (base := base) T
  have c_law_alike := c_law_alike (P := P) (w := w) (base := base) T 40
  refine F.ok sc_law (fun vs H Q E h => by obtain ⟨a, ns, rfl, _⟩ := h; rfl) (fun cdv A0 outer s H vs Q E hr h => ?_)
  obtain ⟨a, ns, rfl, hS, hz, hQ⟩ := h
  have d := fun (b l : Addr) (H' : Hp) => ((pss_consA (ps_setA (i := 2) sc_law.nd (pd_call c_law_drawn hr (by omega) (pda_cons (pd_var 1) (pda_cons (pd_ix (K := K) (pd_lst (pda_cons pd_int (pda_cons pd_int pda_nil))) (pd_toint T.int (pda_cons (pd_eq (K := K) hr (pd_call c_law_take hr (by omega) (pda_cons (pd_var 1) (pda_cons pd_int pda_nil))) pd_int) pda_nil))) pda_nil))))
  (pss_consA (ps_setA (i := 3) sc_law.nd (pd_len (K := K) T.len (pda_cons (pd_ix (K := K) (pd_var 2) pd_int) pda_nil)))
  (pss_consA (ps_setA (i := 4) sc_law.nd (pd_make cI hr (by omega) (pda_cons (pd_ix (K := K) (pd_var 2) pd_int) (pda_cons (pd_ix (K := K) (pd_var 2) pd_int) pda_nil))))
  (pss_consA (ps_setA (i := 5) sc_law.nd (pd_call c_law_all hr (by omega) (pda_cons (pd_var 2) (pda_cons (pd_var 2) (pda_cons (pd_lst pda_nil) pda_nil)))))
  (pss_consA (ps_setA (i := 6) sc_law.nd (pd_callF c_few hr (by omega) (pda_cons (pd_var 4) pda_nil)))
  (pss_consA (ps_guard (pt_bor 7 (pt_bor 6 (PDW.t (pw_orA (pt_notA (pt_v (pd_isinstance (K := K) T.isinstance (pda_cons (pd_var 6) (pda_cons (pd_ty T.list boot_list') pda_nil))))) (pw_or1A (pt_ne (K := K) hr (pd_lc [("_law_turn", 7)] sc_law.nd (pi_listA (K := K) (pd_var 6)) (blkOk_by (N := n_law) (sc := defScope s_law) (by decide +kernel)) (fun _ _ _ _ _ => (pg_nameA 7 sc_law.nd)) (fun _ _ _ _ _ => (pts_oneA (pt_nin (K := K) hr (pd_var 7) (pd_var 5)))) (fun _ _ _ _ _ => (pd_var 7)) (gw_name (by decide))) (pd_lst pda_nil))))))) (pss_oneA (ps_retA pd_bl)))
  (pss_consA (ps_setA (i := 8) sc_law.nd (pd_lst pda_nil))
  (pss_consA (ps_setA (i := 9) sc_law.nd (pd_borL 8 (pd_call c_law_come_of hr (by omega) (pda_cons (pd_var 8) (pda_cons (pd_var 3) pda_nil)))))
  (pss_consA (ps_forA (pi_revA (K := K) T.reversed (pda_cons (pd_call c_steps hr (by omega) (pda_cons (pd_var 4) pda_nil)) pda_nil)) (pg_nameA 10 sc_law.nd) (pss_oneA (ps_forA (pi_listA (K := K) (pd_var 10)) (pg_nameA 7 sc_law.nd) (pss_oneA (ps_ifA (pt_bor 7 (pt_tninA hr (pd_tuple (K := K) T.tuple (pda_cons (pd_var 7) pda_nil)) (pd_var 9))) (pss_consA (ps_fz 7 (ps_appA (pd_var 8) (pd_var 7)))
  (pss_oneA (ps_setA (i := 9) sc_law.nd (pd_borL 8 (pd_call c_law_come_of hr (by omega) (pda_cons (pd_var 8) (pda_cons (pd_var 3) pda_nil))))))) pss_nilA)) PassesOwn.never)) PassesOwn.never)
  (pss_consA (ps_guard (pt_bor 6 (pt_bor 8 (PDW.t (pw_orA (pt_notA (pt_v (pd_call c_law_alike hr (by omega) (pda_cons (pd_var 6) (pda_cons (pd_var 8) pda_nil))))) (pw_orA (pt_ne (K := K) hr (pd_lenTA T.len (pd_var 9)) (pd_len (K := K) T.len (pda_cons (pd_var 5) pda_nil))) (pw_or1A (pt_ne (K := K) hr (pd_call c_count hr (by omega) (pda_cons (pd_var 4) pda_nil)) (pd_len (K := K) T.len (pda_cons (pd_var 5) pda_nil))))))))) (pss_oneA (ps_retA pd_bl)))
  (pss_consA (ps_guard (pt_bor 7 (pt_ne (K := K) hr (pd_lc [("_law_turn", 7)] sc_law.nd (pi_listA (K := K) (pd_var 5)) (blkOk_by (N := n_law) (sc := defScope s_law) (by decide +kernel)) (fun _ _ _ _ _ => (pg_nameA 7 sc_law.nd)) (fun _ _ _ _ _ => (pts_oneA (pt_tninA hr (pd_tuple (K := K) T.tuple (pda_cons (pd_var 7) pda_nil)) (pd_var 9)))) (fun _ _ _ _ _ => (pd_var 7)) (gw_name (by decide))) (pd_lst pda_nil))) (pss_oneA (ps_retA pd_bl)))
  (pss_consA (ps_clr0 (K := K) (pd_var 6) (pg_nameA 7 sc_law.nd) (pd_var 7) PassesOwn.never)
  (pss_consA (ps_setA (i := 6) sc_law.nd (pd_callF c_few hr (by omega) (pda_cons (pd_var 4) pda_nil)))
  (pss_consA (ps_guard (pt_bor 6 (pt_bor 8 (pt_notA (pt_v (pd_call c_law_alike hr (by omega) (pda_cons (pd_var 6) (pda_cons (pd_var 8) pda_nil))))))) (pss_oneA (ps_retA pd_bl)))
  (pss_oneA (ps_fz 6 (ps_retA (pd_le (pd_call c_law_doubled hr (by omega) (pda_cons (pd_len (K := K) T.len (pda_cons (pd_var 6) pda_nil)) pda_nil)) (pd_len (K := K) T.len (pda_cons (pd_var 5) pda_nil)))))))))))))))))))) : PDSs (cxOf CX0 P w K mg base n_law "law" (defScope s_law) f cdv A0 outer s H E).nox ⟨⟨some (b, l), fun _ => none⟩, C, fun _ => none, H'⟩ (defBody s_law).tail _ _)
  refine ⟨_, pss_cons (ps_set (i := 1) sc_law.nd rfl (Or.inl rfl) (pe_call FB (hr.mono (by decide)) (by rfl) mgb kpb bdb .nil pass0 (pa_cons (pv 0) pa_nil))) (d 0 0 fun _ => none).ps, ?_⟩
  refine ⟨_, rfl, a, ns, rfl, hS, hz, fun b l H' hb hl bx same => ?_⟩
  refine law_rest (H := H) (n := 9) hQ bx (d b l H') ?_
  clear d
  walk_at "wp"
  refine ⟨by decide, 8, rfl, by decide, by decide, fun v hv => ?_⟩
  walk_at "wp"
  obtain ⟨m, em, m1, m7⟩ := most_of6 (decide ((v : Int) = 1))
  refine ⟨_, em, ?_⟩
  walk_at "wp"
  refine ⟨m, rfl, m1, m7, fun y ok _ => ?_⟩
  walk_at "wp"
  refine ⟨_, rfl, ?_⟩
  walk_at "wp"
  refine ⟨_, rfl, _, rfl, y.n, y.m, y.ties, rfl, ok.n1, ok.n7, ok.m0, ok.tok, ?_⟩
  rw [ok.kl]
  walk_at "wp"
  refine ⟨by decide, y, y, rfl, ok, ok, fun z => absurd rfl z, fun _ => ?_⟩
  have h7 := ok.n7
  have n1 := ok.n1
  have ll : (lev y y y.n).length ≤ 7 ^ 7 := Nat.le_trans (lev_len y y y.n) (Nat.le_trans (Nat.pow_le_pow_left h7 _) (Nat.pow_le_pow_right (by decide) h7))
  have big : 7 ^ 7 < sizeLine := by decide
  walk_at "wd"
  refine ⟨y, rfl, ok, ?_⟩
  walk_at "wd"
  have isoL : ∀ t, t ∈ lev y y y.n ↔ IsoF y y t := fun t => isoF_iff ok ok
  have isoI := fewI_iso ok y.n (Nat.le_refl _)
  have l50 := lev_le ok
  refine ⟨⟨fun z => (by cases z), fun _ => ⟨fun _ acc => acc = [], rfl, fun i d acc hd hI => ?_, fun acc hI => ?_⟩⟩, Nat.zero_le _, ?_⟩
  · rw [List.getElem?_map] at hd
    obtain ⟨t, et, rfl⟩ := Option.map_eq_some_iff.mp hd
    have ht := (isoL t).mpr (isoI t (List.mem_of_getElem? et))
    refine ⟨shaped_names _, shaped_NLs _, ?_⟩
    rw [any_NL, decide_eq_true ht]
    exact ⟨fun z => (by cases z), fun _ => hI⟩
  · subst hI
    exact ⟨Nat.zero_le _, shaped_names [], shaped_names [], by simp [PyData.eqv, PyData.eqvAll, blK]⟩
  refine ⟨y, [], rfl, ok, fun s hs => (by cases hs), fun L0 hL0 => ?_⟩
  walk_at "wd"
  refine ⟨y, rfl, ok, ?_⟩
  walk_at "wd"
  have sl : (stepsL y y.n).length = y.n := by simp [stepsL]
  refine ⟨fun i ρ => ∃ L a7 a10, ρ = [.un, .box, .d (rowsD y), .d (nI y.n), yA y, .d (.list ((lev y y y.n).map NL)), .fr (.list ((fewI y y.n).map NL)), a7, .own ((fewI y i).map NL), .ft (L.map nsI), a10] ∧ TD y.n (fewI y i) L ∧ (a7 = .un ∨ ∃ x, a7 = .d x), ⟨L0, _, _, rfl, .nil hL0, .inl rfl⟩, fun i d ρ hd hI => ?_, fun ρ hI => ?_⟩
  · obtain ⟨L, a7, a10, rfl, hL, u7⟩ := hI
    obtain ⟨hi, ed⟩ := List.getElem?_eq_some_iff.mp hd
    rw [List.length_reverse, sl] at hi
    have ed : d = .list ((row y (y.n - 1 - i)).map NL) := by
      rw [List.getElem?_reverse (by rw [sl]; exact hi), sl] at hd
      unfold stepsL at hd
      rw [List.getElem?_map, List.getElem?_range (by omega)] at hd
      exact (Option.some.inj hd).symm
    subst ed
    have hp : y.n - 1 - i < y.n := by omega
    walk_at "wd"
    refine ⟨fun j ρ => ∃ L a7, ρ = [.un, .box, .d (rowsD y), .d (nI y.n), yA y, .d (.list ((lev y y y.n).map NL)), .fr (.list ((fewI y y.n).map NL)), a7, .own ((fewR y.n (fewI y i) ((row y (y.n - 1 - i)).take j)).map NL), .ft (L.map nsI), .d (.list ((row y (y.n - 1 - i)).map NL))] ∧ TD y.n (fewR y.n (fewI y i) ((row y (y.n - 1 - i)).take j)) L ∧ (a7 = .un ∨ ∃ x, a7 = .d x), ⟨L, _, rfl, hL, u7⟩, fun j d ρ hd hI => ?_, fun ρ hI => ?_⟩
    · rw [List.getElem?_map] at hd
      obtain ⟨t, et, rfl⟩ := Option.map_eq_some_iff.mp hd
      obtain ⟨L, a7, rfl, hL, u7⟩ := hI
      have ht := row_iso ok hp t (List.mem_of_getElem? et)
      have e1 : fewR y.n (fewI y i) ((row y (y.n - 1 - i)).take (j + 1)) = fewT y.n (fewR y.n (fewI y i) ((row y (y.n - 1 - i)).take j)) t := by
        rw [List.take_succ, et, ← fewR_snoc]
        rfl
      have hS' : ∀ s ∈ fewR y.n (fewI y i) ((row y (y.n - 1 - i)).take j), IsoF y y s := fewR_all (fewI_iso ok i (by omega)) fun s hs => row_iso ok hp s (List.mem_of_mem_take hs)
      dsimp only
      rw [e1]
      generalize fewR y.n (fewI y i) ((row y (y.n - 1 - i)).take j) = S at hL hS' ⊢
      walk_at "wd"
      refine ⟨fun hn => ?_, fun hn => ?_⟩
      · have hn : t ∉ L := fun z => by
          have : nsI t ∈ L.map nsI := nsI_mem.mpr z
          simp [this] at hn
        have no : ¬ Com y.n S t := fun z => hn ((hL.td.mem t).mpr z)
        rw [fewT_no no]
        have fw := hL.few ok hS'
        refine ⟨by omega, ?_⟩
        walk_at "wd"
        refine ⟨y, S ++ [t], by rw [List.map_append]; rfl, ok, iso_more hS' ht, fun L' hL' => ?_⟩
        walk_at "wd"
        exact ⟨L', _, by rw [List.map_append]; rfl, hL.more (fun s hs => (hS' s hs).nm) ht.nm hL' no, .inr ⟨_, rfl⟩⟩
      · have hn : t ∈ L := by
          refine nsI_mem.mp ?_
          simpa using hn
        rw [fewT_yes ((hL.td.mem t).mp hn)]
        exact ⟨L, _, rfl, hL, .inr ⟨_, rfl⟩⟩
    · obtain ⟨L, a7, rfl, hL, u7⟩ := hI
      rw [List.take_length] at hL
      rw [List.take_length]
      exact ⟨L, _, _, rfl, hL, u7⟩
  · obtain ⟨L, a7, a10, rfl, hL, u7⟩ := hI
    rw [List.length_reverse, sl] at hL ⊢
    walk_at "wd"
    have eL := few_told ok hL.td
    have fw := hL.few ok isoI
    obtain ⟨o1, o2⟩ := ok_NLs (ls := fewI y y.n) (fun t ht => by rw [(isoI t ht).nm.len]; exact h7) (by omega)
    refine ⟨⟨_, rfl, o1, o2, ?_⟩, ?_, by decide, by decide, fun d hd => ?_, trivial, y, rfl, ok, ?_⟩
    · show (_ ∧ _)
      refine ⟨fun z => (by cases z), fun _ => ⟨fun z => ?_, fun _ => ⟨y, rfl, ok, ?_⟩⟩⟩
      · rw [eL, decide_eq_true rfl] at z
        cases z
      · walk_at "wd"
        simp
    · rcases u7 with rfl | ⟨x, rfl⟩
      all_goals
        (try simp only [fzK_un, fzK_d])
        refine ⟨fun _ acc => acc = [], rfl, fun i d acc hd hI => ?_, fun acc hI => ?_⟩
        · rw [List.getElem?_map] at hd
          obtain ⟨t, et, rfl⟩ := Option.map_eq_some_iff.mp hd
          have ht := (hL.td.mem t).mpr (few_all ok ((isoL t).mp (List.mem_of_getElem? et)))
          walk_at "wd"
          rw [decide_eq_true (nsI_mem.mpr ht)]
          exact ⟨fun z => (by cases z), fun _ => hI⟩
        · subst hI
          exact ⟨Nat.zero_le _, shaped_names [], shaped_names [], by simp [PyData.eqv, PyData.eqvAll, blK]⟩
    · obtain ⟨t, _, rfl⟩ := List.mem_map.mp hd
      refine ⟨_, rfl, fun x hx ys z => ?_⟩
      obtain ⟨i, _, rfl⟩ := List.mem_map.mp hx
      cases z
    · walk_at "wd"
      refine ⟨⟨_, rfl, o1, o2, ?_⟩, ?_⟩
      · walk_at "wd"
        rfl
      · refine ⟨_, rfl, by omega, ?_⟩
        walk_at "wd"
        have pw := hL.pw
        rw [eL] at pw
        rw [decide_eq_true (by omega)]

section
set_option maxRecDepth 100000
theorem fin {l : PySem.W.OpenLaw} {w : World} {K : PySem.W.Frag} {h : Heap} {mg : Str → Option Value} {fa C f : Addr} {oc : Value} {od an : Option Addr} {osl : Array (Option Value)} {kV doc pm cdv ct : Value} (X : K.In h) (G : h.Ns mainGlobals mg) (hfa : mg "law" = some (.ref fa))
    (a : PySem.W.nsIn K mainGlobals "law" = some (some (.ref f))) (l1 : K.lookup f = some ⟨oc, od, .func (PySem.W.fnOf "law" "law" (defArgs s_law) (defBody s_law) (defScope s_law) .none kV doc pm an cdv ct), osl⟩) (c : PySem.W.codeIn K cdv "law" = true) (k : PySem.W.keepIn K (.ref f) = true)
    (aC : PySem.W.nsIn K mainGlobals "Yard" = some (some (.ref C))) (T : Txt K mg C) (D : Ini K C "Yard.__init__" s_Yard_init p_Yard_init) :
    ∃ fd : FuncData, (∀ (s : Shared) (v : Value), BindsTo s fd ⟨[v], []⟩ [("_law_script", v)]) ∧ ∀ base : Heap, K.In base → base.Ns mainGlobals mg → FnOk l.prog w K mg base CX0 90 fa fd ["_law_script"] (spLaw K) := by
  have e := hfa.symm.trans (PySem.W.mg_of X G a)
  cases e
  have F := fun_mk (st := s_law) l1 c k
  exact ⟨_, fun s v => .of_eq rfl, fun base _ _ => c_law (P := l.prog) (w := w) (base := base) T D.ex F⟩
end
end Yd
open PySem PySem.W PyProof.Rows
set_option maxRecDepth 100000 in
set_option maxHeartbeats 0 in
theorem PySem.Challenge.cw_sameyard_k12_whole_few_tell_all_holds : PySem.Challenge.rw_sameyard_k12_whole_few_tell_all.Holds := by
  w_on; o_law; k_head; (case hw => w_witness2)
  k_fill
  refine L2.walk_of (l := PySem.Challenge.rw_sameyard_k12_whole_few_tell_all) (n := 63) (k := 90) (x := "_law_script") (CX := fun _ => L2.CX0) (sp := fun w => Yd.spLaw _) rfl (by decide) rfl ⟨rfl, by decide, by decide⟩ (fun w h Y => PySem.W.kIn_of Y) ?F (fun _ _ a ns hl _ hS => ⟨a, ns, rfl, hS, hl, fun _ => rfl⟩) fun _ _ _ _ _ z => z
  case F =>
    intro w mg fa h KX GG hmg
    refine' Yd.fin KX GG hmg ?a4 ?l4 ?c4 ?k4 ?aC ?T ?D
    (case a4 => k_is); (case l4 => k_is); (case c4 => k_is); (case k4 => k_is); (case aC => k_is)
    (case T => exact {
      mg_Yard := PySem.W.mg_of KX GG (by k_is)
      bool := PySem.W.mg_none_of KX GG (by k_is)
      int := PySem.W.mg_none_of KX GG (by k_is)
      isinstance := PySem.W.mg_none_of KX GG (by k_is)
      len := PySem.W.mg_none_of KX GG (by k_is)
      list := PySem.W.mg_none_of KX GG (by k_is)
      max := PySem.W.mg_none_of KX GG (by k_is)
      min := PySem.W.mg_none_of KX GG (by k_is)
      range := PySem.W.mg_none_of KX GG (by k_is)
      reversed := PySem.W.mg_none_of KX GG (by k_is)
      sorted := PySem.W.mg_none_of KX GG (by k_is)
      str := PySem.W.mg_none_of KX GG (by k_is)
      tuple := PySem.W.mg_none_of KX GG (by k_is)
      cY := ⟨by k_is, by k_is, by k_is, by k_is⟩
      n_marked := Yd.noattr_mk (by k_is)
      n_kinds := Yd.noattr_mk (by k_is)
      mkY := by k_is
      kpY := by k_is
      mg_MOST_PLACES := ⟨_, PySem.W.mg_of KX GG (by k_is)⟩
      mg_MOST_NUMBER := ⟨_, PySem.W.mg_of KX GG (by k_is)⟩
      d_wall := Yd.dfn_mk KX GG (fun _ _ _ _ _ _ us hl => match us, hl with | [_], _ => rfl) (by k_is) (by k_is) (by k_is) (by k_is)
      d_clash := Yd.dfn_mk KX GG (fun _ _ _ _ _ _ us hl => match us, hl with | [_, _, _, _, _], _ => rfl) (by k_is) (by k_is) (by k_is) (by k_is)
      d_first := Yd.dfn_mk KX GG (fun _ _ _ _ _ _ us hl => match us, hl with | [_, _, _], _ => rfl) (by k_is) (by k_is) (by k_is) (by k_is)
      d_led_on := Yd.dfn_mk KX GG (fun _ _ _ _ _ _ us hl => match us, hl with | [_, _, _], _ => rfl) (by k_is) (by k_is) (by k_is) (by k_is)
      d_must_be := Yd.dfn_mk KX GG (fun _ _ _ _ _ _ us hl => match us, hl with | [_, _, _], _ => rfl) (by k_is) (by k_is) (by k_is) (by k_is)
      d_Yard_init := Yd.mfn_mk (fun _ _ _ _ _ _ us hl => match us, hl with | [_, _, _], _ => rfl) (by k_is) (by k_is) (by k_is) (by k_is) (by k_is)
      d_Yard_many := Yd.mfn_mk (fun _ _ _ _ _ _ us hl => match us, hl with | [_], _ => rfl) (by k_is) (by k_is) (by k_is) (by k_is) (by k_is)
      d_Yard_marks := Yd.mfn_mk (fun _ _ _ _ _ _ us hl => match us, hl with | [_], _ => rfl) (by k_is) (by k_is) (by k_is) (by k_is) (by k_is)
      d_Yard_ties := Yd.mfn_mk (fun _ _ _ _ _ _ us hl => match us, hl with | [_], _ => rfl) (by k_is) (by k_is) (by k_is) (by k_is) (by k_is)
      d_Yard_need_place := Yd.mfn_mk (fun _ _ _ _ _ _ us hl => match us, hl with | [_, _], _ => rfl) (by k_is) (by k_is) (by k_is) (by k_is) (by k_is)
      d_behind := Yd.dfn_mk KX GG (fun _ _ _ _ _ _ us hl => match us, hl with | [_, _], _ => rfl) (by k_is) (by k_is) (by k_is) (by k_is)
      d_steps := Yd.dfn_mk KX GG (fun _ _ _ _ _ _ us hl => match us, hl with | [_], _ => rfl) (by k_is) (by k_is) (by k_is) (by k_is)
      d_count := Yd.dfn_mk KX GG (fun _ _ _ _ _ _ us hl => match us, hl with | [_], _ => rfl) (by k_is) (by k_is) (by k_is) (by k_is)
      d_told_by := Yd.dfn_mk KX GG (fun _ _ _ _ _ _ us hl => match us, hl with | [_, _], _ => rfl) (by k_is) (by k_is) (by k_is) (by k_is)
      d_few := Yd.dfn_mk KX GG (fun _ _ _ _ _ _ us hl => match us, hl with | [_], _ => rfl) (by k_is) (by k_is) (by k_is) (by k_is)
      d_law_box := Yd.dfn_mk KX GG (fun _ _ _ _ _ _ us hl => match us, hl with | [_], _ => rfl) (by k_is) (by k_is) (by k_is) (by k_is)
      d_law_take := Yd.dfn_mk KX GG (fun _ _ _ _ _ _ us hl => match us, hl with | [_, _], _ => rfl) (by k_is) (by k_is) (by k_is) (by k_is)
      d_law_alike := Yd.dfn_mk KX GG (fun _ _ _ _ _ _ us hl => match us, hl with | [_, _], _ => rfl) (by k_is) (by k_is) (by k_is) (by k_is)
      d_law_yard := Yd.dfn_mk KX GG (fun _ _ _ _ _ _ us hl => match us, hl with | [_, _], _ => rfl) (by k_is) (by k_is) (by k_is) (by k_is)
      d_law_even := Yd.dfn_mk KX GG (fun _ _ _ _ _ _ us hl => match us, hl with | [_], _ => rfl) (by k_is) (by k_is) (by k_is) (by k_is)
      d_law_drawn := Yd.dfn_mk KX GG (fun _ _ _ _ _ _ us hl => match us, hl with | [_, _], _ => rfl) (by k_is) (by k_is) (by k_is) (by k_is)
      d_law_kind := Yd.dfn_mk KX GG (fun _ _ _ _ _ _ us hl => match us, hl with | [_, _, _], _ => rfl) (by k_is) (by k_is) (by k_is) (by k_is)
      d_law_kinds := Yd.dfn_mk KX GG (fun _ _ _ _ _ _ us hl => match us, hl with | [_], _ => rfl) (by k_is) (by k_is) (by k_is) (by k_is)
      d_law_all := Yd.dfn_mk KX GG (fun _ _ _ _ _ _ us hl => match us, hl with | [_, _, _], _ => rfl) (by k_is) (by k_is) (by k_is) (by k_is)
      d_law_come_of := Yd.dfn_mk KX GG (fun _ _ _ _ _ _ us hl => match us, hl with | [_, _], _ => rfl) (by k_is) (by k_is) (by k_is) (by k_is)
      d_law_doubled := Yd.dfn_mk KX GG (fun _ _ _ _ _ _ us hl => match us, hl with | [_], _ => rfl) (by k_is) (by k_is) (by k_is) (by k_is)
      d_law := Yd.dfn_mk KX GG (fun _ _ _ _ _ _ us hl => match us, hl with | [_], _ => rfl) (by k_is) (by k_is) (by k_is) (by k_is) })
    (case D => exact Yd.ini_mk (fun _ _ _ _ _ _ us hl => match us, hl with | [_, _, _], _ => rfl) (by k_is) (by k_is) (by k_is) (by k_is) (by k_is) (by k_is) (by k_is))
