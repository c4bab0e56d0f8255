import PyProof.Rows.All
import Wide.All
import OpenK.AllK
import Wide.FinOn
import HandS.ForMost
import HandS.Deep
import HandS.TupSets
import HandS.Flow
import HandS.Conv
import HandS.IsInst
import HandS.Style
import HandS.Iter
import HandS.Strs
import HandS.SetFor
import HandS.Walk
import KE.DataCmp
import KE.DataMinMax
import KE.SortData
import KE.KeyNested
import HandS.More
import PySem.Challenge.RW_sameyard_k09_whole_shades_go_along
set_option Elab.async false
set_option linter.all false
set_option maxRecDepth 100000
/-! YdA: abstract values over HandS: what a slot holds (data, an own list, a yard, the box of draws), the state that stands for a frame and a heap, and expressions, tests, statements as predicate transformers over it. -/
namespace Yd
open PySem L2

/-! ### data at a value -/
mutual
inductive Rp (F : Hp) : V → PyData → Prop
  | non : Rp F .non .none
  | bl (b : Bool) : Rp F (.bl b) (.bool b)
  | int (i : Int) : Rp F (.int i) (.int i)
  | str (x : Str) : Rp F (.str x) (.str x)
  | lst {a : Addr} {vs : List V} {ds : List PyData} : F a = some (.lst vs) → RpL F vs ds → Rp F (.ref a) (.list ds)
  | tup {a : Addr} {vs : List V} {ds : List PyData} : F a = some (.tup vs) → RpL F vs ds → Rp F (.ref a) (.tuple ds)
inductive RpL (F : Hp) : List V → List PyData → Prop
  | nil : RpL F [] []
  | cons {v : V} {vs : List V} {d : PyData} {ds : List PyData} : Rp F v d → RpL F vs ds → RpL F (v :: vs) (d :: ds)
end
section
variable {F F' H : Hp} {K : PySem.W.Frag}
mutual
theorem Rp.mono (e : Same F F') : ∀ (d : PyData) (v : V), Rp F v d → Rp F' v d
  | .none, _, h => by cases h; exact .non
  | .bool b, _, h => by cases h; exact .bl b
  | .int i, _, h => by cases h; exact .int i
  | .str x, _, h => by cases h; exact .str x
  | .list ds, _, h => by
    cases h with
    | lst hs ha => exact .lst (e _ _ hs) (RpL.mono e ds _ ha)
  | .tuple ds, _, h => by
    cases h with
    | tup hs ha => exact .tup (e _ _ hs) (RpL.mono e ds _ ha)
  | .dict _, _, h => by cases h
theorem RpL.mono (e : Same F F') : ∀ (ds : List PyData) (vs : List V), RpL F vs ds → RpL F' vs ds
  | [], _, h => by cases h; exact .nil
  | d :: ds, _, h => by
    cases h with
    | cons h1 h2 => exact .cons (Rp.mono e d _ h1) (RpL.mono e ds _ h2)
end
mutual
theorem Rp.dp (e : Same F H) : ∀ (d : PyData) (v : V), Rp F v d → Dp K H v d
  | .none, _, h => by cases h; exact .non
  | .bool b, _, h => by cases h; exact .bl b
  | .int i, _, h => by cases h; exact .int i
  | .str x, _, h => by cases h; exact .str x
  | .list ds, _, h => by
    cases h with
    | lst hs ha => exact .lst (SqL.of (e _ _ hs)) (RpL.dp e ds _ ha)
  | .tuple ds, _, h => by
    cases h with
    | tup hs ha => exact .tup (SqT.of (e _ _ hs)) (RpL.dp e ds _ ha)
  | .dict _, _, h => by cases h
theorem RpL.dp (e : Same F H) : ∀ (ds : List PyData) (vs : List V), RpL F vs ds → DpAll K H vs ds
  | [], _, h => by cases h; exact .nil
  | d :: ds, _, h => by
    cases h with
    | cons h1 h2 => exact .cons (Rp.dp e d _ h1) (RpL.dp e ds _ h2)
end
theorem Rp.up {d : PyData} {v : V} (h : Rp F v d) (e : Same F F') : Rp F' v d := Rp.mono e d v h
theorem RpL.up {ds : List PyData} {vs : List V} (h : RpL F vs ds) (e : Same F F') : RpL F' vs ds := RpL.mono e ds vs h
theorem RpL.length : ∀ {vs : List V} {ds : List PyData}, RpL F vs ds → vs.length = ds.length
  | [], _, h => by cases h; rfl
  | _ :: vs, _, h => by
    cases h with
    | cons _ h2 => simp [RpL.length h2]
theorem RpL.get : ∀ {vs : List V} {ds : List PyData} {i : Nat} {d : PyData}, RpL F vs ds → ds[i]? = some d → ∃ v, vs[i]? = some v ∧ Rp F v d
  | [], _, _, _, h, e => by cases h; simp at e
  | _ :: _, _, 0, _, h, e => by
    cases h with
    | cons h1 _ => simp at e; subst e; exact ⟨_, rfl, h1⟩
  | _ :: vs, _, i + 1, _, h, e => by
    cases h with
    | cons _ h2 =>
      obtain ⟨v, e1, e2⟩ := RpL.get (i := i) h2 (by simpa using e)
      exact ⟨v, by simpa using e1, e2⟩
theorem RpL.get' : ∀ {vs : List V} {ds : List PyData} {i : Nat} {v : V}, RpL F vs ds → vs[i]? = some v → ∃ d, ds[i]? = some d ∧ Rp F v d
  | [], _, _, _, h, e => by simp at e
  | _ :: _, _, 0, _, h, e => by
    cases h with
    | cons h1 _ => simp at e; subst e; exact ⟨_, rfl, h1⟩
  | _ :: vs, _, i + 1, _, h, e => by
    cases h with
    | cons _ h2 =>
      obtain ⟨v, e1, e2⟩ := RpL.get' (i := i) h2 (by simpa using e)
      exact ⟨v, by simpa using e1, e2⟩
theorem RpL.append : ∀ {vs ws : List V} {ds es : List PyData}, RpL F vs ds → RpL F ws es → RpL F (vs ++ ws) (ds ++ es)
  | [], _, _, _, h, k => by cases h; exact k
  | _ :: _, _, _, _, h, k => by
    cases h with
    | cons h1 h2 => exact .cons h1 (RpL.append h2 k)
theorem RpL.one {v : V} {d : PyData} (h : Rp F v d) : RpL F [v] [d] := .cons h .nil
theorem RpL.take : ∀ {vs : List V} {ds : List PyData} (n : Nat), RpL F vs ds → RpL F (vs.take n) (ds.take n)
  | _, _, 0, _ => .nil
  | [], _, n + 1, h => by cases h; exact .nil
  | _ :: _, _, n + 1, h => by
    cases h with
    | cons h1 h2 => exact .cons h1 (RpL.take n h2)
theorem RpL.drop : ∀ {vs : List V} {ds : List PyData} (n : Nat), RpL F vs ds → RpL F (vs.drop n) (ds.drop n)
  | _, _, 0, h => h
  | [], _, n + 1, h => by cases h; exact .nil
  | _ :: _, _, n + 1, h => by
    cases h with
    | cons _ h2 => exact RpL.drop n h2
theorem RpL.set : ∀ {vs : List V} {ds : List PyData} {v : V} {d : PyData} (i : Nat), RpL F vs ds → Rp F v d → RpL F (vs.set i v) (ds.set i d)
  | [], _, _, _, _, h, _ => by cases h; exact .nil
  | _ :: _, _, _, _, 0, h, k => by
    cases h with
    | cons _ h2 => exact .cons k h2
  | _ :: _, _, _, _, i + 1, h, k => by
    cases h with
    | cons h1 h2 => exact .cons h1 (RpL.set i h2 k)
theorem RpL.eraseIdx : ∀ {vs : List V} {ds : List PyData} (i : Nat), RpL F vs ds → RpL F (vs.eraseIdx i) (ds.eraseIdx i)
  | [], _, _, h => by cases h; exact .nil
  | _ :: _, _, 0, h => by
    cases h with
    | cons _ h2 => exact h2
  | _ :: _, _, i + 1, h => by
    cases h with
    | cons h1 h2 => exact .cons h1 (RpL.eraseIdx i h2)
theorem RpL.dropLast : ∀ {vs : List V} {ds : List PyData}, RpL F vs ds → RpL F vs.dropLast ds.dropLast := fun {vs ds} h => by
  rw [List.dropLast_eq_take, List.dropLast_eq_take, h.length]
  exact h.take _
theorem RpL.reverse : ∀ {vs : List V} {ds : List PyData}, RpL F vs ds → RpL F vs.reverse ds.reverse
  | [], _, h => by cases h; exact .nil
  | _ :: _, _, h => by
    cases h with
    | cons h1 h2 => rw [List.reverse_cons, List.reverse_cons]; exact (RpL.reverse h2).append (.one h1)
theorem RpL.cutV {vs : List V} {ds : List PyData} (h : RpL F vs ds) (lo hi : Option Int) : RpL F (cutV vs lo hi) ((ds.drop (HT.sIx ds.length 0 lo)).take (HT.sIx ds.length ds.length hi - HT.sIx ds.length 0 lo)) := by
  unfold L2.cutV
  rw [h.length]
  exact (h.drop _).take _
theorem RpL.ints : ∀ (ns : List Int), RpL F (ns.map V.int) (ns.map PyData.int)
  | [] => .nil
  | n :: ns => .cons (.int n) (RpL.ints ns)
theorem RpL.of_ints : ∀ {ns : List Int} {vs : List V}, RpL F vs (ns.map PyData.int) → vs = ns.map V.int
  | [], _, h => by cases h; rfl
  | n :: ns, _, h => by
    cases h with
    | cons h1 h2 =>
      cases h1
      rw [List.map_cons, RpL.of_ints h2]
theorem RpL.strs : ∀ (ns : List Str), RpL F (ns.map V.str) (ns.map PyData.str)
  | [] => .nil
  | n :: ns => .cons (.str n) (RpL.strs ns)
theorem RpL.of_strs : ∀ {ns : List Str} {vs : List V}, RpL F vs (ns.map PyData.str) → vs = ns.map V.str
  | [], _, h => by cases h; rfl
  | n :: ns, _, h => by
    cases h with
    | cons h1 h2 =>
      cases h1
      rw [List.map_cons, RpL.of_strs h2]
theorem RpL.rep {vs : List V} {ds : List PyData} (h : RpL F vs ds) : ∀ k : Nat, RpL F (List.replicate k vs).flatten (List.replicate k ds).flatten
  | 0 => .nil
  | k + 1 => by rw [List.replicate_succ, List.replicate_succ, List.flatten_cons, List.flatten_cons]; exact h.append (RpL.rep h k)
end

/-! ### abstract values, the state -/
/-- the box of draws: its address, its list's -/
structure Gh where
  b : Option (Addr × Addr)
  R : Hp
def isBox (G : Gh) (a : Addr) : Prop := (match G.b with
  | none => False
  | some (b, l) => a = b ∨ a = l) ∨ G.R a ≠ none
def BoxAt (H : Hp) (b l : Addr) : Prop := b ≠ l ∧ ∃ (ns : List Int) (m : Int), H b = some (.lst [.ref l, .int m]) ∧ H l = some (.lst (ns.map V.int)) ∧ ns.length ≤ 1000 ∧ 0 ≤ m ∧ m < 2147483647
def bInv (o : Option (Addr × Addr)) (H : Hp) : Prop := match o with
  | none => True
  | some (b, l) => BoxAt H b l
/-- the box is not among what is known from without -/
def bDj (G : Gh) : Prop := match G.b with
  | none => True
  | some (b, l) => G.R b = none ∧ G.R l = none
def gInv (G : Gh) (H : Hp) : Prop := bInv G.b H ∧ Same G.R H ∧ bDj G
theorem gInv.box {G : Gh} {H : Hp} (g : gInv G H) {a : Addr} (h : isBox G a) : H a ≠ none := by
  obtain ⟨G1, R⟩ := G
  obtain ⟨g, gr, _⟩ := g
  rcases h with h | h
  · cases G1 with
    | none => exact h.elim
    | some p =>
      obtain ⟨b, l⟩ := p
      obtain ⟨_, ns, m, h1, h2, _⟩ := g
      rcases h with h | h
      · rw [h, h1]; simp
      · rw [h, h2]; simp
  · have h : R a ≠ none := h
    cases e : R a with
    | none => exact absurd e h
    | some o => rw [gr a o e]; simp
theorem gInv.keep {G : Gh} {H H' : Hp} (g : gInv G H) (k : ∀ a o, isBox G a → H a = some o → H' a = some o) : gInv G H' := by
  obtain ⟨G1, R⟩ := G
  obtain ⟨g, gr, gd⟩ := g
  refine ⟨?_, fun a o e => k a o (.inr (by show R a ≠ none; rw [show R a = some o from e]; simp)) (gr a o e), gd⟩
  cases G1 with
  | none => trivial
  | some p =>
    obtain ⟨b, l⟩ := p
    obtain ⟨ne, ns, m, h1, h2, h3⟩ := g
    exact ⟨ne, ns, m, k _ _ (.inl (.inl rfl)) h1, k _ _ (.inl (.inr rfl)) h2, h3⟩
theorem gInv.upd {G : Gh} {H : Hp} {p : Addr} {o : HO} (g : gInv G H) (n : ¬ isBox G p) : gInv G (upd H p o) := g.keep fun a u hb e => by
  rw [upd_ne (fun z => n (by rw [← z]; exact hb))]; exact e
/-- all that is known: from without, and here -/
def kn (G : Gh) (F : Hp) : Hp := fun a => match G.R a with
  | some o => some o
  | none => F a
theorem kn.up {G : Gh} {F F' : Hp} (e : Same F F') : Same (kn G F) (kn G F') := fun a o h => by
  unfold kn at h ⊢
  cases e2 : G.R a with
  | some u => rw [e2] at h; exact h
  | none => rw [e2] at h; exact e a o h
theorem kn.same {G : Gh} {F H : Hp} (e : Same F H) (g : gInv G H) : Same (kn G F) H := fun a o h => by
  unfold kn at h
  cases e2 : G.R a with
  | some u => rw [e2] at h; exact g.2.1 a o (by rw [e2]; exact h)
  | none => rw [e2] at h; exact e a o h
theorem kn.of {G : Gh} {F : Hp} (b : ∀ a, isBox G a → F a = none) : Same F (kn G F) := fun a o h => by
  unfold kn
  cases e2 : G.R a with
  | some u =>
    have := b a (.inr (by rw [e2]; simp))
    rw [this] at h; cases h
  | none => exact h
/-- from F, H to F', H': what is known stays, what is tracked stays but for the box, what is newly known is new -/
structure Stp (G : Gh) (F H F' H' : Hp) : Prop where
  ff : Same F F'
  fh : Same F' H'
  gi : gInv G H'
  keep : ∀ a o, H a = some o → ¬ isBox G a → H' a = some o
  new : ∀ a, F' a ≠ none → F a ≠ none ∨ H a = none
  box : ∀ a, isBox G a → F' a = none
theorem Stp.refl {G : Gh} {F H : Hp} (fh : Same F H) (gi : gInv G H) (box : ∀ a, isBox G a → F a = none) : Stp G F H F H := ⟨Same.refl _, fh, gi, fun _ _ h _ => h, fun _ h => .inl h, box⟩
theorem Stp.trans {G : Gh} {F H F1 H1 F2 H2 : Hp} (gi : gInv G H) (a : Stp G F H F1 H1) (b : Stp G F1 H1 F2 H2) : Stp G F H F2 H2 where
  ff := a.ff.trans b.ff
  fh := b.fh
  gi := b.gi
  keep := fun x o h n => b.keep x o (a.keep x o h n) n
  new := fun x h => by
    rcases b.new x h with q | q
    · exact a.new x q
    · by_cases n : isBox G x
      · exact absurd (b.box x n) h
      · cases e : H x with
        | none => exact .inr rfl
        | some o => rw [a.keep x o e n] at q; cases q
  box := b.box

/-- what a slot is known to hold -/
inductive A where
  | un
  | d (x : PyData)
  | own (xs : List PyData)
  | bor (i : Nat) (xs : List PyData)
  | yard (m : List Int) (k : List (List Int))
  | box
  | raw (v : V)
  | k (x : PyData)
  | fr (x : PyData)
  | dct (ks : List Int) (ds : List PyData)
abbrev A.int (i : Int) : A := .d (.int i)
abbrev A.bl (b : Bool) : A := .d (.bool b)
abbrev A.str (x : Str) : A := .d (.str x)
abbrev A.non : A := .d .none
abbrev A.lst (xs : List PyData) : A := .d (.list xs)
abbrev A.tup (xs : List PyData) : A := .d (.tuple xs)
/-- an instance of Yard: its fields -/
def kd (k : List (List Int)) : List PyData := k.map fun r => .list (r.map PyData.int)
def yf (t q : Addr) : List (Str × V) := putF "kinds" (.ref q) (putF "marked" (.ref t) [])
def YardAt (G : Gh) (C : Addr) (F : Hp) (v : V) (m : List Int) (k : List (List Int)) : Prop := ∃ a dx t q, v = .ref a ∧ kn G F a = some (.ins C dx (yf t q)) ∧ Rp (kn G F) (.ref t) (.tuple (m.map PyData.int)) ∧ Rp (kn G F) (.ref q) (.list (kd k))
theorem YardAt.up {G : Gh} {C : Addr} {F F' : Hp} {v : V} {m : List Int} {k : List (List Int)} (h : YardAt G C F v m k) (e : Same F F') : YardAt G C F' v m k := by
  obtain ⟨a, dx, t, q, h1, h2, h3, h4⟩ := h
  exact ⟨a, dx, t, q, h1, kn.up e _ _ h2, h3.up (kn.up e), h4.up (kn.up e)⟩
/-- what stays fixed through a def's run -/
structure Gm where
  G : Gh
  C : Addr
  F : Hp
  H : Hp
def ownAt (ρ : List A) (σ : St) (i : Nat) (p : Addr) : Prop := (∃ xs, ρ[i]? = some (.own xs)) ∧ σ[i]? = some (some (.ref p))
def Sl (Γ : Gm) (F H : Hp) (o : Option V) : A → Prop
  | .un => True
  | .d x => ∃ v, o = some v ∧ Rp F v x
  | .own xs => ∃ p vs, o = some (.ref p) ∧ H p = some (.lst vs) ∧ RpL F vs xs ∧ F p = none ∧ Γ.H p = none ∧ ¬ isBox Γ.G p
  | .bor _ _ => False
  | .yard m k => ∃ v, o = some v ∧ YardAt Γ.G Γ.C F v m k
  | .box => ∃ b l, Γ.G.b = some (b, l) ∧ o = some (.ref b)
  | .raw v => o = some v
  | .k x => ∃ v, o = some v ∧ Rp (kn Γ.G F) v x
  | .fr _ => True
  | .dct ks ds => ∃ p kvs, o = some (.ref p) ∧ H p = some (.dK kvs) ∧ kvs.map (·.1) = ks.map Sum.inl ∧ RpL F (kvs.map (·.2)) ds ∧ F p = none ∧ Γ.H p = none ∧ ¬ isBox Γ.G p
/-- what stands by itself at a slot: known to no other -/
def FrAt (Γ : Gm) (F : Hp) (ρ : List A) (σ : St) (H : Hp) (v : V) (Fs : Hp) (x : PyData) : Prop :=
  Rp Fs v x ∧ Same Fs H ∧ ∀ a, Fs a ≠ none → F a = none ∧ Γ.H a = none ∧ ¬ isBox Γ.G a ∧ ∀ j, ¬ ownAt ρ σ j a
structure M (Γ : Gm) (F : Hp) (ρ : List A) (σ : St) (H : Hp) : Prop where
  st : Stp Γ.G Γ.F Γ.H F H
  gi0 : gInv Γ.G Γ.H
  len : σ.length = ρ.length
  sl : ∀ (i : Nat) (a : A) (o : Option V), ρ[i]? = some a → σ[i]? = some o → Sl Γ F H o a
  dj : ∀ i j p, ownAt ρ σ i p → ownAt ρ σ j p → i = j
  fr : ∀ (i : Nat) (x : PyData), ρ[i]? = some (.fr x) → ∃ (v : V) (Fs : Hp), σ[i]? = some (some v) ∧ FrAt Γ F ρ σ H v Fs x
/-- what an expression's value is known to be -/
def Res (Γ : Gm) (ρ : List A) (σ : St) (F H F' H' : Hp) (v : V) : A → Prop
  | .un => True
  | .d x => Rp F' v x
  | .own xs => ∃ p vs, v = .ref p ∧ H p = none ∧ F' p = none ∧ H' p = some (.lst vs) ∧ RpL F' vs xs
  | .bor i xs => ρ[i]? = some (.own xs) ∧ σ[i]? = some (some v)
  | .yard m k => YardAt Γ.G Γ.C F' v m k
  | .box => ∃ b l, Γ.G.b = some (b, l) ∧ v = .ref b
  | .raw u => v = u
  | .k x => Rp (kn Γ.G F') v x
  | .fr x => ∃ Fs : Hp, Rp Fs v x ∧ Same Fs H' ∧ ∀ a, Fs a ≠ none → F' a = none ∧ H a = none
  | .dct ks ds => ∃ p kvs, v = .ref p ∧ H p = none ∧ F' p = none ∧ H' p = some (.dK kvs) ∧ kvs.map (·.1) = ks.map Sum.inl ∧ RpL F' (kvs.map (·.2)) ds
section
variable {Γ : Gm} {ρ : List A} {σ : St} {F H F' H' F1 H1 F2 H2 : Hp} {v : V} {r : A}
theorem M.fh (m : M Γ F ρ σ H) : Same F H := m.st.fh
theorem M.gi (m : M Γ F ρ σ H) : gInv Γ.G H := m.st.gi
theorem M.stp (m : M Γ F ρ σ H) : Stp Γ.G F H F H := Stp.refl m.st.fh m.st.gi m.st.box
theorem M.step (m : M Γ F ρ σ H) (s : Stp Γ.G F H F' H') : M Γ F' ρ σ H' := by
  refine ⟨m.st.trans m.gi0 s, m.gi0, m.len, fun i a o h1 h2 => ?_, m.dj, fun i x h1 => ?_⟩
  rotate_left
  · obtain ⟨v, Fs, e, r, ss, n⟩ := m.fr i x h1
    refine ⟨v, Fs, e, r, fun a o q => s.keep a o (ss a o q) (n a (by rw [q]; simp)).2.2.1, fun a q => ?_⟩
    obtain ⟨n1, n2, n3, n4⟩ := n a q
    refine ⟨?_, n2, n3, n4⟩
    cases e1 : F' a with
    | none => rfl
    | some o =>
      rcases s.new a (by rw [e1]; simp) with z | z
      · exact absurd n1 z
      · cases e2 : Fs a with
        | none => exact absurd e2 q
        | some u => rw [ss a u e2] at z; cases z
  have q := m.sl i a o h1 h2
  cases a with
  | un => trivial
  | d x =>
    obtain ⟨v, e, h⟩ := q
    exact ⟨v, e, h.up s.ff⟩
  | own xs =>
    obtain ⟨p, vs, e, h3, h4, h5, h6, h7⟩ := q
    refine ⟨p, vs, e, s.keep p _ h3 h7, h4.up s.ff, ?_, h6, h7⟩
    cases e1 : F' p with
    | none => rfl
    | some o =>
      rcases s.new p (by rw [e1]; simp) with z | z
      · exact absurd h5 z
      · rw [h3] at z; cases z
  | bor _ _ => exact q.elim
  | yard mm k =>
    obtain ⟨v, e, h⟩ := q
    exact ⟨v, e, h.up s.ff⟩
  | box => exact q
  | raw v => exact q
  | k x =>
    obtain ⟨v, e, h⟩ := q
    exact ⟨v, e, h.up (kn.up s.ff)⟩
  | fr x => trivial
  | dct ks ds =>
    obtain ⟨p, kvs, e, h3, hk, h4, h5, h6, h7⟩ := q
    refine ⟨p, kvs, e, s.keep p _ h3 h7, hk, h4.up s.ff, ?_, h6, h7⟩
    cases e1 : F' p with
    | none => rfl
    | some o =>
      rcases s.new p (by rw [e1]; simp) with z | z
      · exact absurd h5 z
      · rw [h3] at z; cases z
theorem Res.step (h : Res Γ ρ σ F H F1 H1 v r) (g : gInv Γ.G H) (s1 : Stp Γ.G F H F1 H1) (s : Stp Γ.G F1 H1 F2 H2) : Res Γ ρ σ F H F2 H2 v r := by
  cases r with
  | un => trivial
  | d x => exact Rp.up (show Rp F1 v x from h) s.ff
  | own xs =>
    obtain ⟨p, vs, e, h1, h2, h3, h4⟩ := h
    have nb : ¬ isBox Γ.G p := fun z => g.box z h1
    refine ⟨p, vs, e, h1, ?_, s.keep p _ h3 nb, h4.up s.ff⟩
    cases e1 : F2 p with
    | none => rfl
    | some o =>
      rcases s.new p (by rw [e1]; simp) with z | z
      · exact absurd h2 z
      · rw [h3] at z; cases z
  | bor _ _ => exact h
  | yard m k => exact YardAt.up (show YardAt Γ.G Γ.C F1 v m k from h) s.ff
  | box => exact h
  | raw u => exact h
  | k x => exact Rp.up (show Rp (kn Γ.G F1) v x from h) (kn.up s.ff)
  | fr x =>
    obtain ⟨Fs, r, ss, n⟩ := h
    refine ⟨Fs, r, fun a o q => s.keep a o (ss a o q) (fun z => g.box z (n a (by rw [q]; simp)).2), fun a q => ?_⟩
    obtain ⟨n1, n2⟩ := n a q
    refine ⟨?_, n2⟩
    cases e1 : F2 a with
    | none => rfl
    | some o =>
      rcases s.new a (by rw [e1]; simp) with z | z
      · exact absurd n1 z
      · cases e2 : Fs a with
        | none => exact absurd e2 q
        | some u => rw [ss a u e2] at z; cases z
  | dct ks ds =>
    obtain ⟨p, kvs, e, h1, h2, h3, hk, h4⟩ := h
    have nb : ¬ isBox Γ.G p := fun z => g.box z h1
    refine ⟨p, kvs, e, h1, ?_, s.keep p _ h3 nb, hk, h4.up s.ff⟩
    cases e1 : F2 p with
    | none => rfl
    | some o =>
      rcases s.new p (by rw [e1]; simp) with z | z
      · exact absurd h2 z
      · rw [h3] at z; cases z
/-- a new object that is known from now on -/
theorem Stp.new1 {G : Gh} {a : Addr} {o : HO} (fh : Same F H) (gi : gInv G H) (box : ∀ a, isBox G a → F a = none) (hp : H a = none) : Stp G F H (upd F a o) (upd H a o) := by
  have nf : F a = none := fh.free hp
  refine ⟨fun b u e => ?_, fun b u e => ?_, ?_, fun b u e _ => ?_, fun b e => ?_, fun b hb => ?_⟩
  · rw [upd_ne (ne_of_none e nf)]; exact e
  · by_cases z : b = a
    · subst z; rw [upd_same] at e ⊢; exact e
    · rw [upd_ne z] at e ⊢; exact fh b u e
  · exact gi.upd fun z => gi.box z hp
  · rw [upd_ne (ne_of_none e hp)]; exact e
  · by_cases z : b = a
    · subst z; exact .inr hp
    · rw [upd_ne z] at e; exact .inl e
  · have nb : b ≠ a := fun z => by subst z; exact gi.box hb hp
    rw [upd_ne nb]; exact box b hb
/-- a new object that is not yet known -/
theorem Stp.new0 {G : Gh} {a : Addr} {o : HO} (fh : Same F H) (gi : gInv G H) (box : ∀ a, isBox G a → F a = none) (hp : H a = none) : Stp G F H F (upd H a o) := by
  have s := Stp.new1 (o := o) fh gi box hp
  refine ⟨Same.refl _, fun b u e => ?_, s.gi, s.keep, fun b e => .inl e, box⟩
  rw [upd_ne (ne_of_none (fh b u e) hp)]; exact fh b u e
/-- an object that stands and is not known becomes known -/
theorem Stp.freeze {G : Gh} {a : Addr} {o : HO} (s : Stp G F H F1 H1) (h0 : H a = none) (h1 : H1 a = some o) (gi : gInv G H) : Stp G F H (upd F1 a o) H1 := by
  have nb : ¬ isBox G a := fun z => gi.box z h0
  have k : ∀ b u, F1 b = some u → upd F1 a o b = some u := fun b u e => by
    by_cases z : b = a
    · subst z
      have e2 := s.fh _ _ e
      rw [h1] at e2
      rw [upd_same]; exact e2
    · rw [upd_ne z]; exact e
  refine ⟨s.ff.trans k, fun b u e => ?_, s.gi, s.keep, fun b e => ?_, fun b hb => ?_⟩
  · by_cases z : b = a
    · subst z; rw [upd_same] at e; cases e; exact h1
    · rw [upd_ne z] at e; exact s.fh b u e
  · by_cases z : b = a
    · subst z; exact .inr h0
    · rw [upd_ne z] at e; exact s.new b e
  · rw [upd_ne (fun z => by subst z; exact nb hb)]; exact s.box b hb
end
end Yd

/-! YdB: expressions and tests as predicate transformers over abstract values, each sound for a reading of HandS. -/
namespace Yd
open PySem L2

/-! ### what stands at a value -/
def asL : A → Option (List PyData)
  | .own xs => some xs
  | .bor _ xs => some xs
  | .d (.list xs) => some xs
  | _ => none
/-- as data, once it is frozen; a borrowed list is none -/
def toD : A → Option PyData
  | .own xs => some (.list xs)
  | .d x => some x
  | _ => none
/-- as data, to be read -/
def rdD : A → Option PyData
  | .own xs => some (.list xs)
  | .bor _ xs => some (.list xs)
  | .d x => some x
  | _ => none
def allD : List A → Option (List PyData)
  | [] => some []
  | a :: as => match toD a, allD as with
    | some d, some ds => some (d :: ds)
    | _, _ => none
/-- frozen; none for a borrowed list, an unknown -/
def fz : A → Option A
  | .own xs => some (.d (.list xs))
  | .bor _ _ => none
  | .un => none
  | .fr _ => none
  | .dct _ _ => none
  | a => some a
def fzs : List A → Option (List A)
  | [] => some []
  | a :: as => match fz a, fzs as with
    | some d, some ds => some (d :: ds)
    | _, _ => none

inductive ResL (Γ : Gm) (ρ : List A) (σ : St) (F H F' H' : Hp) : List V → List A → Prop
  | nil : ResL Γ ρ σ F H F' H' [] []
  | cons {v : V} {vs : List V} {r : A} {rs : List A} : Res Γ ρ σ F H F' H' v r → ResL Γ ρ σ F H F' H' vs rs → ResL Γ ρ σ F H F' H' (v :: vs) (r :: rs)
/-- a frozen value: an argument -/
def ArgR (G : Gh) (C : Addr) (F : Hp) (v : V) : A → Prop
  | .d x => Rp F v x
  | .yard m k => YardAt G C F v m k
  | .box => ∃ b l, G.b = some (b, l) ∧ v = .ref b
  | .raw u => v = u
  | .k x => Rp (kn G F) v x
  | _ => False
inductive ArgsR (G : Gh) (C : Addr) (F : Hp) : List V → List A → Prop
  | nil : ArgsR G C F [] []
  | cons {v : V} {vs : List V} {r : A} {rs : List A} : ArgR G C F v r → ArgsR G C F vs rs → ArgsR G C F (v :: vs) (r :: rs)
theorem Stp.none_back {G : Gh} {F H F1 H1 : Hp} (s : Stp G F H F1 H1) {p : Addr} (h : H1 p = none) : H p = none := by
  cases e : H p with
  | none => rfl
  | some o =>
    by_cases n : isBox G p
    · exact absurd h (s.gi.box n)
    · rw [s.keep p o e n] at h; cases h
section
variable {Γ : Gm} {ρ : List A} {σ : St} {F H F' H' F1 H1 F2 H2 : Hp} {v : V} {r : A} {K : PySem.W.Frag}
theorem ResL.step : ∀ {vs : List V} {rs : List A}, ResL Γ ρ σ F H F1 H1 vs rs → gInv Γ.G H → Stp Γ.G F H F1 H1 → Stp Γ.G F1 H1 F2 H2 → ResL Γ ρ σ F H F2 H2 vs rs
  | _, _, .nil, _, _, _ => .nil
  | _, _, .cons h t, g, s1, s => .cons (Res.step h g s1 s) (ResL.step t g s1 s)
/-- relative to an earlier state -/
theorem Res.back (h : Res Γ ρ σ F1 H1 F2 H2 v r) (s : Stp Γ.G F H F1 H1) : Res Γ ρ σ F H F2 H2 v r := by
  cases r with
  | own xs =>
    obtain ⟨p, vs, e, h1, h2, h3, h4⟩ := h
    exact ⟨p, vs, e, s.none_back h1, h2, h3, h4⟩
  | fr x =>
    obtain ⟨Fs, r, ss, n⟩ := h
    exact ⟨Fs, r, ss, fun a q => ⟨(n a q).1, s.none_back (n a q).2⟩⟩
  | dct ks ds =>
    obtain ⟨p, kvs, e, h1, h2, h3, h4⟩ := h
    exact ⟨p, kvs, e, s.none_back h1, h2, h3, h4⟩
  | _ => exact h
theorem ResL.back : ∀ {vs : List V} {rs : List A}, ResL Γ ρ σ F1 H1 F2 H2 vs rs → Stp Γ.G F H F1 H1 → ResL Γ ρ σ F H F2 H2 vs rs
  | _, _, .nil, _ => .nil
  | _, _, .cons h t, s => .cons (h.back s) (t.back s)
theorem ArgR.up {G : Gh} {C : Addr} {r : A} (h : ArgR G C F v r) (e : Same F F') : ArgR G C F' v r := by
  cases r with
  | d x => exact Rp.up (show Rp F v x from h) e
  | yard m k => exact YardAt.up (show YardAt G C F v m k from h) e
  | k x => exact Rp.up (show Rp (kn G F) v x from h) (kn.up e)
  | box => exact h
  | raw u => exact h
  | _ => exact h
theorem ArgsR.up {G : Gh} {C : Addr} (e : Same F F') : ∀ {vs : List V} {rs : List A}, ArgsR G C F vs rs → ArgsR G C F' vs rs
  | _, _, .nil => .nil
  | _, _, .cons h t => .cons (h.up e) (ArgsR.up e t)
theorem ArgsR.length {G : Gh} {C : Addr} : ∀ {vs : List V} {rs : List A}, ArgsR G C F vs rs → vs.length = rs.length
  | _, _, .nil => rfl
  | _, _, .cons _ t => by simp [ArgsR.length t]
/-- the contents of a list that is read -/
theorem Res.list (m : M Γ F1 ρ σ H1) (h : Res Γ ρ σ F H F1 H1 v r) {xs : List PyData} (e : asL r = some xs) : ∃ p vs, v = .ref p ∧ H1 p = some (.lst vs) ∧ RpL F1 vs xs := by
  cases r with
  | own ys =>
    cases e
    obtain ⟨p, vs, e1, _, _, h3, h4⟩ := h
    exact ⟨p, vs, e1, h3, h4⟩
  | bor i ys =>
    cases e
    obtain ⟨h1, h2⟩ := h
    obtain ⟨p, vs, e1, h3, h4, _⟩ := m.sl i _ _ h1 h2
    exact ⟨p, vs, by injection e1, h3, h4⟩
  | d x =>
    cases x with
    | list ys =>
      have q : Rp F1 v (.list xs) := by
        rw [← (Option.some.inj e : ys = xs)]
        exact h
      cases q with
      | lst ha hl => exact ⟨_, _, rfl, m.fh _ _ ha, hl⟩
    | _ => cases e
  | _ => cases e
theorem Res.tupl (m : M Γ F1 ρ σ H1) {xs : List PyData} (h : Res Γ ρ σ F H F1 H1 v (.d (.tuple xs))) : ∃ p vs, v = .ref p ∧ F1 p = some (.tup vs) ∧ H1 p = some (.tup vs) ∧ RpL F1 vs xs := by
  have q : Rp F1 v (.tuple xs) := h
  cases q with
  | tup ha hl => exact ⟨_, _, rfl, ha, m.fh _ _ ha, hl⟩
theorem Res.dp (m : M Γ F1 ρ σ H1) (h : Res Γ ρ σ F H F1 H1 v r) {x : PyData} (e : rdD r = some x) : Dp K H1 v x := by
  cases r with
  | own ys =>
    cases e
    obtain ⟨p, vs, rfl, h3, h4⟩ := h.list m (xs := ys) rfl
    exact .lst (SqL.of h3) (RpL.dp m.fh _ _ h4)
  | bor i ys =>
    cases e
    obtain ⟨p, vs, rfl, h3, h4⟩ := h.list m (xs := ys) rfl
    exact .lst (SqL.of h3) (RpL.dp m.fh _ _ h4)
  | d y =>
    cases e
    exact Rp.dp m.fh _ _ h
  | _ => cases e
/-- frozen, over any F2 between -/
theorem Res.freeze (g : gInv Γ.G H) (h : Res Γ ρ σ F H F1 H1 v r) {r' : A} (e : fz r = some r') (s : Stp Γ.G F H F2 H1) (k : Same F1 F2) : ∃ F3, Same F2 F3 ∧ Stp Γ.G F H F3 H1 ∧ ArgR Γ.G Γ.C F3 v r' := by
  cases r with
  | own xs =>
    cases e
    obtain ⟨p, vs, rfl, h1, h2, h3, h4⟩ := h
    have s2 := s.freeze h1 h3 g
    have k2 : Same F2 (upd F2 p (.lst vs)) := fun b u q => by
      by_cases z : b = p
      · subst z
        rw [upd_same, ← h3]
        exact s.fh _ _ q
      · rw [upd_ne z]; exact q
    exact ⟨_, k2, s2, Rp.lst upd_same (h4.up (k.trans k2))⟩
  | bor _ _ => cases e
  | un => cases e
  | d x => cases e; exact ⟨F2, Same.refl _, s, Rp.up (show Rp F1 v x from h) k⟩
  | yard m q => cases e; exact ⟨F2, Same.refl _, s, YardAt.up (show YardAt Γ.G Γ.C F1 v m q from h) k⟩
  | k x => cases e; exact ⟨F2, Same.refl _, s, Rp.up (show Rp (kn Γ.G F1) v x from h) (kn.up k)⟩
  | fr x => cases e
  | dct _ _ => cases e
  | box => cases e; exact ⟨F2, Same.refl _, s, h⟩
  | raw u => cases e; exact ⟨F2, Same.refl _, s, h⟩
theorem ResL.freeze (g : gInv Γ.G H) : ∀ {vs : List V} {rs rs' : List A} {F2 : Hp}, ResL Γ ρ σ F H F1 H1 vs rs → fzs rs = some rs' → Stp Γ.G F H F2 H1 → Same F1 F2 → ∃ F3, Same F2 F3 ∧ Stp Γ.G F H F3 H1 ∧ ArgsR Γ.G Γ.C F3 vs rs'
  | _, _, _, F2, .nil, e, s, k => by cases e; exact ⟨F2, Same.refl _, s, .nil⟩
  | _, _, _, F2, .cons (r := r) (rs := rs) h t, e, s, k => by
    unfold fzs at e
    split at e
    · rename_i d ds e1 e2
      cases e
      obtain ⟨F3, k3, s3, a3⟩ := h.freeze g e1 s k
      obtain ⟨F4, k4, s4, a4⟩ := ResL.freeze g t e2 s3 (k.trans k3)
      exact ⟨F4, k3.trans k4, s4, .cons (a3.up k4) a4⟩
    · cases e
theorem toD_fz {r : A} {d : PyData} (e : toD r = some d) : fz r = some (.d d) := by
  cases r <;> first | (cases e; rfl) | cases e
theorem allD_fzs : ∀ {rs : List A} {ds : List PyData}, allD rs = some ds → fzs rs = some (ds.map A.d)
  | [], _, e => by cases e; rfl
  | r :: rs, _, e => by
    unfold allD at e
    split at e
    · rename_i d ds e1 e2
      cases e
      unfold fzs
      rw [toD_fz e1, allD_fzs e2]
      rfl
    · cases e
theorem ArgsR.data {G : Gh} {C : Addr} : ∀ {vs : List V} {ds : List PyData}, ArgsR G C F vs (ds.map A.d) → RpL F vs ds
  | _, [], h => by cases h; exact .nil
  | _, d :: ds, h => by
    cases h with
    | cons h1 h2 => exact .cons h1 (ArgsR.data h2)
end

/-! ### the judgements -/
abbrev WE := List A → (A → Prop) → Prop
abbrev WT := List A → (Bool → Prop) → Prop
abbrev WA := List A → (List A → Prop) → Prop
def SndE (Γ : Gm) (t : TE) (w : WE) : Prop := ∀ (ρ : List A) (Q : A → Prop) (F : Hp) (σ : St) (H : Hp) (K : VK), M Γ F ρ σ H → w ρ Q →
  (∀ F' H' v r, Stp Γ.G F H F' H' → Res Γ ρ σ F H F' H' v r → Q r → K v H') → t σ H K
def SndT (Γ : Gm) (t : TT) (w : WT) : Prop := ∀ (ρ : List A) (Q : Bool → Prop) (F : Hp) (σ : St) (H : Hp) (K : Bool → Hp → Prop), M Γ F ρ σ H → w ρ Q →
  (∀ F' H' b, Stp Γ.G F H F' H' → Q b → K b H') → t σ H K
def SndA (Γ : Gm) (t : TA) (w : WA) : Prop := ∀ (ρ : List A) (Q : List A → Prop) (F : Hp) (σ : St) (H : Hp) (K : List V → Hp → Prop), M Γ F ρ σ H → w ρ Q →
  (∀ F' H' vs rs, Stp Γ.G F H F' H' → ResL Γ ρ σ F H F' H' vs rs → Q rs → K vs H') → t σ H K
structure PD (X : Cx) (Γ : Gm) (e : Expr) (t : TE) (w : WE) : Prop where
  pe : PE X e t
  sd : SndE Γ t w
structure PDT (X : Cx) (Γ : Gm) (e : Expr) (t : TT) (w : WT) : Prop where
  pt : PT X e t
  sd : SndT Γ t w
structure PDW (X : Cx) (Γ : Gm) (e : Expr) (t : TT) (w : WT) : Prop where
  pw : PW X e t
  sd : SndT Γ t w
structure PDA (X : Cx) (Γ : Gm) (es : List Expr) (t : TA) (w : WA) : Prop where
  pa : PA X es t
  sd : SndA Γ t w
/-- an operation on two values -/
def SndR (Γ : Gm) (r : R2) (f : A → A → (A → Prop) → Prop) : Prop := ∀ (ρ : List A) (σ : St) (F H F1 H1 : Hp) (x y : V) (a b : A) (Q : A → Prop) (K : VK), M Γ F ρ σ H → M Γ F1 ρ σ H1 → Stp Γ.G F H F1 H1 →
  Res Γ ρ σ F H F1 H1 x a → Res Γ ρ σ F H F1 H1 y b → f a b Q → (∀ F2 H2 v c, Stp Γ.G F H F2 H2 → Res Γ ρ σ F H F2 H2 v c → Q c → K v H2) → r x y H1 K
def SndU (Γ : Gm) (r : V → Hp → VK → Prop) (f : A → (A → Prop) → Prop) : Prop := ∀ (ρ : List A) (σ : St) (F H F1 H1 : Hp) (x : V) (a : A) (Q : A → Prop) (K : VK), M Γ F ρ σ H → M Γ F1 ρ σ H1 → Stp Γ.G F H F1 H1 →
  Res Γ ρ σ F H F1 H1 x a → f a Q → (∀ F2 H2 v c, Stp Γ.G F H F2 H2 → Res Γ ρ σ F H F2 H2 v c → Q c → K v H2) → r x H1 K
def SndC (Γ : Gm) (r : List V → Hp → VK → Prop) (f : List A → (A → Prop) → Prop) : Prop := ∀ (ρ : List A) (σ : St) (F H F1 H1 : Hp) (xs : List V) (as : List A) (Q : A → Prop) (K : VK), M Γ F ρ σ H → M Γ F1 ρ σ H1 → Stp Γ.G F H F1 H1 →
  ResL Γ ρ σ F H F1 H1 xs as → f as Q → (∀ F2 H2 v c, Stp Γ.G F H F2 H2 → Res Γ ρ σ F H F2 H2 v c → Q c → K v H2) → r xs H1 K

/-! ### the transformers -/
def wName (i : Nat) : WE := fun ρ Q => match ρ[i]? with
  | some (.own xs) => Q (.bor i xs)
  | some (.bor _ _) => False
  | some .un => False
  | some (.fr _) => False
  | some (.dct _ _) => False
  | some a => Q a
  | none => False
def wC (a : A) : WE := fun _ Q => Q a
def wOp (f : A → A → (A → Prop) → Prop) (wa wb : WE) : WE := fun ρ Q => wa ρ fun x => wb ρ fun y => f x y Q
def wUn (f : A → (A → Prop) → Prop) (wa : WE) : WE := fun ρ Q => wa ρ fun x => f x Q
def wTest (w : WE) : WT := fun ρ Q => w ρ fun r => match r with
  | .d (.bool b) => Q b
  | _ => False
def wAnd (a b : WT) : WT := fun ρ Q => a ρ fun c => (c = true → b ρ Q) ∧ (c = false → Q false)
def wOr (a b : WT) : WT := fun ρ Q => a ρ fun c => (c = true → Q true) ∧ (c = false → b ρ Q)
def wNot (a : WT) : WT := fun ρ Q => a ρ fun c => Q (!c)
def wAndV (a b : WE) : WE := fun ρ Q => a ρ fun r => match r with
  | .d (.bool c) => (c = true → b ρ Q) ∧ (c = false → Q (.bl false))
  | _ => False
def wOrV (a b : WE) : WE := fun ρ Q => a ρ fun r => match r with
  | .d (.bool c) => (c = true → Q (.bl true)) ∧ (c = false → b ρ Q)
  | _ => False
def wNotV (a : WE) : WE := fun ρ Q => a ρ fun r => match r with
  | .d (.bool c) => Q (.bl (!c))
  | _ => False
def wIfE (t : WT) (a b : WE) : WE := fun ρ Q => t ρ fun c => (c = true → a ρ Q) ∧ (c = false → b ρ Q)
def wNil : WA := fun _ Q => Q []
def wCons (a : WE) (b : WA) : WA := fun ρ Q => a ρ fun x => b ρ fun xs => Q (x :: xs)
def wTupD (wa : WA) : WE := fun ρ Q => wa ρ fun rs => match allD rs with
  | some ds => ds.length ≤ sizeLine ∧ Q (.d (.tuple ds))
  | none => False
def wLstD (wa : WA) : WE := fun ρ Q => wa ρ fun rs => match allD rs with
  | some ds => ds.length ≤ sizeLine ∧ Q (.own ds)
  | none => False
def wCB (f : List A → (A → Prop) → Prop) (wa : WA) : WE := fun ρ Q => wa ρ fun rs => f rs Q
/-- a chain of two comparisons whose middle is an int -/
def wChain (f g : A → A → (A → Prop) → Prop) (a b c : WE) : WE := fun ρ Q => a ρ fun x => b ρ fun y => match y with
  | .d (.int j) => f x (.int j) fun r => match r with
    | .d (.bool k) => (k = true → c ρ fun z => g (.int j) z Q) ∧ (k = false → Q (.bl false))
    | _ => False
  | _ => False

section
variable {X : Cx} {Γ : Gm} {e a b c : Expr} {es : List Expr} {t ta tb tc : TE} {tt tu : TT} {tA : TA} {w wa wb wc : WE} {wt wu : WT} {wA : WA} {pos : Pos}
theorem M.gi' {Γ : Gm} {F : Hp} {ρ : List A} {σ : St} {H : Hp} (m : M Γ F ρ σ H) : gInv Γ.G H := m.st.gi

theorem sd_name (i : Nat) : SndE Γ (tVar i) (wName i) := fun ρ Q F σ H K m h k => by
  unfold wName at h
  split at h
  · rename_i xs e
    obtain ⟨o, ho⟩ : ∃ o, σ[i]? = some o := by
      have hl : i < σ.length := by rw [m.len]; exact (List.getElem?_eq_some_iff.mp e).1
      exact ⟨σ[i], List.getElem?_eq_getElem hl⟩
    obtain ⟨p, vs, rfl, _⟩ := m.sl i _ _ e ho
    exact ⟨_, ho, k F H _ (.bor i xs) m.stp ⟨e, ho⟩ h⟩
  · exact h.elim
  · exact h.elim
  · exact h.elim
  · exact h.elim
  · rename_i a' n1 n2 n3 n4 n5 e
    obtain ⟨o, ho⟩ : ∃ o, σ[i]? = some o := by
      have hl : i < σ.length := by rw [m.len]; exact (List.getElem?_eq_some_iff.mp e).1
      exact ⟨σ[i], List.getElem?_eq_getElem hl⟩
    have q := m.sl i _ _ e ho
    cases a' with
    | un => exact (n3 rfl).elim
    | own xs => exact (n1 xs rfl).elim
    | bor j xs => exact (n2 j xs rfl).elim
    | d x =>
      obtain ⟨v, rfl, r⟩ := q
      exact ⟨v, ho, k F H v (.d x) m.stp r h⟩
    | yard mm kk =>
      obtain ⟨v, rfl, r⟩ := q
      exact ⟨v, ho, k F H v (.yard mm kk) m.stp r h⟩
    | k x =>
      obtain ⟨v, rfl, r⟩ := q
      exact ⟨v, ho, k F H v (.k x) m.stp r h⟩
    | fr x => exact (n4 x rfl).elim
    | dct ks ds => exact (n5 ks ds rfl).elim
    | box =>
      obtain ⟨b, l, g, rfl⟩ := q
      exact ⟨_, ho, k F H _ .box m.stp ⟨b, l, g, rfl⟩ h⟩
    | raw v =>
      have q' : o = some v := q
      subst q'
      exact ⟨v, ho, k F H v (.raw v) m.stp rfl h⟩
  · exact h.elim
theorem sd_c {v : V} {d : PyData} (h : ∀ F, Rp F v d) : SndE Γ (tC v) (wC (.d d)) := fun ρ Q F σ H K m q k => k F H v (.d d) m.stp (h F) q
theorem sd_raw {v : V} : SndE Γ (tC v) (wC (.raw v)) := fun ρ Q F σ H K m q k => k F H v (.raw v) m.stp rfl q
theorem sd_op {r : R2} {f : A → A → (A → Prop) → Prop} (hr : SndR Γ r f) (ha : SndE Γ ta wa) (hb : SndE Γ tb wb) : SndE Γ (tOp r ta tb) (wOp f wa wb) := fun ρ Q F σ H K m h k =>
  ha ρ _ F σ H _ m h fun F1 H1 x a1 s1 r1 h1 => hb ρ _ F1 σ H1 _ (m.step s1) h1 fun F2 H2 y b1 s2 r2 h2 =>
    hr ρ σ F H F2 H2 x y a1 b1 Q K m ((m.step s1).step s2) (s1.trans m.gi s2) (r1.step m.gi s1 s2) (r2.back s1) h2 k
theorem sd_un {r : V → Hp → VK → Prop} {f : A → (A → Prop) → Prop} (hr : SndU Γ r f) (ha : SndE Γ ta wa) : SndE Γ (tUn r ta) (wUn f wa) := fun ρ Q F σ H K m h k =>
  ha ρ _ F σ H _ m h fun F1 H1 x a1 s1 r1 h1 => hr ρ σ F H F1 H1 x a1 Q K m (m.step s1) s1 r1 h1 k
theorem sd_test (h : SndE Γ t w) : SndT Γ (tTest t) (wTest w) := fun ρ Q F σ H K m q k =>
  h ρ _ F σ H _ m q fun F1 H1 v r s1 r1 h1 => by
    split at h1
    · rename_i b
      have r2 : Rp F1 v (.bool b) := r1
      cases r2
      exact ⟨b, rfl, k F1 H1 b s1 h1⟩
    · exact h1.elim
theorem sd_tB (h : SndE Γ t w) : SndT Γ (tB t) (wTest w) := sd_test h
theorem sd_and (h1 : SndT Γ tt wt) (h2 : SndT Γ tu wu) : SndT Γ (tAnd tt tu) (wAnd wt wu) := fun ρ Q F σ H K m q k =>
  h1 ρ _ F σ H _ m q fun F1 H1 b s1 p => by
    cases b with
    | true => exact iteT (h2 ρ _ F1 σ H1 _ (m.step s1) (p.1 rfl) fun F2 H2 c s2 p2 => k F2 H2 c (s1.trans m.gi s2) p2)
    | false => exact iteF (k F1 H1 false s1 (p.2 rfl))
theorem sd_or (h1 : SndT Γ tt wt) (h2 : SndT Γ tu wu) : SndT Γ (tOr tt tu) (wOr wt wu) := fun ρ Q F σ H K m q k =>
  h1 ρ _ F σ H _ m q fun F1 H1 b s1 p => by
    cases b with
    | true => exact iteT (k F1 H1 true s1 (p.1 rfl))
    | false => exact iteF (h2 ρ _ F1 σ H1 _ (m.step s1) (p.2 rfl) fun F2 H2 c s2 p2 => k F2 H2 c (s1.trans m.gi s2) p2)
theorem sd_not (h1 : SndT Γ tt wt) : SndT Γ (tNot tt) (wNot wt) := fun ρ Q F σ H K m q k =>
  h1 ρ _ F σ H _ m q fun F1 H1 b s1 p => k F1 H1 (!b) s1 p
theorem sd_andV (h1 : SndE Γ ta wa) (h2 : SndE Γ tb wb) : SndE Γ (tAndV ta tb) (wAndV wa wb) := fun ρ Q F σ H K m q k =>
  h1 ρ _ F σ H _ m q fun F1 H1 v r s1 r1 p => by
    split at p
    · rename_i c
      have r2 : Rp F1 v (.bool c) := r1
      cases r2
      refine ⟨c, rfl, ?_⟩
      cases c with
      | true => exact iteT (h2 ρ _ F1 σ H1 _ (m.step s1) (p.1 rfl) fun F2 H2 v2 r2 s2 q2 p2 => k F2 H2 v2 r2 (s1.trans m.gi s2) (q2.back s1) p2)
      | false => exact iteF (k F1 H1 _ (.bl false) s1 (Rp.bl false) (p.2 rfl))
    · exact p.elim
theorem sd_orV (h1 : SndE Γ ta wa) (h2 : SndE Γ tb wb) : SndE Γ (tOrV ta tb) (wOrV wa wb) := fun ρ Q F σ H K m q k =>
  h1 ρ _ F σ H _ m q fun F1 H1 v r s1 r1 p => by
    split at p
    · rename_i c
      have r2 : Rp F1 v (.bool c) := r1
      cases r2
      refine ⟨c, rfl, ?_⟩
      cases c with
      | false => exact iteF (h2 ρ _ F1 σ H1 _ (m.step s1) (p.2 rfl) fun F2 H2 v2 r2 s2 q2 p2 => k F2 H2 v2 r2 (s1.trans m.gi s2) (q2.back s1) p2)
      | true => exact iteT (k F1 H1 _ (.bl true) s1 (Rp.bl true) (p.1 rfl))
    · exact p.elim
theorem sd_notV (h1 : SndE Γ ta wa) : SndE Γ (tNotV ta) (wNotV wa) := fun ρ Q F σ H K m q k =>
  h1 ρ _ F σ H _ m q fun F1 H1 v r s1 r1 p => by
    split at p
    · rename_i c
      have r2 : Rp F1 v (.bool c) := r1
      cases r2
      exact ⟨c, rfl, k F1 H1 _ (.bl (!c)) s1 (Rp.bl _) p⟩
    · exact p.elim
theorem sd_if (h1 : SndT Γ tt wt) (h2 : SndE Γ ta wa) (h3 : SndE Γ tb wb) : SndE Γ (tIf tt ta tb) (wIfE wt wa wb) := fun ρ Q F σ H K m q k =>
  h1 ρ _ F σ H _ m q fun F1 H1 b s1 p => by
    cases b with
    | true => exact iteT (h2 ρ _ F1 σ H1 _ (m.step s1) (p.1 rfl) fun F2 H2 v2 r2 s2 q2 p2 => k F2 H2 v2 r2 (s1.trans m.gi s2) (q2.back s1) p2)
    | false => exact iteF (h3 ρ _ F1 σ H1 _ (m.step s1) (p.2 rfl) fun F2 H2 v2 r2 s2 q2 p2 => k F2 H2 v2 r2 (s1.trans m.gi s2) (q2.back s1) p2)
theorem sd_nil : SndA Γ tNil wNil := fun ρ Q F σ H K m q k => k F H [] [] m.stp .nil q
theorem sd_cons (h1 : SndE Γ ta wa) (h2 : SndA Γ tA wA) : SndA Γ (tCons ta tA) (wCons wa wA) := fun ρ Q F σ H K m q k =>
  h1 ρ _ F σ H _ m q fun F1 H1 v r s1 r1 p => h2 ρ _ F1 σ H1 _ (m.step s1) p fun F2 H2 vs rs s2 r2 p2 => k F2 H2 (v :: vs) (r :: rs) (s1.trans m.gi s2) (.cons (r1.step m.gi s1 s2) (r2.back s1)) p2
theorem sd_tup (h : SndA Γ tA wA) : SndE Γ (tTup tA) (wTupD wA) := fun ρ Q F σ H K m q k =>
  h ρ _ F σ H _ m q fun F1 H1 vs rs s1 r1 p => by
    split at p
    · rename_i ds e
      obtain ⟨F2, k2, s2, a2⟩ := r1.freeze m.gi (allD_fzs e) s1 (Same.refl _)
      have l2 := a2.data
      refine ⟨by rw [l2.length]; exact p.1, fun x hx => ?_⟩
      have s3 := Stp.new1 (o := .tup vs) s2.fh s2.gi s2.box hx
      exact k _ _ _ (.d (.tuple ds)) (s2.trans m.gi s3) (Rp.tup upd_same (l2.up s3.ff)) p.2
    · exact p.elim
theorem sd_lst (h : SndA Γ tA wA) : SndE Γ (tLst tA) (wLstD wA) := fun ρ Q F σ H K m q k =>
  h ρ _ F σ H _ m q fun F1 H1 vs rs s1 r1 p => by
    split at p
    · rename_i ds e
      obtain ⟨F2, k2, s2, a2⟩ := r1.freeze m.gi (allD_fzs e) s1 (Same.refl _)
      have l2 := a2.data
      refine ⟨by rw [l2.length]; exact p.1, fun x hx => ?_⟩
      have s3 := Stp.new0 (o := .lst vs) s2.fh s2.gi s2.box hx
      exact k _ _ _ (.own ds) (s2.trans m.gi s3) ⟨x, vs, rfl, s2.none_back hx, s2.fh.free hx, upd_same, l2⟩ p.2
    · exact p.elim
theorem sd_cb {r : List V → Hp → VK → Prop} {f : List A → (A → Prop) → Prop} (hr : SndC Γ r f) (h : SndA Γ tA wA) : SndE Γ (tCB r tA) (wCB f wA) := fun ρ Q F σ H K m q k =>
  h ρ _ F σ H _ m q fun F1 H1 vs rs s1 r1 p => hr ρ σ F H F1 H1 vs rs Q K m (m.step s1) s1 r1 p k
theorem sd_chain {r r' : R2} {f g : A → A → (A → Prop) → Prop} (hr : SndR Γ r f) (hr' : SndR Γ r' g) (h1 : SndE Γ ta wa) (h2 : SndE Γ tb wb) (h3 : SndE Γ tc wc) : SndE Γ (tChain r r' ta tb tc) (wChain f g wa wb wc) := fun ρ Q F σ H K m q k =>
  h1 ρ _ F σ H _ m q fun F1 H1 x a1 s1 r1 p1 => h2 ρ _ F1 σ H1 _ (m.step s1) p1 fun F2 H2 y b1 s2 r2 p2 => by
    have m2 := (m.step s1).step s2
    have s12 := s1.trans m.gi s2
    split at p2
    · rename_i j
      have r2' : Rp F2 y (.int j) := r2
      cases r2'
      refine hr ρ σ F H F2 H2 x (.int j) a1 (.int j) _ _ m m2 s12 (r1.step m.gi s1 s2) (Rp.int j) p2 fun F3 H3 v c s3 r3 p3 => ?_
      split at p3
      · rename_i b
        have r3' : Rp F3 v (.bool b) := r3
        cases r3'
        refine ⟨b, rfl, ?_⟩
        cases b with
        | true =>
          refine iteT (h3 ρ _ F3 σ H3 _ (m.step s3) (p3.1 rfl) fun F4 H4 z c4 s4 r4 p4 => ?_)
          exact hr' ρ σ F H F4 H4 (.int j) z (.int j) c4 Q K m ((m.step s3).step s4) (s3.trans m.gi s4) (Rp.int j) (r4.back s3) p4 k
        | false => exact iteF (k F3 H3 _ (.bl false) s3 (Rp.bl false) (p3.2 rfl))
      · exact p3.elim
    · exact p2.elim
end
end Yd

/-! YdC: the operations on abstract values, and the rules that pair a piece of syntax with its transformer. -/
namespace Yd
open PySem L2

/-! ### operations -/
def addA (a b : A) (Q : A → Prop) : Prop := match a, b with
  | .d (.int i), .d (.int j) => Q (.int (i + j))
  | .d (.str x), .d (.str y) => x.length + y.length ≤ sizeLine ∧ Q (.str (x ++ y))
  | .d (.tuple xs), .d (.tuple ys) => xs ≠ [] ∧ xs.length + ys.length ≤ sizeLine ∧ Q (.tup (xs ++ ys))
  | a, b => match asL a, asL b with
    | some xs, some ys => xs.length + ys.length ≤ sizeLine ∧ Q (.own (xs ++ ys))
    | _, _ => False
def subA (a b : A) (Q : A → Prop) : Prop := match a, b with
  | .d (.int i), .d (.int j) => Q (.int (i - j))
  | _, _ => False
def mulA (a b : A) (Q : A → Prop) : Prop := match a, b with
  | .d (.int i), .d (.int j) => CMul i j ∧ Q (.int (i * j))
  | a, .d (.int k) => match asL a with
    | some xs => -(2 ^ 63) ≤ k ∧ k < 2 ^ 63 ∧ xs.length * k.toNat ≤ sizeLine ∧ Q (.own (List.replicate k.toNat xs).flatten)
    | none => False
  | _, _ => False
def fdivA (a b : A) (Q : A → Prop) : Prop := match a, b with
  | .d (.int i), .d (.int j) => CDiv i j ∧ Q (.int (i / j))
  | _, _ => False
def modA (a b : A) (Q : A → Prop) : Prop := match a, b with
  | .d (.int i), .d (.int j) => 0 < j ∧ Q (.int (i % j))
  | _, _ => False
def negA (a : A) (Q : A → Prop) : Prop := match a with
  | .d (.int i) => Q (.int (-i))
  | _ => False
def cmpA (p : Int → Int → Bool) (a b : A) (Q : A → Prop) : Prop := match a, b with
  | .d (.int i), .d (.int j) => Q (.bl (p i j))
  | _, _ => False
abbrev ltA := cmpA fun i j => decide (i < j)
abbrev leA := cmpA fun i j => decide (i ≤ j)
abbrev gtA := cmpA fun i j => decide (j < i)
abbrev geA := cmpA fun i j => decide (j ≤ i)
def eqA (a b : A) (Q : A → Prop) : Prop := match a, b with
  | .d (.int i), .d (.int j) => Q (.bl (decide (i = j)))
  | .d (.str i), .d (.str j) => Q (.bl (decide (i = j)))
  | a, b => match rdD a, rdD b with
    | some x, some y => SeqAt.shaped x = true ∧ SeqAt.shaped y = true ∧ Q (.bl (PyData.eqv x y))
    | _, _ => False
def neA (a b : A) (Q : A → Prop) : Prop := match a, b with
  | .d (.int i), .d (.int j) => Q (.bl (!decide (i = j)))
  | .d (.str i), .d (.str j) => Q (.bl (!decide (i = j)))
  | a, b => match rdD a, rdD b with
    | some x, some y => SeqAt.shaped x = true ∧ SeqAt.shaped y = true ∧ Q (.bl (!PyData.eqv x y))
    | _, _ => False
/-- is None: the right side None -/
def isN : A → Option Bool
  | .d .none => some true
  | .d (.bool _) => some false
  | .d (.int _) => some false
  | .d (.str _) => some false
  | .d (.list _) => some false
  | .d (.tuple _) => some false
  | .own _ => some false
  | .bor _ _ => some false
  | .yard _ _ => some false
  | _ => none
def isA (a b : A) (Q : A → Prop) : Prop := match b with
  | .d .none => (match isN a with
    | some k => Q (.bl k)
    | none => False)
  | _ => False
def notA (a b : A) (Q : A → Prop) : Prop := match b with
  | .d .none => (match isN a with
    | some k => Q (.bl (!k))
    | none => False)
  | _ => False
/-- x in xs: a list of data, a tuple of ints -/
def inA (neg : Bool) (a b : A) (Q : A → Prop) : Prop := match b with
  | .d (.tuple ds) => (match a with
    | .d (.int i) => ∃ ns : List Int, ds = ns.map PyData.int ∧ Q (.bl (if neg then !decide (i ∈ ns) else decide (i ∈ ns)))
    | _ => False)
  | b => match rdD a, asL b with
    | some x, some ds => SeqAt.shaped x = true ∧ SeqAt.shaped (.list ds) = true ∧ Q (.bl (if neg then !(ds.any fun z => PyData.eqv z x) else ds.any fun z => PyData.eqv z x))
    | _, _ => False
/-- what is read out of what is known from without -/
def kA : PyData → A
  | .none => .d .none
  | .bool b => .d (.bool b)
  | .int i => .d (.int i)
  | .str x => .d (.str x)
  | x => .k x
/-- a[i] -/
def ixA (a b : A) (Q : A → Prop) : Prop := match b with
  | .d (.int i) => (match a with
    | .d (.tuple xs) => ∃ x, atI xs i = some x ∧ Q (.d x)
    | .k (.tuple xs) => ∃ x, atI xs i = some x ∧ Q (kA x)
    | .k (.list xs) => ∃ x, atI xs i = some x ∧ Q (kA x)
    | a => match asL a with
      | some xs => ∃ x, atI xs i = some x ∧ Q (.d x)
      | none => False)
  | _ => False
def cutD {α : Type} (xs : List α) (lo hi : Option Int) : List α := (xs.drop (HT.sIx xs.length 0 lo)).take (HT.sIx xs.length xs.length hi - HT.sIx xs.length 0 lo)
def slA (a : A) (lo hi : Option Int) (Q : A → Prop) : Prop := match a with
  | .d (.tuple xs) => ¬ (HT.sIx xs.length 0 lo = 0 ∧ HT.sIx xs.length xs.length hi = xs.length) ∧ Q (.tup (cutD xs lo hi))
  | a => match asL a with
    | some xs => Q (.own (cutD xs lo hi))
    | none => False
def lenA (as : List A) (Q : A → Prop) : Prop := match as with
  | [.k (.tuple xs)] => Q (.int xs.length)
  | [.d (.tuple xs)] => Q (.int xs.length)
  | [.d (.str x)] => x.length ≤ sizeLine ∧ Q (.int x.length)
  | [a] => (match asL a with
    | some xs => Q (.int xs.length)
    | none => False)
  | _ => False
def listA (as : List A) (Q : A → Prop) : Prop := match as with
  | [.k (.tuple xs)] => ∃ ns : List Int, xs = ns.map PyData.int ∧ Q (.own xs)
  | [.d (.tuple xs)] => Q (.own xs)
  | [a] => (match asL a with
    | some xs => Q (.own xs)
    | none => False)
  | _ => False
def tupleA (as : List A) (Q : A → Prop) : Prop := match as with
  | [.d (.tuple xs)] => Q (.tup xs)
  | [a] => (match asL a with
    | some xs => Q (.tup xs)
    | none => False)
  | _ => False
def intA (as : List A) (Q : A → Prop) : Prop := match as with
  | [.d (.int i)] => Q (.int i)
  | [.d (.bool b)] => Q (.int (if b then 1 else 0))
  | _ => False
def minA (as : List A) (Q : A → Prop) : Prop := match as with
  | [.d (.int i), .d (.int j)] => Q (.int (if j < i then j else i))
  | _ => False
def maxA (as : List A) (Q : A → Prop) : Prop := match as with
  | [.d (.int i), .d (.int j)] => Q (.int (if j > i then j else i))
  | _ => False
def intsD (t : List Int) : PyData := .tuple (t.map PyData.int)
/-- sorted of a list of ints -/
def sortA (as : List A) (Q : A → Prop) : Prop := match as with
  | [a] => (match asL a with
    | some xs => ∃ ns : List Int, xs = ns.map PyData.int ∧ ns.length < 64 ∧ ∀ ms : List Int, ms.Perm ns → ms.Pairwise (· ≤ ·) → Q (.own (ms.map PyData.int))
    | none => False)
  | _ => False
/-- sorted of a list of tuples of d ints -/
def sortTA (d : Nat) (B : Int) (as : List A) (Q : A → Prop) : Prop := match as with
  | [a] => (match asL a with
    | some xs => ∃ ts : List (List Int), xs = ts.map intsD ∧ ts.length < 64 ∧ (∀ t ∈ ts, t.length = d ∧ TS.Bd B t) ∧ ∀ us : List (List Int), us.Perm ts → us.Pairwise (fun x y => TS.code B x ≤ TS.code B y) → Q (.own (us.map intsD))
    | none => False)
  | _ => False
/-- isinstance(x, T), T a built-in class -/
def tyD : A → Option String
  | .d .none => some "NoneType"
  | .d (.bool _) => some "bool"
  | .d (.int _) => some "int"
  | .d (.str _) => some "str"
  | .d (.list _) => some "list"
  | .own _ => some "list"
  | .bor _ _ => some "list"
  | .d (.tuple _) => some "tuple"
  | _ => none

section
variable {Γ : Gm} {K : PySem.W.Frag} {X : Cx}
theorem stp0 {ρ : List A} {σ : St} {F H : Hp} (m : M Γ F ρ σ H) : Stp Γ.G F H F H := m.stp
theorem snd_add : SndR Γ (fun x y H Q => rI0 (fun i j => .int (i + j)) x y H Q ∨ (∃ i j, x = .str i ∧ y = .str j ∧ i.length + j.length ≤ sizeLine ∧ Q (.str (i ++ j)) H) ∨ rCatT K x y H Q ∨ rCat x y H Q) addA := by
  intro ρ σ F H F1 H1 x y a b Q K0 m m1 s ra rb h k
  unfold addA at h
  split at h
  · cases (show Rp F1 x (.int _) from ra)
    cases (show Rp F1 y (.int _) from rb)
    exact .inl ⟨_, _, rfl, rfl, k F1 H1 _ (.int _) s (Rp.int _) h⟩
  · cases (show Rp F1 x (.str _) from ra)
    cases (show Rp F1 y (.str _) from rb)
    exact .inr (.inl ⟨_, _, rfl, rfl, h.1, k F1 H1 _ (.str _) s (Rp.str _) h.2⟩)
  · rename_i xs ys
    obtain ⟨p, vs, rfl, f1, h1, l1⟩ := ra.tupl m1
    obtain ⟨q, ws, rfl, f2, h2, l2⟩ := rb.tupl m1
    obtain ⟨n, z, h⟩ := h
    refine .inr (.inr (.inl ⟨p, q, vs, ws, rfl, rfl, SqT.of h1, SqT.of h2, fun e => n (by subst e; cases l1; rfl), by rw [l1.length, l2.length]; exact z, fun e => ?_, fun e t ht => ?_⟩))
    · subst e
      cases l2
      rw [List.append_nil] at h
      exact k F1 H1 _ (.tup xs) s (Rp.tup f1 l1) h
    · have s2 := Stp.new1 (o := .tup (vs ++ ws)) m1.fh m1.gi m1.st.box ht
      exact k _ _ _ (.tup (xs ++ ys)) (s.trans m.gi s2) (Rp.tup upd_same ((l1.append l2).up s2.ff)) h
  · split at h
    · rename_i xs ys e1 e2
      obtain ⟨p, vs, rfl, h1, l1⟩ := ra.list m1 e1
      obtain ⟨q, ws, rfl, h2, l2⟩ := rb.list m1 e2
      refine .inr (.inr (.inr ⟨p, q, vs, ws, rfl, rfl, h1, h2, by rw [l1.length, l2.length]; exact h.1, fun t ht => ?_⟩))
      have s2 := Stp.new0 (o := .lst (vs ++ ws)) m1.fh m1.gi m1.st.box ht
      exact k _ _ _ (.own (xs ++ ys)) (s.trans m.gi s2) ⟨t, _, rfl, s.none_back ht, m1.fh.free ht, upd_same, (l1.append l2)⟩ h.2
    · exact h.elim
theorem snd_sub : SndR Γ (rI0 fun i j => .int (i - j)) subA := by
  intro ρ σ F H F1 H1 x y a b Q K0 m m1 s ra rb h k
  unfold subA at h
  split at h
  · cases (show Rp F1 x (.int _) from ra)
    cases (show Rp F1 y (.int _) from rb)
    exact ⟨_, _, rfl, rfl, k F1 H1 _ (.int _) s (Rp.int _) h⟩
  · exact h.elim
theorem snd_mul : SndR Γ (fun x y H Q => rI CMul (fun i j => .int (i * j)) x y H Q ∨ rRep x y H Q) mulA := by
  intro ρ σ F H F1 H1 x y a b Q K0 m m1 s ra rb h k
  unfold mulA at h
  split at h
  · cases (show Rp F1 x (.int _) from ra)
    cases (show Rp F1 y (.int _) from rb)
    exact .inl ⟨_, _, rfl, rfl, h.1, k F1 H1 _ (.int _) s (Rp.int _) h.2⟩
  · rename_i kk hneg
    split at h
    · rename_i xs e1
      cases (show Rp F1 y (.int _) from rb)
      obtain ⟨p, vs, rfl, h1, l1⟩ := ra.list m1 e1
      obtain ⟨z1, z2, z3, h⟩ := h
      refine .inr ⟨p, _, vs, rfl, rfl, h1, z1, z2, by rw [l1.length]; exact z3, fun t ht => ?_⟩
      have s2 := Stp.new0 (o := .lst (List.replicate kk.toNat vs).flatten) m1.fh m1.gi m1.st.box ht
      exact k _ _ _ (.own _) (s.trans m.gi s2) ⟨t, _, rfl, s.none_back ht, m1.fh.free ht, upd_same, l1.rep _⟩ h
    · exact h.elim
  · exact h.elim
theorem snd_fdiv : SndR Γ (rI CDiv fun i j => .int (i / j)) fdivA := by
  intro ρ σ F H F1 H1 x y a b Q K0 m m1 s ra rb h k
  unfold fdivA at h
  split at h
  · cases (show Rp F1 x (.int _) from ra)
    cases (show Rp F1 y (.int _) from rb)
    exact ⟨_, _, rfl, rfl, h.1, k F1 H1 _ (.int _) s (Rp.int _) h.2⟩
  · exact h.elim
theorem snd_mod : SndR Γ (rI (fun _ j => 0 < j) fun i j => .int (i % j)) modA := by
  intro ρ σ F H F1 H1 x y a b Q K0 m m1 s ra rb h k
  unfold modA at h
  split at h
  · cases (show Rp F1 x (.int _) from ra)
    cases (show Rp F1 y (.int _) from rb)
    exact ⟨_, _, rfl, rfl, h.1, k F1 H1 _ (.int _) s (Rp.int _) h.2⟩
  · exact h.elim
theorem snd_neg : SndU Γ (rU fun i => .int (-i)) negA := by
  intro ρ σ F H F1 H1 x a Q K0 m m1 s ra h k
  unfold negA at h
  split at h
  · cases (show Rp F1 x (.int _) from ra)
    exact ⟨_, rfl, k F1 H1 _ (.int _) s (Rp.int _) h⟩
  · exact h.elim
theorem snd_cmp {p : Int → Int → Bool} : SndR Γ (rI0 fun i j => .bl (p i j)) (cmpA p) := by
  intro ρ σ F H F1 H1 x y a b Q K0 m m1 s ra rb h k
  unfold cmpA at h
  split at h
  · cases (show Rp F1 x (.int _) from ra)
    cases (show Rp F1 y (.int _) from rb)
    exact ⟨_, _, rfl, rfl, k F1 H1 _ (.bl _) s (Rp.bl _) h⟩
  · exact h.elim
theorem snd_eq : SndR Γ (fun x y H Q => rEqD K x y H Q ∨ rEq x y H Q) eqA := by
  intro ρ σ F H F1 H1 x y a b Q K0 m m1 s ra rb h k
  unfold eqA at h
  split at h
  · rename_i i j
    cases (show Rp F1 x (.int _) from ra)
    cases (show Rp F1 y (.int _) from rb)
    refine .inr ⟨rfl, ?_⟩
    have e : decide (V.int i = V.int j) = decide (i = j) := by simp
    rw [e]
    exact k F1 H1 _ (.bl _) s (Rp.bl _) h
  · rename_i i j
    cases (show Rp F1 x (.str _) from ra)
    cases (show Rp F1 y (.str _) from rb)
    refine .inr ⟨rfl, ?_⟩
    have e : decide (V.str i = V.str j) = decide (i = j) := by simp
    rw [e]
    exact k F1 H1 _ (.bl _) s (Rp.bl _) h
  · split at h
    · rename_i e1 e2
      exact .inl ⟨_, _, ra.dp m1 e1, rb.dp m1 e2, h.1, h.2.1, k F1 H1 _ (.bl _) s (Rp.bl _) h.2.2⟩
    · exact h.elim
theorem snd_ne : SndR Γ (fun x y H Q => rNeD K x y H Q ∨ rNe x y H Q) neA := by
  intro ρ σ F H F1 H1 x y a b Q K0 m m1 s ra rb h k
  unfold neA at h
  split at h
  · rename_i i j
    cases (show Rp F1 x (.int _) from ra)
    cases (show Rp F1 y (.int _) from rb)
    refine .inr ⟨rfl, ?_⟩
    have e : decide (V.int i = V.int j) = decide (i = j) := by simp
    rw [e]
    exact k F1 H1 _ (.bl _) s (Rp.bl _) h
  · rename_i i j
    cases (show Rp F1 x (.str _) from ra)
    cases (show Rp F1 y (.str _) from rb)
    refine .inr ⟨rfl, ?_⟩
    have e : decide (V.str i = V.str j) = decide (i = j) := by simp
    rw [e]
    exact k F1 H1 _ (.bl _) s (Rp.bl _) h
  · split at h
    · rename_i e1 e2
      exact .inl ⟨_, _, ra.dp m1 e1, rb.dp m1 e2, h.1, h.2.1, k F1 H1 _ (.bl _) s (Rp.bl _) h.2.2⟩
    · exact h.elim
theorem Res.isN {ρ : List A} {σ : St} {F H F1 H1 : Hp} {x : V} {a : A} {k : Bool} (m1 : M Γ F1 ρ σ H1) (ra : Res Γ ρ σ F H F1 H1 x a) (e : isN a = some k) : decide (x = .non) = k := by
  have nl : ∀ {ys : List PyData}, asL a = some ys → decide (x = .non) = false := fun {ys} q => by
    obtain ⟨p, vs, rfl, _, _⟩ := ra.list m1 q
    rfl
  cases a with
  | d y =>
    cases y with
    | none => cases e; cases (show Rp F1 x .none from ra); rfl
    | bool _ => cases e; cases (show Rp F1 x (.bool _) from ra); rfl
    | int _ => cases e; cases (show Rp F1 x (.int _) from ra); rfl
    | str _ => cases e; cases (show Rp F1 x (.str _) from ra); rfl
    | list _ => cases e; exact nl rfl
    | tuple _ => cases e; obtain ⟨p, vs, rfl, _⟩ := ra.tupl m1; rfl
    | dict _ => cases e
  | own _ => cases e; exact nl rfl
  | bor _ _ => cases e; exact nl rfl
  | yard _ _ =>
    cases e
    obtain ⟨a, _, _, _, rfl, _⟩ := (show YardAt Γ.G Γ.C F1 x _ _ from ra)
    rfl
  | _ => cases e
theorem snd_is : SndR Γ (fun x y H Q => y = .non ∧ Q (.bl (decide (x = .non))) H) isA := by
  intro ρ σ F H F1 H1 x y a b Q K0 m m1 s ra rb h k
  unfold isA at h
  split at h
  · split at h
    · rename_i kk e
      cases (show Rp F1 y .none from rb)
      refine ⟨rfl, ?_⟩
      rw [Res.isN m1 ra e]
      exact k F1 H1 _ (.bl _) s (Rp.bl _) h
    · exact h.elim
  · exact h.elim
theorem snd_not : SndR Γ (fun x y H Q => y = .non ∧ Q (.bl (!decide (x = .non))) H) notA := by
  intro ρ σ F H F1 H1 x y a b Q K0 m m1 s ra rb h k
  unfold notA at h
  split at h
  · split at h
    · rename_i kk e
      cases (show Rp F1 y .none from rb)
      refine ⟨rfl, ?_⟩
      rw [Res.isN m1 ra e]
      exact k F1 H1 _ (.bl _) s (Rp.bl _) h
    · exact h.elim
  · exact h.elim
theorem inV_ints (i : Int) : ∀ ns : List Int, inV (.int i) (ns.map V.int) = decide (i ∈ ns)
  | [] => by simp [inV]
  | n :: ns => by
    have ih := inV_ints i ns
    unfold inV at ih ⊢
    rw [List.map_cons, List.any_cons, ih]
    have e : eqV (.int n) (.int i) = decide (i = n) := by
      simp only [eqV]
      by_cases q : n = i
      · subst q; simp
      · have q' : ¬ i = n := fun z => q z.symm
        simp [q, q']
    rw [e]
    by_cases q : i = n
    · subst q; simp
    · simp [q]
theorem flat_ints (ns : List Int) : (ns.map V.int).all flatV = true := by
  rw [List.all_eq_true]
  intro v hv
  obtain ⟨n, _, rfl⟩ := List.mem_map.mp hv
  rfl
theorem snd_in : SndR Γ (fun x y H Q => rInD K x y H Q ∨ rIn K false x y H Q) (inA false) := by
  intro ρ σ F H F1 H1 x y a b Q K0 m m1 s ra rb h k
  unfold inA at h
  split at h
  · rename_i ds
    split at h
    · rename_i i
      obtain ⟨ns, rfl, h⟩ := h
      cases (show Rp F1 x (.int _) from ra)
      obtain ⟨q, ws, rfl, f2, h2, l2⟩ := rb.tupl m1
      have e := l2.of_ints
      subst e
      refine .inr ⟨q, _, rfl, .inr (SqT.of h2), rfl, flat_ints ns, ?_⟩
      rw [inV_ints]
      exact k F1 H1 _ (.bl _) s (Rp.bl _) h
    · exact h.elim
  · split at h
    · rename_i x' ds e1 e2
      have hb : rdD b = some (.list ds) := by
        cases b with
        | own _ => cases e2; rfl
        | bor _ _ => cases e2; rfl
        | d z => cases z with
          | list _ => cases e2; rfl
          | _ => cases e2
        | _ => cases e2
      exact .inl ⟨_, _, ra.dp m1 e1, rb.dp m1 hb, h.1, h.2.1, k F1 H1 _ (.bl _) s (Rp.bl _) h.2.2⟩
    · exact h.elim
theorem snd_nin : SndR Γ (fun x y H Q => rNotInD K x y H Q ∨ rIn K true x y H Q) (inA true) := by
  intro ρ σ F H F1 H1 x y a b Q K0 m m1 s ra rb h k
  unfold inA at h
  split at h
  · rename_i ds
    split at h
    · rename_i i
      obtain ⟨ns, rfl, h⟩ := h
      cases (show Rp F1 x (.int _) from ra)
      obtain ⟨q, ws, rfl, f2, h2, l2⟩ := rb.tupl m1
      have e := l2.of_ints
      subst e
      refine .inr ⟨q, _, rfl, .inr (SqT.of h2), rfl, flat_ints ns, ?_⟩
      rw [inV_ints]
      exact k F1 H1 _ (.bl _) s (Rp.bl _) h
    · exact h.elim
  · split at h
    · rename_i x' ds e1 e2
      have hb : rdD b = some (.list ds) := by
        cases b with
        | own _ => cases e2; rfl
        | bor _ _ => cases e2; rfl
        | d z => cases z with
          | list _ => cases e2; rfl
          | _ => cases e2
        | _ => cases e2
      exact .inl ⟨_, _, ra.dp m1 e1, rb.dp m1 hb, h.1, h.2.1, k F1 H1 _ (.bl _) s (Rp.bl _) h.2.2⟩
    · exact h.elim
theorem RpL.at {F : Hp} {vs : List V} {ds : List PyData} (l : RpL F vs ds) {i : Int} {x : PyData} (e : atI ds i = some x) : ∃ v, atI vs i = some v ∧ Rp F v x := by
  unfold atI at e ⊢
  rw [l.length]
  cases q : ixN ds.length i with
  | none => rw [q] at e; cases e
  | some j =>
    rw [q] at e
    obtain ⟨v, e1, e2⟩ := l.get (i := j) (d := x) e
    exact ⟨v, e1, e2⟩
theorem res_kA {Γ : Gm} {ρ : List A} {σ : St} {F H F1 H1 : Hp} {v : V} {x : PyData} (h : Rp (kn Γ.G F1) v x) : Res Γ ρ σ F H F1 H1 v (kA x) := by
  cases x with
  | none => cases h; exact Rp.non
  | bool b => cases h; exact Rp.bl b
  | int i => cases h; exact Rp.int i
  | str s => cases h; exact Rp.str s
  | list xs => exact h
  | tuple xs => exact h
  | dict xs => exact h
theorem snd_ix : SndR Γ (rIx K) ixA := by
  intro ρ σ F H F1 H1 x y a b Q K0 m m1 s ra rb h k
  unfold ixA at h
  split at h
  · rename_i i
    cases (show Rp F1 y (.int _) from rb)
    split at h
    · rename_i xs
      obtain ⟨z, e, h⟩ := h
      obtain ⟨p, vs, rfl, f1, h1, l1⟩ := ra.tupl m1
      obtain ⟨v, e1, r1⟩ := l1.at e
      exact .inr (.inl ⟨p, vs, i, v, rfl, rfl, SqT.of h1, e1, k F1 H1 v (.d z) s r1 h⟩)
    · rename_i xs
      obtain ⟨z, e, h⟩ := h
      cases (show Rp (kn Γ.G F1) x (.tuple xs) from ra) with
      | @tup p vs _ f1 l1 =>
      have h1 := kn.same m1.fh m1.gi _ _ f1
      obtain ⟨v, e1, r1⟩ := l1.at e
      exact .inr (.inl ⟨p, vs, i, v, rfl, rfl, SqT.of h1, e1, k F1 H1 v (kA z) s (res_kA r1) h⟩)
    · rename_i xs
      obtain ⟨z, e, h⟩ := h
      cases (show Rp (kn Γ.G F1) x (.list xs) from ra) with
      | @lst p vs _ f1 l1 =>
      have h1 := kn.same m1.fh m1.gi _ _ f1
      obtain ⟨v, e1, r1⟩ := l1.at e
      exact .inl ⟨p, vs, i, v, rfl, rfl, SqL.of h1, e1, k F1 H1 v (kA z) s (res_kA r1) h⟩
    · split at h
      · rename_i xs e2
        obtain ⟨z, e, h⟩ := h
        obtain ⟨p, vs, rfl, h1, l1⟩ := ra.list m1 e2
        obtain ⟨v, e1, r1⟩ := l1.at e
        exact .inl ⟨p, vs, i, v, rfl, rfl, SqL.of h1, e1, k F1 H1 v (.d z) s r1 h⟩
      · exact h.elim
  · exact h.elim
theorem snd_len : SndC Γ (fun xs H Q => ∃ x n, xs = [x] ∧ LenV K x H n ∧ Q (.int n) H) lenA := by
  intro ρ σ F H F1 H1 xs as Q K0 m m1 s ra h k
  unfold lenA at h
  split at h
  · rename_i xs
    cases ra with
    | cons r1 t => cases t with
      | nil =>
        rename_i v
        cases (show Rp (kn Γ.G F1) v (.tuple xs) from r1) with
        | @tup p vs _ f1 l1 =>
        exact ⟨_, vs.length, rfl, .inr ⟨vs, SqT.of (kn.same m1.fh m1.gi _ _ f1), rfl⟩, k F1 H1 _ (.int _) s (by rw [l1.length]; exact Rp.int _) h⟩
  · cases ra with
    | cons r1 t => cases t with
      | nil =>
        obtain ⟨p, vs, rfl, f1, h1, l1⟩ := r1.tupl m1
        exact ⟨_, vs.length, rfl, .inr ⟨vs, SqT.of h1, rfl⟩, k F1 H1 _ (.int _) s (by rw [l1.length]; exact Rp.int _) h⟩
  · cases ra with
    | cons r1 t => cases t with
      | nil =>
        cases (show Rp F1 _ (.str _) from r1)
        exact ⟨_, _, rfl, ⟨h.1, rfl⟩, k F1 H1 _ (.int _) s (Rp.int _) h.2⟩
  · split at h
    · rename_i e
      cases ra with
      | cons r1 t => cases t with
        | nil =>
          obtain ⟨p, vs, rfl, h1, l1⟩ := r1.list m1 e
          exact ⟨_, vs.length, rfl, .inl ⟨vs, SqL.of h1, rfl⟩, k F1 H1 _ (.int _) s (by rw [l1.length]; exact Rp.int _) h⟩
    · exact h.elim
  · exact h.elim
theorem snd_list : SndC Γ (fun xs H Q => ∃ p ys, xs = [.ref p] ∧ (SqL K H p ys ∨ SqT K H p ys) ∧ ∀ l, H l = none → Q (.ref l) (upd H l (.lst ys))) listA := by
  intro ρ σ F H F1 H1 xs as Q K0 m m1 s ra h k
  unfold listA at h
  split at h
  · rename_i xs
    obtain ⟨ns, rfl, h⟩ := h
    cases ra with
    | cons r1 t => cases t with
      | nil =>
        rename_i v
        cases (show Rp (kn Γ.G F1) v (.tuple (ns.map PyData.int)) from r1) with
        | @tup p vs _ f1 l1 =>
        have e1 := l1.of_ints
        subst e1
        refine ⟨p, _, rfl, .inr (SqT.of (kn.same m1.fh m1.gi _ _ f1)), fun t ht => ?_⟩
        have s2 := Stp.new0 (o := .lst (ns.map V.int)) m1.fh m1.gi m1.st.box ht
        exact k _ _ _ (.own _) (s.trans m.gi s2) ⟨t, _, rfl, s.none_back ht, m1.fh.free ht, upd_same, RpL.ints ns⟩ h
  · cases ra with
    | cons r1 t => cases t with
      | nil =>
        obtain ⟨p, vs, rfl, f1, h1, l1⟩ := r1.tupl m1
        refine ⟨p, vs, rfl, .inr (SqT.of h1), fun t ht => ?_⟩
        have s2 := Stp.new0 (o := .lst vs) m1.fh m1.gi m1.st.box ht
        exact k _ _ _ (.own _) (s.trans m.gi s2) ⟨t, _, rfl, s.none_back ht, m1.fh.free ht, upd_same, l1⟩ h
  · split at h
    · rename_i e
      cases ra with
      | cons r1 t => cases t with
        | nil =>
          obtain ⟨p, vs, rfl, h1, l1⟩ := r1.list m1 e
          refine ⟨p, vs, rfl, .inl (SqL.of h1), fun t ht => ?_⟩
          have s2 := Stp.new0 (o := .lst vs) m1.fh m1.gi m1.st.box ht
          exact k _ _ _ (.own _) (s.trans m.gi s2) ⟨t, _, rfl, s.none_back ht, m1.fh.free ht, upd_same, l1⟩ h
    · exact h.elim
  · exact h.elim
theorem snd_tuple : SndC Γ (fun xs H Q => ∃ p ys, xs = [.ref p] ∧ ((SqL K H p ys ∧ ∀ l, H l = none → Q (.ref l) (upd H l (.tup ys))) ∨ (SqT K H p ys ∧ Q (.ref p) H))) tupleA := by
  intro ρ σ F H F1 H1 xs as Q K0 m m1 s ra h k
  unfold tupleA at h
  split at h
  · cases ra with
    | cons r1 t => cases t with
      | nil =>
        obtain ⟨p, vs, rfl, f1, h1, l1⟩ := r1.tupl m1
        exact ⟨p, vs, rfl, .inr ⟨SqT.of h1, k F1 H1 _ (.tup _) s (Rp.tup f1 l1) h⟩⟩
  · split at h
    · rename_i e
      cases ra with
      | cons r1 t => cases t with
        | nil =>
          obtain ⟨p, vs, rfl, h1, l1⟩ := r1.list m1 e
          refine ⟨p, vs, rfl, .inl ⟨SqL.of h1, fun t ht => ?_⟩⟩
          have s2 := Stp.new1 (o := .tup vs) m1.fh m1.gi m1.st.box ht
          exact k _ _ _ (.tup _) (s.trans m.gi s2) (Rp.tup upd_same (l1.up s2.ff)) h
    · exact h.elim
  · exact h.elim
theorem snd_int : SndC Γ (fun xs H Q => (∃ i, xs = [.int i] ∧ Q (.int i) H) ∨ ∃ k, xs = [.bl k] ∧ Q (.int (if k then 1 else 0)) H) intA := by
  intro ρ σ F H F1 H1 xs as Q K0 m m1 s ra h k
  unfold intA at h
  split at h
  · cases ra with
    | cons r1 t => cases t with
      | nil =>
        cases (show Rp F1 _ (.int _) from r1)
        exact .inl ⟨_, rfl, k F1 H1 _ (.int _) s (Rp.int _) h⟩
  · cases ra with
    | cons r1 t => cases t with
      | nil =>
        cases (show Rp F1 _ (.bool _) from r1)
        exact .inr ⟨_, rfl, k F1 H1 _ (.int _) s (Rp.int _) h⟩
  · exact h.elim
theorem snd_min : SndC Γ (fun xs H Q => ∃ i j, xs = [.int i, .int j] ∧ Q (.int (if j < i then j else i)) H) minA := by
  intro ρ σ F H F1 H1 xs as Q K0 m m1 s ra h k
  unfold minA at h
  split at h
  · cases ra with
    | cons r1 t => cases t with
      | cons r2 t => cases t with
        | nil =>
          cases (show Rp F1 _ (.int _) from r1)
          cases (show Rp F1 _ (.int _) from r2)
          exact ⟨_, _, rfl, k F1 H1 _ (.int _) s (Rp.int _) h⟩
  · exact h.elim
theorem snd_max : SndC Γ (fun xs H Q => ∃ i j, xs = [.int i, .int j] ∧ Q (.int (if j > i then j else i)) H) maxA := by
  intro ρ σ F H F1 H1 xs as Q K0 m m1 s ra h k
  unfold maxA at h
  split at h
  · cases ra with
    | cons r1 t => cases t with
      | cons r2 t => cases t with
        | nil =>
          cases (show Rp F1 _ (.int _) from r1)
          cases (show Rp F1 _ (.int _) from r2)
          exact ⟨_, _, rfl, k F1 H1 _ (.int _) s (Rp.int _) h⟩
  · exact h.elim
theorem snd_sort : SndC Γ (rSorted K) sortA := by
  intro ρ σ F H F1 H1 xs as Q K0 m m1 s ra h k
  unfold sortA at h
  split at h
  · split at h
    · rename_i e
      obtain ⟨ns, rfl, h64, h⟩ := h
      cases ra with
      | cons r1 t => cases t with
        | nil =>
          obtain ⟨p, vs, rfl, h1, l1⟩ := r1.list m1 e
          have e1 := l1.of_ints
          subst e1
          refine ⟨p, ns, rfl, SqL.of h1, h64, fun ms t hp hw ht => ?_⟩
          have s2 := Stp.new0 (o := .lst (ms.map V.int)) m1.fh m1.gi m1.st.box ht
          exact k _ _ _ (.own _) (s.trans m.gi s2) ⟨t, _, rfl, s.none_back ht, m1.fh.free ht, upd_same, RpL.ints ms⟩ (h ms hp hw)
    · exact h.elim
  · exact h.elim
end
end Yd

/-! YdD: statements, loops, comprehensions, calls over abstract values. -/
namespace Yd
open PySem L2

/-! ### statements -/
structure Po where
  nx : List A → Prop
  rt : A → Prop
  bk : List A → Prop := fun _ => False
  ct : List A → Prop := fun _ => False
abbrev WS := List A → Po → Prop
/-- what is handed back -/
def RetR (G : Gh) (C : Addr) (H0 F H : Hp) (v : V) : A → Prop
  | .d x => Rp F v x
  | .own xs => ∃ p vs, v = .ref p ∧ H0 p = none ∧ F p = none ∧ H p = some (.lst vs) ∧ RpL F vs xs
  | .yard m k => YardAt G C F v m k
  | .box => ∃ b l, G.b = some (b, l) ∧ v = .ref b
  | .raw u => v = u
  | .k x => Rp (kn G F) v x
  | _ => False
structure EndsOk (Γ : Gm) (F : Hp) (P : Po) (D : Ends) : Prop where
  nx : ∀ F' σ' H' ρ', Same F F' → M Γ F' ρ' σ' H' → P.nx ρ' → D.nx σ' H'
  rt : ∀ F' H' v r, Same F F' → Stp Γ.G Γ.F Γ.H F' H' → RetR Γ.G Γ.C Γ.H F' H' v r → P.rt r → D.rt v H'
  bk : ∀ F' σ' H' ρ', Same F F' → M Γ F' ρ' σ' H' → P.bk ρ' → D.bk σ' H'
  ct : ∀ F' σ' H' ρ', Same F F' → M Γ F' ρ' σ' H' → P.ct ρ' → D.ct σ' H'
theorem EndsOk.up {Γ : Gm} {F F1 : Hp} {P : Po} {D : Ends} (h : EndsOk Γ F P D) (e : Same F F1) : EndsOk Γ F1 P D :=
  ⟨fun F' σ' H' ρ' s => h.nx F' σ' H' ρ' (e.trans s), fun F' H' v r s => h.rt F' H' v r (e.trans s), fun F' σ' H' ρ' s => h.bk F' σ' H' ρ' (e.trans s), fun F' σ' H' ρ' s => h.ct F' σ' H' ρ' (e.trans s)⟩
def SndS (Γ : Gm) (t : TS) (w : WS) : Prop := ∀ (ρ : List A) (P : Po) (F : Hp) (σ : St) (H : Hp) (D : Ends), M Γ F ρ σ H → w ρ P → EndsOk Γ F P D → t D σ H
structure PDS (X : Cx) (Γ : Gm) (st : Stmt) (t : TS) (w : WS) : Prop where
  ps : PS X st t
  sd : SndS Γ t w
structure PDSs (X : Cx) (Γ : Gm) (st : List Stmt) (t : TS) (w : WS) : Prop where
  ps : PSs X st t
  sd : SndS Γ t w

def wNext : WS := fun ρ P => P.nx ρ
def wSeq (a b : WS) : WS := fun ρ P => a ρ { P with nx := fun ρ' => b ρ' P }
def wBreak : WS := fun ρ P => P.bk ρ
def wCont : WS := fun ρ P => P.ct ρ
def wDrop (e : WE) : WS := fun ρ P => e ρ fun _ => P.nx ρ
def unb : A → A
  | .bor _ xs => .own xs
  | a => a
def wRet (e : WE) : WS := fun ρ P => e ρ fun r => match r with
  | .un => False
  | .fr _ => False
  | .dct _ _ => False
  | r => P.rt (unb r)
def wRetN : WS := fun _ P => P.rt .non
def wIf (t : WT) (a b : WS) : WS := fun ρ P => t ρ fun c => (c = true → a ρ P) ∧ (c = false → b ρ P)
def wNever : WS := fun _ _ => False
def wSet (i : Nat) (e : WE) : WS := fun ρ P => e ρ fun r => match r with
  | .bor _ _ => False
  | r => P.nx (ρ.set i r)
/-- freeze slot i ahead of a statement -/
def unfrA : A → A
  | .fr _ => .un
  | .dct _ _ => .un
  | a => a
def unfr (ρ : List A) : List A := ρ.map unfrA
def wFz (i : Nat) (w : WS) : WS := fun ρ P => match ρ[i]? with
  | some (.fr x) => w ((unfr ρ).set i (.d x)) P
  | some (.own xs) => w (ρ.set i (.d (.list xs))) P
  | _ => w ρ P
def wApp (i : Nat) (e : WE) : WS := fun ρ P => match ρ[i]? with
  | some (.own xs) => e ρ fun r => match toD r with
    | some d => xs.length < sizeLine ∧ P.nx (ρ.set i (.own (xs ++ [d])))
    | none => False
  | _ => False
/-- x[k] = v -/
def wPut (i : Nat) (k v : WE) : WS := fun ρ P => match ρ[i]? with
  | some (.own xs) => v ρ fun r => match toD r with
    | some d => k ρ fun q => match q with
      | .d (.int n) => ∃ j, ixN xs.length n = some j ∧ P.nx (ρ.set i (.own (xs.set j d)))
      | _ => False
    | none => False
  | _ => False
def wClear (i : Nat) : WS := fun ρ P => match ρ[i]? with
  | some (.own _) => P.nx (ρ.set i (.own []))
  | _ => False
/-- y = x.pop() -/
def wPopSet (y i : Nat) : WS := fun ρ P => match ρ[i]? with
  | some (.own xs) => ∃ d, xs[xs.length - 1]? = some d ∧ P.nx ((ρ.set i (.own xs.dropLast)).set y (.d d))
  | _ => False
/-- x.append(y.pop(e)) -/
def wAppPop (i j : Nat) (e : WE) : WS := fun ρ P => match ρ[i]?, ρ[j]? with
  | some (.own xs), some (.own ys) => i ≠ j ∧ xs.length < sizeLine ∧ ys.length ≤ sizeLine ∧ e ρ fun r => match r with
    | .d (.int k) => 0 ≤ k ∧ k < ys.length ∧ ∀ d, ys[k.toNat]? = some d → P.nx ((ρ.set j (.own (ys.eraseIdx k.toNat))).set i (.own (xs ++ [d])))
    | _ => False
  | _, _ => False
def wExt (i : Nat) (e : WE) : WS := fun ρ P => match ρ[i]? with
  | some (.own xs) => e ρ fun r => match r with
    | .own ys => xs.length + ys.length ≤ sizeLine ∧ P.nx (ρ.set i (.own (xs ++ ys)))
    | _ => False
  | _ => False

section
variable {Γ : Gm} {ρ : List A} {σ : St} {F H F1 H1 F2 H2 : Hp} {v : V} {r : A}
theorem M.slot (m : M Γ F ρ σ H) {i : Nat} {a : A} (e : ρ[i]? = some a) : ∃ o, σ[i]? = some o ∧ Sl Γ F H o a := by
  have hl : i < σ.length := by rw [m.len]; exact (List.getElem?_eq_some_iff.mp e).1
  exact ⟨σ[i], List.getElem?_eq_getElem hl, m.sl i a _ e (List.getElem?_eq_getElem hl)⟩
/-- a slot is stored -/
theorem M.set (m : M Γ F ρ σ H) (s : Stp Γ.G F H F1 H1) (q : Res Γ ρ σ F H F1 H1 v r) (nb : ∀ j xs, r ≠ .bor j xs) (i : Nat) : M Γ F1 (ρ.set i r) (σ.set i (some v)) H1 := by
  have m1 := m.step s
  refine ⟨m1.st, m1.gi0, by simp [m1.len], fun j a o h1 h2 => ?_, fun j k p h1 h2 => ?_, fun j x h1 => ?_⟩
  rotate_left 2
  · by_cases hj : i = j
    · subst hj
      obtain ⟨z1, e1⟩ := List.getElem?_eq_some_iff.mp h1
      rw [List.getElem_set_self] at e1
      subst e1
      obtain ⟨Fs, r2, ss, n⟩ := q
      refine ⟨v, Fs, List.getElem?_set_self (by rw [m1.len]; simpa using z1), r2, ss, fun a qa => ?_⟩
      obtain ⟨n1, n2⟩ := n a qa
      refine ⟨n1, m.st.none_back n2, fun z => m.gi.box z n2, fun k hk => ?_⟩
      obtain ⟨⟨xs, g1⟩, g2⟩ := hk
      by_cases hik : i = k
      · subst hik
        rw [List.getElem?_set_self (by simpa using z1)] at g1
        cases g1
      · rw [List.getElem?_set_ne hik] at g1 g2
        obtain ⟨p, vs, e, h3, _⟩ := m.sl k _ _ g1 g2
        cases e
        rw [n2] at h3; cases h3
    · rw [List.getElem?_set_ne hj] at h1
      obtain ⟨v2, Fs, e, r2, ss, n⟩ := m.fr j x h1
      obtain ⟨v3, Fs3, e3, r3, ss3, n3⟩ := m1.fr j x h1
      rw [e] at e3; cases e3
      refine ⟨v2, Fs, by rw [List.getElem?_set_ne hj]; exact e, r2, fun a o qa => s.keep a o (ss a o qa) (n a (by rw [qa]; simp)).2.2.1, fun a qa => ?_⟩
      obtain ⟨n1, n2, n3, n4⟩ := n a qa
      have ha : ∃ o, H a = some o := by
        cases e2 : Fs a with
        | none => exact absurd e2 qa
        | some u => exact ⟨u, ss a u e2⟩
      obtain ⟨o, ha⟩ := ha
      refine ⟨?_, n2, n3, fun k hk => ?_⟩
      · cases e1 : F1 a with
        | none => rfl
        | some o2 =>
          rcases s.new a (by rw [e1]; simp) with z | z
          · exact absurd n1 z
          · rw [ha] at z; cases z
      · obtain ⟨⟨xs, g1⟩, g2⟩ := hk
        by_cases hik : i = k
        · subst hik
          obtain ⟨z1, e1⟩ := List.getElem?_eq_some_iff.mp g1
          obtain ⟨z2, e2⟩ := List.getElem?_eq_some_iff.mp g2
          rw [List.getElem_set_self] at e1 e2
          subst e1
          obtain ⟨p', vs, rfl, h3, _⟩ := q
          cases e2
          rw [ha] at h3; cases h3
        · rw [List.getElem?_set_ne hik] at g1 g2
          exact n4 k ⟨⟨xs, g1⟩, g2⟩
  · by_cases hj : i = j
    · subst hj
      obtain ⟨z1, e1⟩ := List.getElem?_eq_some_iff.mp h1
      obtain ⟨z2, e2⟩ := List.getElem?_eq_some_iff.mp h2
      rw [List.getElem_set_self] at e1 e2
      subst e1 e2
      cases r with
      | un => trivial
      | d x => exact ⟨v, rfl, q⟩
      | own xs =>
        obtain ⟨p, vs, rfl, h3, h4, h5, h6⟩ := q
        exact ⟨p, vs, rfl, h5, h6, h4, m.st.none_back h3, fun z => m.gi.box z h3⟩
      | bor j xs => exact (nb j xs rfl).elim
      | yard mm kk => exact ⟨v, rfl, q⟩
      | k x => exact ⟨v, rfl, q⟩
      | fr x => trivial
      | dct ks ds =>
        obtain ⟨p, kvs, rfl, h3, h4, h5, hk, h6⟩ := q
        exact ⟨p, kvs, rfl, h5, hk, h6, h4, m.st.none_back h3, fun z => m.gi.box z h3⟩
      | box =>
        obtain ⟨b, l, g, rfl⟩ := q
        exact ⟨b, l, g, rfl⟩
      | raw u =>
        have e : v = u := q
        subst e
        exact rfl
    · rw [List.getElem?_set_ne hj] at h1 h2
      exact m1.sl j a o h1 h2
  · have old : ∀ {j : Nat}, i ≠ j → ownAt (ρ.set i r) (σ.set i (some v)) j p → ownAt ρ σ j p := fun {j} hj ⟨⟨xs, h1⟩, h2⟩ => by
      rw [List.getElem?_set_ne hj] at h1 h2
      exact ⟨⟨xs, h1⟩, h2⟩
    have new : ∀ {k : Nat}, i ≠ k → ownAt (ρ.set i r) (σ.set i (some v)) i p → ownAt (ρ.set i r) (σ.set i (some v)) k p → False := fun {k} hk ⟨⟨xs, h1⟩, h2⟩ h3 => by
      obtain ⟨⟨ys, g1⟩, g2⟩ := old hk h3
      obtain ⟨z1, e1⟩ := List.getElem?_eq_some_iff.mp h1
      obtain ⟨z2, e2⟩ := List.getElem?_eq_some_iff.mp h2
      rw [List.getElem_set_self] at e1 e2
      subst e1
      obtain ⟨p', vs, rfl, h3, _⟩ := q
      cases e2
      obtain ⟨p2, ws, e, h4, _⟩ := m.sl k _ _ g1 g2
      cases e
      rw [h3] at h4; cases h4
    by_cases hj : i = j
    · by_cases hk : i = k
      · exact hj.symm.trans hk
      · subst hj
        exact (new hk h1 h2).elim
    · by_cases hk : i = k
      · subst hk
        exact (new hj h2 h1).elim
      · exact m.dj j k p (old hj h1) (old hk h2)
/-- an own list is changed -/
theorem M.mut (m : M Γ F ρ σ H) {i : Nat} {xs ys : List PyData} {p : Addr} {ws : List V} (e : ρ[i]? = some (.own xs)) (e2 : σ[i]? = some (some (.ref p))) (l : RpL F ws ys) : M Γ F (ρ.set i (.own ys)) σ (upd H p (.lst ws)) := by
  obtain ⟨p', vs, ep, h1, _, h3, h4, h5⟩ := m.sl i _ _ e e2
  cases ep
  have ne : ∀ {b : Addr} {o : HO}, F b = some o → b ≠ p := fun q => ne_of_none q h3
  have own_ : ∀ {j : Nat} {q : Addr}, ownAt (ρ.set i (.own ys)) σ j q → ownAt ρ σ j q := fun {j q} ⟨⟨zs, q1⟩, q2⟩ => by
    by_cases hj : i = j
    · subst hj; exact ⟨⟨xs, e⟩, q2⟩
    · rw [List.getElem?_set_ne hj] at q1
      exact ⟨⟨zs, q1⟩, q2⟩
  refine ⟨⟨m.st.ff, fun b o q => ?_, ?_, fun b o q nbx => ?_, m.st.new, m.st.box⟩, m.gi0, by simp [m.len], fun j a o g1 g2 => ?_, fun j k q g1 g2 => ?_, fun j x g1 => ?_⟩
  rotate_left 5
  · have g1' : ρ[j]? = some (.fr x) := by
      by_cases hj : i = j
      · subst hj
        obtain ⟨z1, e1⟩ := List.getElem?_eq_some_iff.mp g1
        rw [List.getElem_set_self] at e1
        cases e1
      · rwa [List.getElem?_set_ne hj] at g1
    obtain ⟨v2, Fs, ev, r2, ss, n⟩ := m.fr j x g1'
    refine ⟨v2, Fs, ev, r2, fun a o qa => ?_, fun a qa => ?_⟩
    · have na : a ≠ p := fun z => (n a (by rw [qa]; simp)).2.2.2 i (by rw [z]; exact ⟨⟨xs, e⟩, e2⟩)
      rw [upd_ne na]; exact ss a o qa
    · obtain ⟨n1, n2, n3, n4⟩ := n a qa
      exact ⟨n1, n2, n3, fun k hk => n4 k (own_ hk)⟩
  · rw [upd_ne (ne q)]; exact m.fh b o q
  · exact m.gi.upd h5
  · rw [upd_ne (ne_of_none q h4)]; exact m.st.keep b o q nbx
  · by_cases hj : i = j
    · subst hj
      obtain ⟨z1, e1⟩ := List.getElem?_eq_some_iff.mp g1
      rw [List.getElem_set_self] at e1
      subst e1
      rw [e2] at g2; cases g2
      exact ⟨p, ws, rfl, upd_same, l, h3, h4, h5⟩
    · rw [List.getElem?_set_ne hj] at g1
      have q := m.sl j a o g1 g2
      cases a with
      | own zs =>
        obtain ⟨p2, us, rfl, q1, q2, q3, q4, q5⟩ := q
        have n : p2 ≠ p := fun z => by
          subst z
          exact hj (m.dj i j p2 ⟨⟨xs, e⟩, e2⟩ ⟨⟨zs, g1⟩, g2⟩)
        exact ⟨p2, us, rfl, by rw [upd_ne n]; exact q1, q2, q3, q4, q5⟩
      | dct ks ds =>
        obtain ⟨p2, us, rfl, q1, q2, q3, q4, q5, q6⟩ := q
        have n : p2 ≠ p := fun z => by
          subst z
          rw [h1] at q1
          cases q1
        exact ⟨p2, us, rfl, by rw [upd_ne n]; exact q1, q2, q3, q4, q5, q6⟩
      | _ => exact q
  · exact m.dj j k q (own_ g1) (own_ g2)
/-- an own list is frozen -/
theorem M.frz (m : M Γ F ρ σ H) {i : Nat} {xs : List PyData} (e : ρ[i]? = some (.own xs)) : ∃ F', Same F F' ∧ M Γ F' (ρ.set i (.d (.list xs))) σ H := by
  obtain ⟨o, e2, q⟩ := m.slot e
  obtain ⟨p, vs, rfl, h1, h2, h3, h4, h5⟩ := q
  have k : Same F (upd F p (.lst vs)) := fun b u q => by rw [upd_ne (ne_of_none q h3)]; exact q
  refine ⟨_, k, ⟨⟨m.st.ff.trans k, fun b u q => ?_, m.gi, m.st.keep, fun b q => ?_, fun b hb => ?_⟩, m.gi0, by simp [m.len], fun j a o g1 g2 => ?_, fun j j' q g1 g2 => ?_, fun j x g1 => ?_⟩⟩
  rotate_left 5
  · have hj : i ≠ j := fun hj => by
      subst hj
      obtain ⟨z1, e1⟩ := List.getElem?_eq_some_iff.mp g1
      rw [List.getElem_set_self] at e1
      cases e1
    rw [List.getElem?_set_ne hj] at g1
    obtain ⟨v2, Fs, ev, r2, ss, n⟩ := m.fr j x g1
    refine ⟨v2, Fs, ev, r2, ss, fun a qa => ?_⟩
    obtain ⟨n1, n2, n3, n4⟩ := n a qa
    have na : a ≠ p := fun z => n4 i (by rw [z]; exact ⟨⟨xs, e⟩, e2⟩)
    refine ⟨by rw [upd_ne na]; exact n1, n2, n3, fun k hk => ?_⟩
    obtain ⟨⟨zs, q1⟩, q2⟩ := hk
    by_cases hik : i = k
    · subst hik
      obtain ⟨z1, e1⟩ := List.getElem?_eq_some_iff.mp q1
      rw [List.getElem_set_self] at e1
      cases e1
    · rw [List.getElem?_set_ne hik] at q1
      exact n4 k ⟨⟨zs, q1⟩, q2⟩
  · by_cases z : b = p
    · subst z; rw [upd_same] at q; cases q; exact h1
    · rw [upd_ne z] at q; exact m.fh b u q
  · by_cases z : b = p
    · subst z; exact .inr h4
    · rw [upd_ne z] at q; exact m.st.new b q
  · have n : b ≠ p := fun z => by subst z; exact h5 hb
    rw [upd_ne n]; exact m.st.box b hb
  · by_cases hj : i = j
    · subst hj
      obtain ⟨z1, e1⟩ := List.getElem?_eq_some_iff.mp g1
      rw [List.getElem_set_self] at e1
      subst e1
      rw [e2] at g2; cases g2
      exact ⟨_, rfl, Rp.lst upd_same (h2.up k)⟩
    · rw [List.getElem?_set_ne hj] at g1
      have q := m.sl j a o g1 g2
      cases a with
      | own zs =>
        obtain ⟨p2, us, rfl, q1, q2, q3, q4, q5⟩ := q
        have n : p2 ≠ p := fun z => by
          subst z
          exact hj (m.dj i j p2 ⟨⟨xs, e⟩, e2⟩ ⟨⟨zs, g1⟩, g2⟩)
        exact ⟨p2, us, rfl, q1, q2.up k, by rw [upd_ne n]; exact q3, q4, q5⟩
      | dct ks ds =>
        obtain ⟨p2, us, rfl, q1, q2, q3, q4, q5, q6⟩ := q
        have n : p2 ≠ p := fun z => by
          subst z
          rw [h1] at q1
          cases q1
        exact ⟨p2, us, rfl, q1, q2, q3.up k, by rw [upd_ne n]; exact q4, q5, q6⟩
      | d x =>
        obtain ⟨v, e, q⟩ := q
        exact ⟨v, e, q.up k⟩
      | yard mm kk =>
        obtain ⟨v, e, q⟩ := q
        exact ⟨v, e, q.up k⟩
      | k x =>
        obtain ⟨v, e, q⟩ := q
        exact ⟨v, e, q.up (kn.up k)⟩
      | _ => exact q
  · have old : ∀ {j : Nat}, ownAt (ρ.set i (.d (.list xs))) σ j q → ownAt ρ σ j q := fun {j} ⟨⟨zs, q1⟩, q2⟩ => by
      by_cases hj : i = j
      · subst hj
        obtain ⟨z1, e1⟩ := List.getElem?_eq_some_iff.mp q1
        rw [List.getElem_set_self] at e1
        cases e1
      · rw [List.getElem?_set_ne hj] at q1
        exact ⟨⟨zs, q1⟩, q2⟩
    exact m.dj j j' q (old g1) (old g2)
theorem unfr_get {ρ : List A} {i : Nat} {a : A} (h : (unfr ρ)[i]? = some a) : ∃ b, ρ[i]? = some b ∧ a = unfrA b := by
  unfold unfr at h
  rw [List.getElem?_map] at h
  obtain ⟨b, e, rfl⟩ := Option.map_eq_some_iff.mp h
  exact ⟨b, e, rfl⟩
theorem unfr_own {ρ : List A} {σ : St} {j : Nat} {q : Addr} : ownAt (unfr ρ) σ j q → ownAt ρ σ j q := fun ⟨⟨zs, q1⟩, q2⟩ => by
  obtain ⟨b, e, e2⟩ := unfr_get q1
  cases b with
  | fr x => cases e2
  | own ys => cases e2; exact ⟨⟨_, e⟩, q2⟩
  | _ => cases e2
/-- what stands by itself is forgotten -/
theorem M.unfr (m : M Γ F ρ σ H) : M Γ F (unfr ρ) σ H := by
  refine ⟨m.st, m.gi0, by rw [m.len]; simp [Yd.unfr], fun i a o h1 h2 => ?_, fun i j p h1 h2 => m.dj i j p (unfr_own h1) (unfr_own h2), fun i x h1 => ?_⟩
  · obtain ⟨b, e, rfl⟩ := unfr_get h1
    have q := m.sl i b o e h2
    cases b with
    | fr x => trivial
    | dct ks ds => trivial
    | _ => exact q
  · obtain ⟨b, e, e2⟩ := unfr_get h1
    cases b <;> cases e2
/-- what stands by itself is frozen -/
def jn (F Fs : Hp) : Hp := fun a => match Fs a with
  | some o => some o
  | none => F a
theorem M.frzF (m : M Γ F ρ σ H) {i : Nat} {x : PyData} (e : ρ[i]? = some (.fr x)) : ∃ F', Same F F' ∧ M Γ F' ((Yd.unfr ρ).set i (.d x)) σ H := by
  obtain ⟨v, Fs, ev, r, ss, n⟩ := m.fr i x e
  have m1 := m.unfr
  have k : Same F (jn F Fs) := fun b u q => by
    unfold jn
    cases e2 : Fs b with
    | none => exact q
    | some o => rw [(n b (by rw [e2]; simp)).1] at q; cases q
  have k2 : Same Fs (jn F Fs) := fun b u q => by
    unfold jn
    rw [q]
  have hFs : ∀ b, jn F Fs b ≠ none → F b ≠ none ∨ Fs b ≠ none := fun b q => by
    unfold jn at q
    cases e2 : Fs b with
    | none => rw [e2] at q; exact .inl q
    | some o => exact .inr (by simp)
  refine ⟨jn F Fs, k, ⟨m.st.ff.trans k, fun b u q => ?_, m.gi, m.st.keep, fun b q => ?_, fun b hb => ?_⟩, m.gi0, by simp [m1.len], fun j a o g1 g2 => ?_, fun j j' q g1 g2 => ?_, fun j y g1 => ?_⟩
  · unfold jn at q
    cases e2 : Fs b with
    | none => rw [e2] at q; exact m.fh b u q
    | some o => rw [e2] at q; exact ss b u (by rw [e2]; exact q)
  · rcases hFs b q with z | z
    · exact m.st.new b z
    · exact .inr (n b z).2.1
  · unfold jn
    cases e2 : Fs b with
    | none => exact m.st.box b hb
    | some o => exact absurd hb (n b (by rw [e2]; simp)).2.2.1
  · by_cases hj : i = j
    · subst hj
      obtain ⟨z1, e1⟩ := List.getElem?_eq_some_iff.mp g1
      rw [List.getElem_set_self] at e1
      subst e1
      rw [ev] at g2; cases g2
      exact ⟨_, rfl, r.up k2⟩
    · rw [List.getElem?_set_ne hj] at g1
      have q := m1.sl j a o g1 g2
      cases a with
      | own zs =>
        obtain ⟨p2, us, rfl, q1, q2, q3, q4, q5⟩ := q
        refine ⟨p2, us, rfl, q1, q2.up k, ?_, q4, q5⟩
        cases e3 : jn F Fs p2 with
        | none => rfl
        | some o =>
          rcases hFs p2 (by rw [e3]; simp) with z | z
          · exact absurd q3 z
          · exact ((n p2 z).2.2.2 j (unfr_own ⟨⟨zs, g1⟩, g2⟩)).elim
      | dct ks ds =>
        obtain ⟨b, _, e2⟩ := unfr_get g1
        cases b <;> cases e2
      | d x =>
        obtain ⟨v, e, q⟩ := q
        exact ⟨v, e, q.up k⟩
      | yard mm kk =>
        obtain ⟨v, e, q⟩ := q
        exact ⟨v, e, q.up k⟩
      | k x =>
        obtain ⟨v, e, q⟩ := q
        exact ⟨v, e, q.up (kn.up k)⟩
      | _ => exact q
  · have old : ∀ {j : Nat}, ownAt ((Yd.unfr ρ).set i (.d x)) σ j q → ownAt (Yd.unfr ρ) σ j q := fun {j} ⟨⟨zs, q1⟩, q2⟩ => by
      by_cases hj : i = j
      · subst hj
        obtain ⟨z1, e1⟩ := List.getElem?_eq_some_iff.mp q1
        rw [List.getElem_set_self] at e1
        cases e1
      · rw [List.getElem?_set_ne hj] at q1
        exact ⟨⟨zs, q1⟩, q2⟩
    exact m1.dj j j' q (old g1) (old g2)
  · by_cases hj : i = j
    · subst hj
      obtain ⟨z1, e1⟩ := List.getElem?_eq_some_iff.mp g1
      rw [List.getElem_set_self] at e1
      cases e1
    · rw [List.getElem?_set_ne hj] at g1
      obtain ⟨b, e, e2⟩ := unfr_get g1
      cases b <;> cases e2
end

section
variable {X : Cx} {Γ : Gm} {K : PySem.W.Frag} {t u : TS} {w w' : WS} {te tk : TE} {we wk : WE} {tt : TT} {wt : WT}
theorem ss_next : SndS Γ tNext wNext := fun ρ P F σ H D m h k => k.nx F σ H ρ (Same.refl _) m h
theorem ss_seq (h1 : SndS Γ t w) (h2 : SndS Γ u w') : SndS Γ (tSeq t u) (wSeq w w') := fun ρ P F σ H D m h k =>
  h1 ρ _ F σ H _ m h ⟨fun F' σ' H' ρ' e m' q => h2 ρ' P F' σ' H' D m' q (k.up e), k.rt, k.bk, k.ct⟩
theorem ss_break : SndS Γ tBreak wBreak := fun ρ P F σ H D m h k => k.bk F σ H ρ (Same.refl _) m h
theorem ss_cont : SndS Γ tCont wCont := fun ρ P F σ H D m h k => k.ct F σ H ρ (Same.refl _) m h
theorem ss_drop (h1 : SndE Γ te we) : SndS Γ (tDrop te) (wDrop we) := fun ρ P F σ H D m h k =>
  h1 ρ _ F σ H _ m h fun F1 H1 v r s q p => k.nx F1 σ H1 ρ s.ff (m.step s) p
theorem ss_never : SndS Γ tNever wNever := fun _ _ _ _ _ _ _ h _ => h.elim
theorem ss_retN : SndS Γ tRetN wRetN := fun ρ P F σ H D m h k => k.rt F H _ .non (Same.refl _) m.st Rp.non h
theorem Res.ret {ρ : List A} {σ : St} {F H F1 H1 : Hp} {v : V} {r : A} (m : M Γ F ρ σ H) (s : Stp Γ.G F H F1 H1) (q : Res Γ ρ σ F H F1 H1 v r) (hu : r ≠ .un) (hf : ∀ x, r ≠ .fr x) (hd : ∀ ks ds, r ≠ .dct ks ds) : RetR Γ.G Γ.C Γ.H F1 H1 v (unb r) := by
  cases r with
  | un => exact (hu rfl).elim
  | d x => exact q
  | own xs =>
    obtain ⟨p, vs, e, h1, h2, h3, h4⟩ := q
    exact ⟨p, vs, e, m.st.none_back h1, h2, h3, h4⟩
  | bor i xs =>
    obtain ⟨g1, g2⟩ := q
    obtain ⟨p, vs, e, h1, h2, h3, h4, _⟩ := (m.step s).sl i _ _ g1 g2
    cases e
    exact ⟨p, vs, rfl, h4, h3, h1, h2⟩
  | yard mm kk => exact q
  | k x => exact q
  | fr x => exact (hf x rfl).elim
  | dct ks ds => exact (hd ks ds rfl).elim
  | box => exact q
  | raw u => exact q
theorem ss_ret (h1 : SndE Γ te we) : SndS Γ (tRet te) (wRet we) := fun ρ P F σ H D m h k =>
  h1 ρ _ F σ H _ m h fun F1 H1 v r s q p => by
    split at p
    · exact p.elim
    · exact p.elim
    · exact p.elim
    · rename_i hn hf hd
      exact k.rt F1 H1 v _ s.ff (m.st.trans m.gi0 s) (q.ret m s (fun e => hn e) (fun x e => hf x e) fun a b e => hd a b e) p
theorem ss_if (h1 : SndT Γ tt wt) (h2 : SndS Γ t w) (h3 : SndS Γ u w') : SndS Γ (tIfS tt t u) (wIf wt w w') := fun ρ P F σ H D m h k =>
  h1 ρ _ F σ H _ m h fun F1 H1 b s p => by
    cases b with
    | true => exact iteT (h2 ρ P F1 σ H1 D (m.step s) (p.1 rfl) (k.up s.ff))
    | false => exact iteF (h3 ρ P F1 σ H1 D (m.step s) (p.2 rfl) (k.up s.ff))
theorem ss_set (i : Nat) (h1 : SndE Γ te we) : SndS Γ (tAsg te (gName i)) (wSet i we) := fun ρ P F σ H D m h k =>
  h1 ρ _ F σ H _ m h fun F1 H1 v r s q p => by
    split at p
    · exact p.elim
    · rename_i hn
      exact k.nx F1 _ H1 _ s.ff (m.set s q (fun j xs e => hn j xs e) i) p
theorem ss_fz (i : Nat) (h1 : SndS Γ t w) : SndS Γ t (wFz i w) := fun ρ P F σ H D m h k => by
  unfold wFz at h
  split at h
  · rename_i x e
    obtain ⟨F', e', m'⟩ := m.frzF e
    exact h1 _ P F' σ H D m' h (k.up e')
  · rename_i xs e
    obtain ⟨F', e', m'⟩ := m.frz e
    exact h1 _ P F' σ H D m' h (k.up e')
  · exact h1 ρ P F σ H D m h k
theorem ty_list {p : Addr} {xs : List V} {H : Hp} (h : H p = some (.lst xs)) : tyV K "list" (.ref p) H := .inl ⟨rfl, xs, SqL.of h⟩
/-- after a value: the own list at slot i as it stands, and the value as data -/
theorem own_at {ρ : List A} {σ : St} {F H F1 H1 : Hp} {v : V} {r : A} {d : PyData} {i : Nat} {xs : List PyData} {p : Addr} (m : M Γ F ρ σ H) (s : Stp Γ.G F H F1 H1) (q : Res Γ ρ σ F H F1 H1 v r) (e : ρ[i]? = some (.own xs)) (e2 : σ[i]? = some (some (.ref p))) (ed : toD r = some d) :
    ∃ F2 vs, Same F F2 ∧ M Γ F2 ρ σ H1 ∧ H1 p = some (.lst vs) ∧ RpL F2 vs xs ∧ Rp F2 v d := by
  obtain ⟨F2, k2, s2, a2⟩ := q.freeze m.gi (toD_fz ed) s (Same.refl _)
  have m2 := m.step s2
  obtain ⟨p', vs, ep, h1, l1, _⟩ := m2.sl i _ _ e e2
  cases ep
  exact ⟨F2, vs, s2.ff, m2, h1, l1, a2⟩
theorem ss_app (i : Nat) (h1 : SndE Γ te we) : SndS Γ (tDrop (tBM K "list" rAppend (tVar i) (tCons te tNil))) (wApp i we) := fun ρ P F σ H D m h k => by
  unfold wApp at h
  split at h
  · rename_i xs e
    obtain ⟨o, e2, q⟩ := m.slot e
    obtain ⟨p, vs, rfl, hp, _⟩ := id q
    refine ⟨_, e2, ty_list hp, ?_⟩
    refine h1 ρ _ F σ H _ m h fun F1 H1 v r s q hq => ?_
    split at hq
    · rename_i d ed
      obtain ⟨F2, ws, ff, m2, z1, l1, a2⟩ := own_at m s q e e2 ed
      exact ⟨p, ws, v, rfl, rfl, z1, by rw [l1.length]; exact hq.1, k.nx _ _ _ _ ff (m2.mut e e2 (l1.append (.one a2))) hq.2⟩
    · exact hq.elim
  · exact h.elim
theorem ixN_lt {n : Nat} {i : Int} {j : Nat} (h : ixN n i = some j) : j < n := (ixN_seq h).2.1
theorem ss_put (i : Nat) (hk : SndE Γ tk wk) (h1 : SndE Γ te we) : SndS Γ (tAsg te (gSub (tVar i) tk rSetL)) (wPut i wk we) := fun ρ P F σ H D m h k => by
  unfold wPut at h
  split at h
  · rename_i xs e
    refine h1 ρ _ F σ H _ m h fun F1 H1 v r s q hq => ?_
    split at hq
    · rename_i d ed
      obtain ⟨o, e2, q0⟩ := m.slot e
      obtain ⟨p, vs, rfl, hp, _⟩ := id q0
      obtain ⟨F2, ws, ff, m2, z1, l1, a2⟩ := own_at m s q e e2 ed
      refine ⟨_, e2, ?_⟩
      refine hk ρ _ F2 σ H1 _ m2 hq fun F3 H3 kv rk s3 q3 hq3 => ?_
      split at hq3
      · rename_i n
        cases (show Rp F3 kv (.int n) from q3)
        obtain ⟨j, ej, hn⟩ := hq3
        have m3 := m2.step s3
        obtain ⟨p3, ws3, ep, z3, l3, _⟩ := m3.sl i _ _ e e2
        cases ep
        exact ⟨p, ws3, n, j, rfl, rfl, z3, by rw [l3.length]; exact ej, k.nx _ _ _ _ (ff.trans s3.ff) (m3.mut e e2 (l3.set j (a2.up s3.ff))) hn⟩
      · exact hq3.elim
    · exact hq.elim
  · exact h.elim
theorem ss_clear (i : Nat) : SndS Γ (tDrop (tBM0 K "list" rClear (tVar i))) (wClear i) := fun ρ P F σ H D m h k => by
  unfold wClear at h
  split at h
  · rename_i xs e
    obtain ⟨o, e2, q⟩ := m.slot e
    obtain ⟨p, vs, rfl, hp, _⟩ := id q
    exact ⟨_, e2, ty_list hp, p, vs, rfl, rfl, hp, k.nx _ _ _ _ (Same.refl _) (m.mut e e2 .nil) h⟩
  · exact h.elim
theorem RpL.get_last {F : Hp} {vs : List V} {ds : List PyData} (l : RpL F vs ds) {d : PyData} (e : ds[ds.length - 1]? = some d) : ∃ v, vs[vs.length - 1]? = some v ∧ Rp F v d := by
  obtain ⟨v, e1, e2⟩ := l.get e
  exact ⟨v, by rw [l.length]; exact e1, e2⟩
theorem ss_popSet (y i : Nat) : SndS Γ (tAsg (tBM0 K "list" rPop (tVar i)) (gName y)) (wPopSet y i) := fun ρ P F σ H D m h k => by
  unfold wPopSet at h
  split at h
  · rename_i xs e
    obtain ⟨o, e2, q⟩ := m.slot e
    obtain ⟨p, vs, rfl, hp, l, _⟩ := id q
    obtain ⟨d, ed, hn⟩ := h
    obtain ⟨v, ev, rv⟩ := l.get_last ed
    have m2 := m.mut e e2 l.dropLast
    refine ⟨_, e2, ty_list hp, p, vs, v, rfl, rfl, hp, ev, ?_⟩
    exact k.nx _ _ _ _ (Same.refl _) (m2.set m2.stp (r := .d d) rv (fun _ _ z => nomatch z) y) hn
  · exact h.elim
theorem seqIx {n : Nat} {k : Int} (h0 : 0 ≤ k) (h1 : k < n) : seqIndex? k n = some k.toNat := PySem.StrLaws.seqIndex_nonneg h0 h1
theorem ss_appPop (i j : Nat) (h1 : SndE Γ te we) : SndS Γ (tDrop (tBM K "list" rAppend (tVar i) (tCons (tBM K "list" rPopAt (tVar j) (tCons te tNil)) tNil))) (wAppPop i j we) := fun ρ P F σ H D m h k => by
  unfold wAppPop at h
  split at h
  · rename_i xs ys ei ej
    obtain ⟨o, ei2, qi⟩ := m.slot ei
    obtain ⟨p, vs, rfl, hp, _⟩ := id qi
    obtain ⟨o, ej2, qj⟩ := m.slot ej
    obtain ⟨p', vs', rfl, hp', _⟩ := id qj
    obtain ⟨nij, zx, zy, h⟩ := h
    refine ⟨_, ei2, ty_list hp, ?_⟩
    refine ⟨_, ej2, ty_list hp', ?_⟩
    refine h1 ρ _ F σ H _ m h fun F1 H1 v r s q hq => ?_
    split at hq
    · rename_i n
      cases (show Rp F1 v (.int n) from q)
      obtain ⟨n0, n1, hq⟩ := hq
      have m1 := m.step s
      obtain ⟨p2, us, ep, z2, l2, _⟩ := m1.sl j _ _ ej ej2
      cases ep
      obtain ⟨d, ed⟩ : ∃ d, ys[n.toNat]? = some d := ⟨ys[n.toNat]'(by omega), List.getElem?_eq_getElem (by omega)⟩
      obtain ⟨v, ev, rv⟩ := l2.get ed
      have m2 := m1.mut ej ej2 (l2.eraseIdx n.toNat)
      have ei' : (ρ.set j (.own (ys.eraseIdx n.toNat)))[i]? = some (.own xs) := by rw [List.getElem?_set_ne nij.symm]; exact ei
      obtain ⟨p3, ws, ep, z3, l3, _⟩ := m2.sl i _ _ ei' ei2
      cases ep
      have big : (2 : Int) ^ 63 > 16777216 := by decide
      have sz : sizeLine = 16777216 := sizeLine_eq
      refine ⟨p', us, n, n.toNat, v, rfl, rfl, z2, by omega, by omega, by rw [l2.length]; exact seqIx n0 n1, ev, ?_⟩
      exact ⟨p, ws, v, rfl, rfl, z3, by rw [l3.length]; exact zx, k.nx _ _ _ _ s.ff (m2.mut ei' ei2 (l3.append (.one rv))) (hq d ed)⟩
    · exact hq.elim
  · exact h.elim
theorem ss_ext (i : Nat) (h1 : SndE Γ te we) : SndS Γ (tDrop (tBM K "list" rExtend (tVar i) (tCons te tNil))) (wExt i we) := fun ρ P F σ H D m h k => by
  unfold wExt at h
  split at h
  · rename_i xs e
    obtain ⟨o, e2, q⟩ := m.slot e
    obtain ⟨p, vs, rfl, hp, _⟩ := id q
    refine ⟨_, e2, ty_list hp, ?_⟩
    refine h1 ρ _ F σ H _ m h fun F1 H1 v r s q hq => ?_
    split at hq
    · rename_i ys
      have m1 := m.step s
      obtain ⟨p1, ws, ep, z1, l1, _⟩ := m1.sl i _ _ e e2
      cases ep
      obtain ⟨pb, us, rfl, g1, g2, g3, g4⟩ := q
      exact ⟨p, pb, ws, us, rfl, rfl, z1, g3, by rw [l1.length, g4.length]; exact hq.1, k.nx _ _ _ _ s.ff (m1.mut e e2 (l1.append g4)) hq.2⟩
    · exact hq.elim
  · exact h.elim
end

/-! ### targets -/
abbrev WG := PyData → List A → (List A → Prop) → Prop
def SndG (Γ : Gm) (g : TG) (w : WG) : Prop := ∀ (d : PyData) (ρ : List A) (Q : List A → Prop) (F : Hp) (σ : St) (H : Hp) (v : V) (K : St → Hp → Prop), M Γ F ρ σ H → Rp F v d → w d ρ Q → (∀ ρ' σ', M Γ F ρ' σ' H → Q ρ' → K σ' H) → g v σ H K
def SndGs (Γ : Gm) (g : TGs) (w : List PyData → List A → (List A → Prop) → Prop) : Prop := ∀ (ds : List PyData) (ρ : List A) (Q : List A → Prop) (F : Hp) (σ : St) (H : Hp) (vs : List V) (K : St → Hp → Prop), M Γ F ρ σ H → RpL F vs ds → w ds ρ Q → (∀ ρ' σ', M Γ F ρ' σ' H → Q ρ' → K σ' H) → g vs σ H K
structure PDG (X : Cx) (Γ : Gm) (e : Expr) (t : TG) (w : WG) : Prop where
  pg : PG X e t
  sd : SndG Γ t w
structure PDGs (X : Cx) (Γ : Gm) (es : List Expr) (t : TGs) (w : List PyData → List A → (List A → Prop) → Prop) : Prop where
  pg : PGs X es t
  sd : SndGs Γ t w
def gwN (i : Nat) : WG := fun d ρ Q => Q (ρ.set i (.d d))
def gwNil : List PyData → List A → (List A → Prop) → Prop := fun ds ρ Q => match ds with
  | [] => Q ρ
  | _ => False
def gwCons (a : WG) (b : List PyData → List A → (List A → Prop) → Prop) : List PyData → List A → (List A → Prop) → Prop := fun ds ρ Q => match ds with
  | d :: r => a d ρ fun ρ' => b r ρ' Q
  | [] => False
def gwT (n : Nat) (b : List PyData → List A → (List A → Prop) → Prop) : WG := fun d ρ Q => match d with
  | .tuple ds => ds.length = n ∧ b ds ρ Q
  | _ => False
def wAsg (e : WE) (g : WG) : WS := fun ρ P => e ρ fun r => match toD r with
  | some d => g d ρ P.nx
  | none => False
section
variable {X : Cx} {Γ : Gm} {K : PySem.W.Frag} {te : TE} {we : WE} {g : TG} {wg : WG} {gs : TGs} {wgs : List PyData → List A → (List A → Prop) → Prop}
theorem M.setD {F : Hp} {ρ : List A} {σ : St} {H : Hp} {v : V} {d : PyData} (m : M Γ F ρ σ H) (r : Rp F v d) (i : Nat) : M Γ F (ρ.set i (.d d)) (σ.set i (some v)) H :=
  m.set m.stp (r := .d d) r (fun _ _ z => nomatch z) i
theorem sg_name (i : Nat) : SndG Γ (gName i) (gwN i) := fun d ρ Q F σ H v K m r h k => k _ _ (m.setD r i) h
theorem sg_nil : SndGs Γ gNil gwNil := fun ds ρ Q F σ H vs K m r h k => by
  cases ds with
  | nil => cases r; exact ⟨rfl, k ρ σ m h⟩
  | cons _ _ => exact h.elim
theorem sg_cons (h1 : SndG Γ g wg) (h2 : SndGs Γ gs wgs) : SndGs Γ (gCons g gs) (gwCons wg wgs) := fun ds ρ Q F σ H vs K m r h k => by
  cases ds with
  | nil => exact h.elim
  | cons d ds =>
    cases r with
    | cons r1 r2 => exact ⟨_, _, rfl, h1 d ρ _ F σ H _ _ m r1 h fun ρ' σ' m' h' => h2 ds ρ' Q F σ' H _ K m' r2 h' k⟩
theorem sg_tup {n : Nat} (h : SndGs Γ gs wgs) : SndG Γ (gTup K n gs) (gwT n wgs) := fun d ρ Q F σ H v K' m r hh k => by
  unfold gwT at hh
  split at hh
  · rename_i ds
    cases r with
    | tup ha hl => exact ⟨_, _, rfl, SqT.of (m.fh _ _ ha), by rw [hl.length]; exact hh.1, h ds ρ Q F σ H _ K' m hl hh.2 k⟩
  · exact hh.elim
theorem ss_asg (h1 : SndE Γ te we) (h2 : SndG Γ g wg) : SndS Γ (tAsg te g) (wAsg we wg) := fun ρ P F σ H D m h k =>
  h1 ρ _ F σ H _ m h fun F1 H1 v r s q p => by
    split at p
    · rename_i d ed
      obtain ⟨F2, k2, s2, a2⟩ := q.freeze m.gi (toD_fz ed) s (Same.refl _)
      exact h2 d ρ _ F2 σ H1 v _ (m.step s2) a2 p fun ρ' σ' m' h' => k.nx F2 σ' H1 ρ' s2.ff m' h'
    · exact p.elim
end

/-! ### what is walked -/
def ItOk (Γ : Gm) (J : It) (items : List PyData) (F : Hp) : Prop := ∀ (F' H' : Hp), Same F F' → Same F' H' → gInv Γ.G H' → (∀ a, isBox Γ.G a → F' a = none) → ∀ i,
  (items.length ≤ i → J.stop i H') ∧ (∀ d, items[i]? = some d → J.go i H' ∧ ∀ x H'', J.yld i H' x H'' → ∃ F'', Stp Γ.G F' H' F'' H'' ∧ Rp F'' x d)
abbrev WI := List A → (List PyData → Prop) → Prop
def SndI (Γ : Gm) (t : TI) (w : WI) : Prop := ∀ (ρ : List A) (Q : List PyData → Prop) (F : Hp) (σ : St) (H : Hp) (R : It → Hp → Prop), M Γ F ρ σ H → w ρ Q →
  (∀ F' H' J items, Stp Γ.G F H F' H' → ItOk Γ J items F' → Q items → R J H') → t σ H R
structure PDI (X : Cx) (Γ : Gm) (tg iter : Expr) (t : TI) (w : WI) : Prop where
  pi : PI X tg iter t
  sd : SndI Γ t w
/-- lo, lo + 1, .. (n of them) -/
def rgD (lo : Int) (n : Nat) : List PyData := (List.range n).map fun i => PyData.int (lo + (i : Nat))
def wRange1 (a : WA) : WI := fun ρ Q => a ρ fun rs => match rs with
  | [.d (.int j)] => -(2 ^ 62) ≤ j ∧ j < 2 ^ 62 ∧ Q (rgD 0 j.toNat)
  | _ => False
def wRange2 (a : WA) : WI := fun ρ Q => a ρ fun rs => match rs with
  | [.d (.int i), .d (.int j)] => (-(2 ^ 62) ≤ i ∧ i < 2 ^ 62 ∧ -(2 ^ 62) ≤ j ∧ j < 2 ^ 62) ∧ Q (rgD i (j - i).toNat)
  | _ => False
/-- over a list: it is frozen -/
def wList (e : WE) : WI := fun ρ Q => e ρ fun r => match r with
  | .d (.list ds) => Q ds
  | .own ds => Q ds
  | _ => False
def wTupI (e : WE) : WI := fun ρ Q => e ρ fun r => match r with
  | .d (.tuple ds) => Q ds
  | _ => False
def enD (ds : List PyData) : List PyData := ds.mapIdx fun i d => .tuple [.int (i : Nat), d]
def wEnum (a : WA) : WI := fun ρ Q => a ρ fun rs => match rs with
  | [.d (.list ds)] => Q (enD ds)
  | [.own ds] => Q (enD ds)
  | _ => False
def wRev (a : WA) : WI := fun ρ Q => a ρ fun rs => match rs with
  | [.d (.list ds)] => Q ds.reverse
  | [.own ds] => Q ds.reverse
  | _ => False
def wFor (wi : WI) (g : WG) (b : WS) : WS := fun ρ P => wi ρ fun items => ∃ I : Nat → List A → Prop, I 0 ρ ∧ (∀ i d ρ', items[i]? = some d → I i ρ' → g d ρ' fun ρ2 => b ρ2 { P with nx := I (i + 1), ct := I (i + 1), bk := P.nx }) ∧ ∀ ρ', I items.length ρ' → P.nx ρ'
def wWhile (t : WT) (b : WS) : WS := fun ρ P => ∃ I : Nat → List A → Prop, (∃ m, I m ρ) ∧ ∀ m ρ', I m ρ' → t ρ' fun c => (c = true → b ρ' { P with nx := fun ρ2 => ∃ m', m' < m ∧ I m' ρ2, ct := fun ρ2 => ∃ m', m' < m ∧ I m' ρ2, bk := P.nx }) ∧ (c = false → P.nx ρ')
section
variable {X : Cx} {Γ : Gm} {K : PySem.W.Frag} {te : TE} {we : WE} {ta : TA} {wa : WA} {tt : TT} {wt : WT} {ti : TI} {wi : WI} {g : TG} {wg : WG} {tb : TS} {wb : WS}
theorem itok_range {F : Hp} (lo : Int) (n : Nat) : ItOk Γ (Itr lo n) (rgD lo n) F := fun F' H' s s' gi bx i => by
  refine ⟨fun h => ?_, fun d e => ?_⟩
  · show n ≤ i
    simpa [rgD] using h
  · unfold rgD at e
    rw [List.getElem?_map] at e
    obtain ⟨j, ej, rfl⟩ := Option.map_eq_some_iff.mp e
    obtain ⟨hj, e2⟩ := List.getElem?_eq_some_iff.mp ej
    simp at hj e2
    subst e2
    refine ⟨hj, fun x H'' y => ?_⟩
    obtain ⟨rfl, rfl⟩ := y
    exact ⟨F', Stp.refl s' gi bx, Rp.int _⟩
theorem si_range1 (h : SndA Γ ta wa) : SndI Γ (iRng1 ta) (wRange1 wa) := fun ρ Q F σ H R m q k =>
  h ρ _ F σ H _ m q fun F1 H1 vs rs s r p => by
    split at p
    · cases r with
      | cons r1 t => cases t with
        | nil =>
          cases (show Rp F1 _ (.int _) from r1)
          exact ⟨_, rfl, p.1, p.2.1, k F1 H1 _ _ s (itok_range _ _) p.2.2⟩
    · exact p.elim
theorem si_range2 (h : SndA Γ ta wa) : SndI Γ (iRng2 ta) (wRange2 wa) := fun ρ Q F σ H R m q k =>
  h ρ _ F σ H _ m q fun F1 H1 vs rs s r p => by
    split at p
    · cases r with
      | cons r1 t => cases t with
        | cons r2 t => cases t with
          | nil =>
            cases (show Rp F1 _ (.int _) from r1)
            cases (show Rp F1 _ (.int _) from r2)
            exact ⟨_, _, rfl, p.1, k F1 H1 _ _ s (itok_range _ _) p.2⟩
    · exact p.elim
theorem SqL.inj1 {H : Hp} {a : Addr} {xs ys : List V} (h : H a = some (.lst xs)) (h' : H a = some (.lst ys)) : xs = ys := by
  rw [h] at h'; cases h'; rfl
theorem itok_list {F : Hp} {a : Addr} {vs : List V} {ds : List PyData} (h : F a = some (.lst vs)) (l : RpL F vs ds) : ItOk Γ (Itl K a) ds F := fun F' H' s s' gi bx i => by
  have h' : H' a = some (.lst vs) := s' _ _ (s _ _ h)
  refine ⟨fun hi => ⟨vs, SqL.of h', by rw [l.length]; exact hi⟩, fun d e => ?_⟩
  obtain ⟨v, ev, rv⟩ := l.get e
  refine ⟨⟨vs, v, SqL.of h', ev⟩, fun x H'' y => ?_⟩
  obtain ⟨rfl, y⟩ := y
  have e2 := y vs (SqL.of h')
  rw [ev] at e2; cases e2
  exact ⟨F', Stp.refl s' gi bx, rv.up s⟩
theorem itok_tup {F : Hp} {a : Addr} {vs : List V} {ds : List PyData} (h : F a = some (.tup vs)) (l : RpL F vs ds) : ItOk Γ (Itt K a) ds F := fun F' H' s s' gi bx i => by
  have h' : H' a = some (.tup vs) := s' _ _ (s _ _ h)
  refine ⟨fun hi => ⟨vs, SqT.of h', by rw [l.length]; exact hi⟩, fun d e => ?_⟩
  obtain ⟨v, ev, rv⟩ := l.get e
  refine ⟨⟨vs, v, SqT.of h', ev⟩, fun x H'' y => ?_⟩
  obtain ⟨rfl, y⟩ := y
  have e2 := y vs (SqT.of h')
  rw [ev] at e2; cases e2
  exact ⟨F', Stp.refl s' gi bx, rv.up s⟩
theorem si_list (h : SndE Γ te we) : SndI Γ (iList K te) (wList we) := fun ρ Q F σ H R m q k =>
  h ρ _ F σ H _ m q fun F1 H1 v r s q1 p => by
    have fin : ∀ ds, toD r = some (.list ds) → Q ds → ∃ a, v = .ref a ∧ (∃ xs, SqL K H1 a xs) ∧ R (Itl K a) H1 := fun ds ed p => by
      obtain ⟨F2, k2, s2, a2⟩ := q1.freeze m.gi (toD_fz ed) s (Same.refl _)
      cases (show Rp F2 v (.list ds) from a2) with
      | lst ha hl => exact ⟨_, rfl, ⟨_, SqL.of (s2.fh _ _ ha)⟩, k F2 H1 _ ds s2 (itok_list ha hl) p⟩
    split at p
    · exact fin _ rfl p
    · exact fin _ rfl p
    · exact p.elim
theorem si_tup (h : SndE Γ te we) : SndI Γ (iTup K te) (wTupI we) := fun ρ Q F σ H R m q k =>
  h ρ _ F σ H _ m q fun F1 H1 v r s q1 p => by
    split at p
    · rename_i ds
      cases (show Rp F1 v (.tuple ds) from q1) with
      | tup ha hl => exact ⟨_, rfl, ⟨_, SqT.of (s.fh _ _ ha)⟩, k F1 H1 _ ds s (itok_tup ha hl) p⟩
    · exact p.elim
theorem ss_for (hi : SndI Γ ti wi) (hg : SndG Γ g wg) (hb : SndS Γ tb wb) : SndS Γ (tFor ti g tb) (wFor wi wg wb) := fun ρ P F σ H D m h k =>
  hi ρ _ F σ H _ m h fun F1 H1 J items s ok hI => by
    obtain ⟨I, i0, turn, done⟩ := hI
    refine ⟨fun i mm σ' H' => mm = items.length - i ∧ i ≤ items.length ∧ ∃ F' ρ', Same F1 F' ∧ M Γ F' ρ' σ' H' ∧ I i ρ', ⟨_, rfl, Nat.zero_le _, F1, ρ, Same.refl _, m.step s, i0⟩, ?_⟩
    rintro i mm σ' H' ⟨rfl, hi, F', ρ', ss, m', iv⟩
    have o := ok F' H' ss m'.fh m'.gi m'.st.box i
    by_cases hlt : i < items.length
    · obtain ⟨go, yl⟩ := o.2 items[i] (List.getElem?_eq_getElem hlt)
      refine .inr ⟨go, fun σ2 H2 => ∃ F2 ρ2, Same F1 F2 ∧ M Γ F2 ρ2 σ2 H2 ∧ I (i + 1) ρ2, fun σ2 H2 ⟨F2, ρ2, s2, m2, iv2⟩ => ⟨_, (by omega : items.length - (i + 1) < items.length - i), rfl, hlt, F2, ρ2, s2, m2, iv2⟩, fun x H'' y => ?_⟩
      obtain ⟨F'', st, rx⟩ := yl x H'' y
      refine hg items[i] ρ' _ F'' σ' H'' x _ (m'.step st) rx (turn i _ ρ' (List.getElem?_eq_getElem hlt) iv) fun ρ2 σ2 m2 hb2 => ?_
      have up : Same F1 F'' := ss.trans st.ff
      refine hb ρ2 _ F'' σ2 H'' _ m2 hb2 ⟨fun F3 σ3 H3 ρ3 e3 m3 q3 => ⟨F3, ρ3, up.trans e3, m3, q3⟩, fun F3 H3 v r e3 => k.rt F3 H3 v r ((s.ff.trans up).trans e3), fun F3 σ3 H3 ρ3 e3 m3 q3 => k.nx F3 σ3 H3 ρ3 ((s.ff.trans up).trans e3) m3 q3, fun F3 σ3 H3 ρ3 e3 m3 q3 => ⟨F3, ρ3, up.trans e3, m3, q3⟩⟩
    · have e : i = items.length := by omega
      subst e
      exact .inl ⟨o.1 (Nat.le_refl _), k.nx F' σ' H' ρ' (s.ff.trans ss) m' (done ρ' iv)⟩
theorem ss_while (ht : SndT Γ tt wt) (hb : SndS Γ tb wb) : SndS Γ (tWhile tt tb) (wWhile wt wb) := fun ρ P F σ H D m h k => by
  obtain ⟨I, ⟨m0, i0⟩, turn⟩ := h
  refine ⟨fun n σ' H' => ∃ F' ρ', Same F F' ∧ M Γ F' ρ' σ' H' ∧ I n ρ', ⟨m0, F, ρ, Same.refl _, m, i0⟩, ?_⟩
  rintro n σ' H' ⟨F', ρ', ss, m', iv⟩
  refine ht ρ' _ F' σ' H' _ m' (turn n ρ' iv) fun F1 H1 b s p => ?_
  have up : Same F F1 := ss.trans s.ff
  cases b with
  | true =>
    refine iteT ⟨fun σ2 H2 => ∃ n', n' < n ∧ ∃ F2 ρ2, Same F F2 ∧ M Γ F2 ρ2 σ2 H2 ∧ I n' ρ2, fun σ2 H2 h2 => h2, ?_⟩
    refine hb ρ' _ F1 σ' H1 _ (m'.step s) (p.1 rfl) ⟨fun F3 σ3 H3 ρ3 e3 m3 q3 => ?_, fun F3 H3 v r e3 => k.rt F3 H3 v r (up.trans e3), fun F3 σ3 H3 ρ3 e3 m3 q3 => k.nx F3 σ3 H3 ρ3 (up.trans e3) m3 q3, fun F3 σ3 H3 ρ3 e3 m3 q3 => ?_⟩
    · obtain ⟨n', l, q⟩ := q3
      exact ⟨n', l, F3, ρ3, up.trans e3, m3, q⟩
    · obtain ⟨n', l, q⟩ := q3
      exact ⟨n', l, F3, ρ3, up.trans e3, m3, q⟩
  | false => exact iteF (k.nx F1 σ' H1 ρ' up (m'.step s) (p.2 rfl))
end
end Yd

/-! YdE: comprehensions, enumerate, reversed, slices, list(range), calls of defs by promises over abstract values. -/
namespace Yd
open PySem L2

def wipeA (ρ : List A) : List Nat → List A
  | [] => ρ
  | v :: vs => (wipeA ρ vs).set v .un
theorem wipeA_length (ρ : List A) : ∀ vs : List Nat, (wipeA ρ vs).length = ρ.length
  | [] => rfl
  | v :: vs => by unfold wipeA; rw [List.length_set, wipeA_length ρ vs]
/-- [e for g in wi if wt]: I by the turn and what is made so far -/
def wLc (wi : WI) (g : WG) (wt : WT) (we : WE) (vs : List Nat) : WE := fun ρ Q => wi ρ fun items => ∃ I : Nat → List PyData → Prop, I 0 [] ∧
  (∀ i d acc, items[i]? = some d → I i acc → g d (wipeA ρ vs) fun ρ2 => wt ρ2 fun b => (b = true → we ρ2 fun r => match toD r with
    | some y => acc.length < sizeLine ∧ I (i + 1) (acc ++ [y])
    | none => False) ∧ (b = false → I (i + 1) acc)) ∧ ∀ acc, I items.length acc → Q (.own acc)
def wYes : WT := fun _ Q => Q true
/-- a target that stores within vs alone -/
def GW (vs : List Nat) (g : TG) : Prop := ∀ (v : V) (σ : St) (H : Hp) (K : St → Hp → Prop), g v σ H K → g v σ H fun σ' H' => K σ' H' ∧ wipe σ' vs = wipe σ vs
def GWs (vs : List Nat) (g : TGs) : Prop := ∀ (xs : List V) (σ : St) (H : Hp) (K : St → Hp → Prop), g xs σ H K → g xs σ H fun σ' H' => K σ' H' ∧ wipe σ' vs = wipe σ vs
theorem wipe_set_in (σ : St) (i : Nat) (x : Option V) : ∀ vs : List Nat, (i ∈ vs → wipe (σ.set i x) vs = wipe σ vs) ∧ (i ∉ vs → wipe (σ.set i x) vs = (wipe σ vs).set i x)
  | [] => ⟨fun h => (by cases h), fun _ => rfl⟩
  | v :: vs => by
    have ih := wipe_set_in σ i x vs
    constructor
    · intro h
      unfold wipe
      by_cases hi : i ∈ vs
      · rw [ih.1 hi]
      · have e : i = v := by
          rcases List.mem_cons.mp h with z | z
          · exact z
          · exact absurd z hi
        subst e
        rw [ih.2 hi, List.set_set]
    · intro h
      unfold wipe
      have h1 : i ∉ vs := fun z => h (List.mem_cons_of_mem _ z)
      have h2 : i ≠ v := fun z => h (by rw [z]; exact List.mem_cons_self)
      rw [ih.2 h1, List.set_comm _ _ h2]
theorem wipe_wipe (σ : St) (us : List Nat) : ∀ vs : List Nat, (∀ v ∈ vs, v ∈ us) → wipe (wipe σ vs) us = wipe σ us
  | [], _ => rfl
  | v :: vs, h => by
    show wipe ((wipe σ vs).set v none) us = _
    rw [(wipe_set_in _ v none us).1 (h v List.mem_cons_self)]
    exact wipe_wipe σ us vs fun w hw => h w (List.mem_cons_of_mem _ hw)
theorem gw_name {vs : List Nat} {i : Nat} (h : i ∈ vs) : GW vs (gName i) := fun v σ H K q => ⟨q, (wipe_set_in σ i (some v) vs).1 h⟩
theorem gw_nil {vs : List Nat} : GWs vs gNil := fun xs σ H K q => ⟨q.1, q.2, rfl⟩
theorem gw_cons {vs : List Nat} {g : TG} {gs : TGs} (h1 : GW vs g) (h2 : GWs vs gs) (mono : ∀ (v : V) (σ : St) (H : Hp) (K K' : St → Hp → Prop), (∀ σ' H', K σ' H' → K' σ' H') → g v σ H K → g v σ H K') (monos : ∀ (xs : List V) (σ : St) (H : Hp) (K K' : St → Hp → Prop), (∀ σ' H', K σ' H' → K' σ' H') → gs xs σ H K → gs xs σ H K') : GWs vs (gCons g gs) := fun xs σ H K q => by
  obtain ⟨v, r, e, q⟩ := q
  refine ⟨v, r, e, mono v σ H _ _ (fun σ' H' z => ?_) (h1 v σ H _ q)⟩
  exact monos r σ' H' _ _ (fun σ2 H2 y => ⟨y.1, y.2.trans z.2⟩) (h2 r σ' H' _ z.1)
theorem gw_tup {K0 : PySem.W.Frag} {vs : List Nat} {n : Nat} {gs : TGs} (h : GWs vs gs) : GW vs (gTup K0 n gs) := fun v σ H K q => by
  obtain ⟨a, xs, e1, e2, e3, q⟩ := q
  exact ⟨a, xs, e1, e2, e3, h xs σ H K q⟩
theorem mono_name {i : Nat} : ∀ (v : V) (σ : St) (H : Hp) (K K' : St → Hp → Prop), (∀ σ' H', K σ' H' → K' σ' H') → gName i v σ H K → gName i v σ H K' := fun _ _ _ _ _ h q => h _ _ q
theorem mono_nil : ∀ (v : List V) (σ : St) (H : Hp) (K K' : St → Hp → Prop), (∀ σ' H', K σ' H' → K' σ' H') → gNil v σ H K → gNil v σ H K' := fun _ _ _ _ _ h q => ⟨q.1, h _ _ q.2⟩
theorem mono_cons {g : TG} {gs : TGs} (h1 : ∀ (v : V) (σ : St) (H : Hp) (K K' : St → Hp → Prop), (∀ σ' H', K σ' H' → K' σ' H') → g v σ H K → g v σ H K') (h2 : ∀ (xs : List V) (σ : St) (H : Hp) (K K' : St → Hp → Prop), (∀ σ' H', K σ' H' → K' σ' H') → gs xs σ H K → gs xs σ H K') :
    ∀ (v : List V) (σ : St) (H : Hp) (K K' : St → Hp → Prop), (∀ σ' H', K σ' H' → K' σ' H') → gCons g gs v σ H K → gCons g gs v σ H K' := fun _ _ _ _ _ h ⟨v, r, e, q⟩ => ⟨v, r, e, h1 _ _ _ _ _ (fun σ' H' z => h2 _ _ _ _ _ h z) q⟩

section
variable {Γ : Gm} {ρ : List A} {σ : St} {F H F1 H1 F' H' : Hp}
theorem M.wipe (m : M Γ F ρ σ H) : ∀ vs : List Nat, M Γ F (wipeA ρ vs) (L2.wipe σ vs) H
  | [] => m
  | v :: vs => by
    have m1 := M.wipe m vs
    show M Γ F ((wipeA ρ vs).set v .un) ((L2.wipe σ vs).set v none) H
    refine ⟨m1.st, m1.gi0, by simp [m1.len], fun i a o h1 h2 => ?_, fun i j p h1 h2 => ?_, fun i x h1 => ?_⟩
    rotate_left 2
    · have hi : v ≠ i := fun hi => by
        subst hi
        obtain ⟨z1, e1⟩ := List.getElem?_eq_some_iff.mp h1
        rw [List.getElem_set_self] at e1
        cases e1
      rw [List.getElem?_set_ne hi] at h1
      obtain ⟨v2, Fs, ev, r2, ss, n⟩ := m1.fr i x h1
      refine ⟨v2, Fs, by rw [List.getElem?_set_ne hi]; exact ev, r2, ss, fun a qa => ?_⟩
      obtain ⟨n1, n2, n3, n4⟩ := n a qa
      refine ⟨n1, n2, n3, fun k hk => ?_⟩
      obtain ⟨⟨zs, q1⟩, q2⟩ := hk
      by_cases hik : v = k
      · subst hik
        obtain ⟨z1, e1⟩ := List.getElem?_eq_some_iff.mp q1
        rw [List.getElem_set_self] at e1
        cases e1
      · rw [List.getElem?_set_ne hik] at q1 q2
        exact n4 k ⟨⟨zs, q1⟩, q2⟩
    · by_cases hi : v = i
      · subst hi
        obtain ⟨z1, e1⟩ := List.getElem?_eq_some_iff.mp h1
        rw [List.getElem_set_self] at e1
        subst e1
        trivial
      · rw [List.getElem?_set_ne hi] at h1 h2
        exact m1.sl i a o h1 h2
    · have old : ∀ {j : Nat}, ownAt ((wipeA ρ vs).set v .un) ((L2.wipe σ vs).set v none) j p → ownAt (wipeA ρ vs) (L2.wipe σ vs) j p := fun {j} ⟨⟨zs, q1⟩, q2⟩ => by
        by_cases hj : v = j
        · subst hj
          obtain ⟨z1, e1⟩ := List.getElem?_eq_some_iff.mp q1
          rw [List.getElem_set_self] at e1
          cases e1
        · rw [List.getElem?_set_ne hj] at q1 q2
          exact ⟨⟨zs, q1⟩, q2⟩
      exact m1.dj i j p (old h1) (old h2)
theorem Stp.put {G : Gh} (s : Stp G F H F' H') {D : Addr} {o : HO} (h0 : H D = none) (hf : F' D = none) (nb : ¬ isBox G D) : Stp G F H F' (upd H' D o) := by
  refine ⟨s.ff, fun b u q => ?_, ?_, fun b u q n => ?_, s.new, s.box⟩
  · rw [upd_ne (ne_of_none q hf)]; exact s.fh b u q
  · exact s.gi.upd nb
  · rw [upd_ne (ne_of_none q h0)]; exact s.keep b u q n
theorem Stp.none_keep {G : Gh} (s : Stp G F H F' H') {D : Addr} {o : HO} (h : H D = some o) (hf : F D = none) : F' D = none := by
  cases e : F' D with
  | none => rfl
  | some u =>
    rcases s.new D (by rw [e]; simp) with z | z
    · exact absurd hf z
    · rw [h] at z; cases z
theorem sd_lc {ti : TI} {wi : WI} {g : TG} {wg : WG} {tt : TT} {wt : WT} {te : TE} {we : WE} {vs : List Nat} (hi : SndI Γ ti wi) (hg : SndG Γ g wg) (hv : GW vs g) (ht : SndT Γ tt wt) (he : SndE Γ te we) : SndE Γ (tLc ti g tt te vs) (wLc wi wg wt we vs) := fun ρ Q F σ H K m h k =>
  hi ρ _ F σ H _ m h fun F1 H1 J items s ok hI D hD => by
    obtain ⟨I, i0, turn, done⟩ := hI
    have hD0 : H D = none := s.none_back hD
    have nb : ¬ isBox Γ.G D := fun z => m.gi.box z hD0
    have sD : Stp Γ.G F H F1 (upd H1 D (.lst [])) := s.put hD0 (s.fh.free hD) nb
    refine ⟨fun i mm H' => mm = items.length - i ∧ i ≤ items.length ∧ ∃ F' acc av, Same F1 F' ∧ Stp Γ.G F H F' H' ∧ H' D = some (.lst av) ∧ RpL F' av acc ∧ F' D = none ∧ I i acc,
      ⟨_, rfl, Nat.zero_le _, F1, [], [], Same.refl _, sD, upd_same, .nil, s.fh.free hD, i0⟩, ?_⟩
    rintro i mm H' ⟨rfl, hi, F', acc, av, ss, st, hd, hl, fd, iv⟩
    have m' := m.step st
    have o := ok F' H' ss st.fh st.gi st.box i
    by_cases hlt : i < items.length
    · obtain ⟨go, yl⟩ := o.2 items[i] (List.getElem?_eq_getElem hlt)
      refine .inr ⟨go, fun H2 => ∃ F2 acc2 av2, Same F1 F2 ∧ Stp Γ.G F H F2 H2 ∧ H2 D = some (.lst av2) ∧ RpL F2 av2 acc2 ∧ F2 D = none ∧ I (i + 1) acc2, fun H2 ⟨F2, a2, v2, q⟩ => ⟨_, (by omega : items.length - (i + 1) < items.length - i), rfl, hlt, F2, a2, v2, q⟩, fun x H'' y => ?_⟩
      obtain ⟨F'', st2, rx⟩ := yl x H'' y
      have m2 := (m'.step st2).wipe vs
      have hd2 : H'' D = some (.lst av) := st2.keep D _ hd nb
      have fd2 : F'' D = none := st2.none_keep hd fd
      have st12 := st.trans m.gi st2
      have hgo := hg items[i] (wipeA ρ vs) _ F'' (L2.wipe σ vs) H'' x (fun σ2 H2 => tt σ2 H2 fun b H3 => if b = true then te σ2 H3 fun y H4 => ∃ acc, H4 D = some (.lst acc) ∧ acc.length < sizeLine ∧ (∃ F2 acc2 av2, Same F1 F2 ∧ Stp Γ.G F H F2 (upd H4 D (.lst (acc ++ [y]))) ∧ (upd H4 D (.lst (acc ++ [y]))) D = some (.lst av2) ∧ RpL F2 av2 acc2 ∧ F2 D = none ∧ I (i + 1) acc2)
          else ∃ F2 acc2 av2, Same F1 F2 ∧ Stp Γ.G F H F2 H3 ∧ H3 D = some (.lst av2) ∧ RpL F2 av2 acc2 ∧ F2 D = none ∧ I (i + 1) acc2) m2 rx (turn i _ acc (List.getElem?_eq_getElem hlt) iv) fun ρ2 σ2 m3 hb2 => ?_
      · have := hv x (L2.wipe σ vs) H'' _ hgo
        refine cast ?_ this
        congr 1
        funext σ2 H2
        rw [wipe_wipe σ vs vs fun _ z => z]
        exact propext ⟨fun z => ⟨z.2, z.1⟩, fun z => ⟨z.2, z.1⟩⟩
      · refine ht ρ2 _ F'' σ2 H'' _ m3 hb2 fun F3 H3 b s3 p3 => ?_
        have hd3 : H3 D = some (.lst av) := s3.keep D _ hd2 nb
        have fd3 : F3 D = none := s3.none_keep hd2 fd2
        have st3 := st12.trans m.gi s3
        have up3 : Same F1 F3 := (ss.trans st2.ff).trans s3.ff
        cases b with
        | true =>
          refine iteT (he ρ2 _ F3 σ2 H3 _ (m3.step s3) (p3.1 rfl) fun F4 H4 v r s4 q4 p4 => ?_)
          split at p4
          · rename_i yd ed
            obtain ⟨F5, k5, s5, a5⟩ := q4.freeze s3.gi (toD_fz ed) s4 (Same.refl _)
            have hd5 : H4 D = some (.lst av) := s5.keep D _ hd3 nb
            have fd5 : F5 D = none := s5.none_keep hd3 fd3
            have st5 := st3.trans m.gi s5
            exact ⟨av, hd5, by rw [hl.length]; exact p4.1, F5, acc ++ [yd], av ++ [v], up3.trans s5.ff, st5.put hD0 fd5 nb, upd_same, (hl.up (((st2.ff.trans s3.ff)).trans s5.ff)).append (.one a5), fd5, p4.2⟩
          · exact p4.elim
        | false => exact iteF ⟨F3, acc, av, up3, st3, hd3, hl.up (st2.ff.trans s3.ff), fd3, p3.2 rfl⟩
    · have e : i = items.length := by omega
      subst e
      have f0 : F D = none := m.fh.free hD0
      exact .inl ⟨o.1 (Nat.le_refl _), k F' H' (.ref D) (.own acc) st ⟨D, av, rfl, hD0, fd, hd, hl⟩ (done acc iv)⟩
theorem st_yes : SndT Γ tYes wYes := fun ρ Q F σ H K m h k => k F H true m.stp h

/-! ### enumerate, reversed -/
theorem itok_enum {K : PySem.W.Frag} {F : Hp} {a : Addr} {vs : List V} {ds : List PyData} (h : F a = some (.lst vs)) (l : RpL F vs ds) : ItOk Γ (Ite K a) (enD ds) F := fun F' H' s s' gi bx i => by
  have h' : H' a = some (.lst vs) := s' _ _ (s _ _ h)
  refine ⟨fun hi => ⟨vs, SqL.of h', by rw [l.length]; simpa [enD] using hi⟩, fun d e => ?_⟩
  unfold enD at e
  rw [List.getElem?_mapIdx] at e
  obtain ⟨d0, e0, rfl⟩ := Option.map_eq_some_iff.mp e
  obtain ⟨v, ev, rv⟩ := l.get e0
  refine ⟨⟨vs, v, SqL.of h', ev⟩, fun x H'' y => ?_⟩
  obtain ⟨T, x0, rfl, hT, rfl, y⟩ := y
  have e2 := y vs (SqL.of h')
  rw [ev] at e2; cases e2
  have st := Stp.new1 (o := .tup [.int (i : Nat), v]) s' gi bx hT
  exact ⟨_, st, Rp.tup upd_same (.cons (Rp.int _) (.one ((rv.up s).up st.ff)))⟩
theorem itok_rev {K : PySem.W.Frag} {F : Hp} {a : Addr} {vs : List V} {ds : List PyData} (h : F a = some (.lst vs)) (l : RpL F vs ds) : ItOk Γ (Itv K a vs.length) ds.reverse F := fun F' H' s s' gi bx i => by
  have h' : H' a = some (.lst vs) := s' _ _ (s _ _ h)
  refine ⟨fun hi => by show vs.length ≤ i; rw [l.length]; simpa using hi, fun d e => ?_⟩
  obtain ⟨hl, _⟩ := List.getElem?_eq_some_iff.mp e
  rw [List.length_reverse] at hl
  rw [List.getElem?_reverse hl] at e
  obtain ⟨v, ev, rv⟩ := l.get e
  rw [← l.length] at ev hl
  refine ⟨⟨hl, vs, v, SqL.of h', ev⟩, fun x H'' y => ?_⟩
  obtain ⟨rfl, y⟩ := y
  have e2 := y vs (SqL.of h')
  rw [ev] at e2; cases e2
  exact ⟨F', Stp.refl s' gi bx, rv.up s⟩
theorem listArg {ta : TA} {wa : WA} {K : PySem.W.Frag} {ρ : List A} {F H : Hp} {F1 H1 : Hp} {vs : List V} {r : A} {ds : List PyData} (m : M Γ F ρ σ H) (s : Stp Γ.G F H F1 H1) (q : ResL Γ ρ σ F H F1 H1 vs [r]) (e : toD r = some (.list ds)) :
    ∃ a ws F2, vs = [.ref a] ∧ F2 a = some (.lst ws) ∧ RpL F2 ws ds ∧ Stp Γ.G F H F2 H1 := by
  cases q with
  | cons q1 t => cases t with
    | nil =>
      obtain ⟨F2, k2, s2, a2⟩ := q1.freeze m.gi (toD_fz e) s (Same.refl _)
      cases (show Rp F2 _ (.list ds) from a2) with
      | lst ha hl => exact ⟨_, _, F2, rfl, ha, hl, s2⟩
theorem si_enum {K : PySem.W.Frag} {ta : TA} {wa : WA} (h : SndA Γ ta wa) : SndI Γ (iEnum K ta) (wEnum wa) := fun ρ Q F σ H R m q k =>
  h ρ _ F σ H _ m q fun F1 H1 vs rs s r p => by
    split at p
    · obtain ⟨a, ws, F2, rfl, ha, hl, s2⟩ := listArg (ta := ta) (wa := wa) (K := K) m s r rfl
      exact ⟨a, ws, rfl, SqL.of (s2.fh _ _ ha), k F2 H1 _ _ s2 (itok_enum ha hl) p⟩
    · obtain ⟨a, ws, F2, rfl, ha, hl, s2⟩ := listArg (ta := ta) (wa := wa) (K := K) m s r rfl
      exact ⟨a, ws, rfl, SqL.of (s2.fh _ _ ha), k F2 H1 _ _ s2 (itok_enum ha hl) p⟩
    · exact p.elim
theorem si_rev {K : PySem.W.Frag} {ta : TA} {wa : WA} (h : SndA Γ ta wa) : SndI Γ (iRev K ta) (wRev wa) := fun ρ Q F σ H R m q k =>
  h ρ _ F σ H _ m q fun F1 H1 vs rs s r p => by
    split at p
    · obtain ⟨a, ws, F2, rfl, ha, hl, s2⟩ := listArg (ta := ta) (wa := wa) (K := K) m s r rfl
      exact ⟨a, ws, rfl, SqL.of (s2.fh _ _ ha), k F2 H1 _ _ s2 (itok_rev ha hl) p⟩
    · obtain ⟨a, ws, F2, rfl, ha, hl, s2⟩ := listArg (ta := ta) (wa := wa) (K := K) m s r rfl
      exact ⟨a, ws, rfl, SqL.of (s2.fh _ _ ha), k F2 H1 _ _ s2 (itok_rev ha hl) p⟩
    · exact p.elim
end

/-! ### slices, list(range) -/
abbrev WO := List A → (Option Int → Prop) → Prop
def SndO (Γ : Gm) (t : TO) (w : WO) : Prop := ∀ (ρ : List A) (Q : Option Int → Prop) (F : Hp) (σ : St) (H : Hp) (K : Option Int → Hp → Prop), M Γ F ρ σ H → w ρ Q → (∀ F' H' o, Stp Γ.G F H F' H' → Q o → K o H') → t σ H K
structure PDO (X : Cx) (Γ : Gm) (e : Option Expr) (t : TO) (w : WO) : Prop where
  po : PO X e t
  sd : SndO Γ t w
def wNoPart : WO := fun _ Q => Q none
def wPart (e : WE) : WO := fun ρ Q => e ρ fun r => match r with
  | .d (.int i) => Q (some i)
  | _ => False
def wSl (e : WE) (lo hi : WO) : WE := fun ρ Q => e ρ fun r => lo ρ fun l => hi ρ fun h => slA r l h Q
def wLstRg (e : List A → (Int → Int → Prop) → Prop) : WE := fun ρ Q => e ρ fun a b => RgOk a b ∧ Q (.own (rgD a (b - a).toNat))
def wRg1 (e : WE) : List A → (Int → Int → Prop) → Prop := fun ρ Q => e ρ fun r => match r with
  | .d (.int n) => Q 0 n
  | _ => False
def wRg2 (e1 e2 : WE) : List A → (Int → Int → Prop) → Prop := fun ρ Q => e1 ρ fun r => e2 ρ fun q => match r, q with
  | .d (.int i), .d (.int j) => Q i j
  | _, _ => False
def SndRg (Γ : Gm) (t : St → Hp → (Int → Int → Hp → Prop) → Prop) (w : List A → (Int → Int → Prop) → Prop) : Prop := ∀ (ρ : List A) (Q : Int → Int → Prop) (F : Hp) (σ : St) (H : Hp) (K : Int → Int → Hp → Prop), M Γ F ρ σ H → w ρ Q → (∀ F' H' a b, Stp Γ.G F H F' H' → Q a b → K a b H') → t σ H K
section
variable {X : Cx} {Γ : Gm} {K : PySem.W.Frag} {te t1 t2 : TE} {we w1 w2 : WE} {tl th : TO} {wl wh : WO}
theorem so_none : SndO Γ tNoPart wNoPart := fun ρ Q F σ H K m h k => k F H none m.stp h
theorem so_some (h : SndE Γ te we) : SndO Γ (tPart te) (wPart we) := fun ρ Q F σ H K m q k =>
  h ρ _ F σ H _ m q fun F1 H1 v r s q1 p => by
    split at p
    · cases (show Rp F1 v (.int _) from q1)
      exact ⟨_, rfl, k F1 H1 _ s p⟩
    · exact p.elim
theorem sd_sl (h : SndE Γ te we) (hl : SndO Γ tl wl) (hh : SndO Γ th wh) : SndE Γ (tSl (fun x lo hi H Q => rSlL K x lo hi H Q ∨ rSlT K x lo hi H Q) te tl th) (wSl we wl wh) := fun ρ Q F σ H K0 m q k =>
  h ρ _ F σ H _ m q fun F1 H1 v r s1 q1 p1 => hl ρ _ F1 σ H1 _ (m.step s1) p1 fun F2 H2 lo s2 p2 => hh ρ _ F2 σ H2 _ ((m.step s1).step s2) p2 fun F3 H3 hi s3 p3 => by
    have s12 := s1.trans m.gi s2
    have s := s12.trans m.gi s3
    have m3 := m.step s
    have q3 := (q1.step m.gi s1 s2).step m.gi s12 s3
    unfold slA at p3
    split at p3
    · rename_i xs
      obtain ⟨p, vs, rfl, f1, h1, l1⟩ := q3.tupl m3
      refine .inr ⟨p, vs, rfl, SqT.of h1, by rw [l1.length]; exact p3.1, fun t ht => ?_⟩
      have s4 := Stp.new1 (o := .tup (cutV vs lo hi)) s.fh s.gi s.box ht
      exact k _ _ _ (.tup _) (s.trans m.gi s4) (Rp.tup upd_same ((l1.cutV lo hi).up s4.ff)) p3.2
    · split at p3
      · rename_i xs e
        obtain ⟨p, vs, rfl, h1, l1⟩ := q3.list m3 e
        refine .inl ⟨p, vs, rfl, SqL.of h1, fun t ht => ?_⟩
        have s4 := Stp.new0 (o := .lst (cutV vs lo hi)) s.fh s.gi s.box ht
        exact k _ _ _ (.own _) (s.trans m.gi s4) ⟨t, _, rfl, s.none_back ht, s.fh.free ht, upd_same, l1.cutV lo hi⟩ p3
      · exact p3.elim
theorem sg_rg1 (h : SndE Γ te we) : SndRg Γ (tRg1 te) (wRg1 we) := fun ρ Q F σ H K m q k =>
  h ρ _ F σ H _ m q fun F1 H1 v r s q1 p => by
    split at p
    · cases (show Rp F1 v (.int _) from q1)
      exact ⟨_, rfl, k F1 H1 _ _ s p⟩
    · exact p.elim
theorem sg_rg2 (h : SndE Γ t1 w1) (h2 : SndE Γ t2 w2) : SndRg Γ (tRg2 t1 t2) (wRg2 w1 w2) := fun ρ Q F σ H K m q k =>
  h ρ _ F σ H _ m q fun F1 H1 v r s q1 p => h2 ρ _ F1 σ H1 _ (m.step s) p fun F2 H2 v2 r2 s2 q2 p2 => by
    split at p2
    · cases (show Rp F1 v (.int _) from q1)
      cases (show Rp F2 v2 (.int _) from q2)
      exact ⟨_, _, rfl, rfl, k F2 H2 _ _ (s.trans m.gi s2) p2⟩
    · exact p2.elim
theorem rp_rg {F : Hp} (a b : Int) : RpL F (rgV a b) (rgD a (b - a).toNat) := by
  have e1 : rgV a b = ((List.range (b - a).toNat).map fun i => a + ((i : Nat) : Int)).map V.int := by unfold rgV; rw [List.map_map]; rfl
  have e2 : rgD a (b - a).toNat = ((List.range (b - a).toNat).map fun i => a + ((i : Nat) : Int)).map PyData.int := by unfold rgD; rw [List.map_map]; rfl
  rw [e1, e2]
  exact RpL.ints _
theorem sd_lstRg {t : St → Hp → (Int → Int → Hp → Prop) → Prop} {w : List A → (Int → Int → Prop) → Prop} (h : SndRg Γ t w) : SndE Γ (tLstRg t) (wLstRg w) := fun ρ Q F σ H K m q k =>
  h ρ _ F σ H _ m q fun F1 H1 a b s p => by
    refine ⟨p.1, fun x hx => ?_⟩
    have s2 := Stp.new0 (o := .lst (rgV a b)) s.fh s.gi s.box hx
    exact k _ _ _ (.own _) (s.trans m.gi s2) ⟨x, _, rfl, s.none_back hx, s.fh.free hx, upd_same, rp_rg a b⟩ p.2
end

/-! ### promises of defs -/
abbrev Spc := List A → (A → Prop) → Prop
/-- a promise over abstract values: it makes new things, draws from the box, and changes nothing else -/
def spA (C : Addr) (spec : Spc) : Sp := fun vs H Q _ => ∃ (G : Gh) (F : Hp) (as : List A) (P : A → Prop), Same F H ∧ gInv G H ∧ (∀ a, isBox G a → F a = none) ∧ ArgsR G C F vs as ∧ spec as P ∧
  ∀ F' H' v r, Stp G F H F' H' → RetR G C H F' H' v r → P r → Q v H'
def wCall (spec : Spc) (wa : WA) : WE := fun ρ Q => wa ρ fun rs => match fzs rs with
  | some as => spec as Q
  | none => False
theorem ret_res {Γ : Gm} {ρ : List A} {σ : St} {F H F1 H1 F2 H2 : Hp} {v : V} {r : A} (s : Stp Γ.G F H F1 H1) (q : RetR Γ.G Γ.C H1 F2 H2 v r) : Res Γ ρ σ F H F2 H2 v r := by
  cases r with
  | un => exact q.elim
  | bor _ _ => exact q.elim
  | fr _ => exact q.elim
  | dct _ _ => exact q.elim
  | own xs =>
    obtain ⟨p, vs, e, h1, h2, h3, h4⟩ := q
    exact ⟨p, vs, e, s.none_back h1, h2, h3, h4⟩
  | _ => exact q
section
variable {X : Cx} {Γ : Gm} {K : PySem.W.Frag} {ta : TA} {wa : WA} {te : TE} {we : WE} {spec : Spc} {E : XK}
theorem sd_call (h : SndA Γ ta wa) : SndE Γ (tCall (spA Γ.C spec) [] E ta) (wCall spec wa) := fun ρ Q F σ H K m q k =>
  h ρ _ F σ H _ m q fun F1 H1 vs rs s r p => by
    split at p
    · rename_i as e
      obtain ⟨F2, k2, s2, a2⟩ := r.freeze m.gi e s (Same.refl _)
      refine ⟨Γ.G, F2, as, Q, s2.fh, s2.gi, s2.box, by rw [List.append_nil]; exact a2, p, fun F' H' v r' st q' hq => ?_⟩
      exact k F' H' v r' (s2.trans m.gi st) (ret_res s2 q') hq
    · exact p.elim
end
theorem spA_len {C : Addr} {spec : Spc} {n : Nat} (hl : ∀ as P, spec as P → as.length = n) {vs : List V} {H : Hp} {Q : VK} {E : XK} (h : spA C spec vs H Q E) : vs.length = n := by
  obtain ⟨G, F, as, P, _, _, _, a, s, _⟩ := h
  rw [a.length]
  exact hl as P s
def startA (n : Nat) (as : List A) : List A := as ++ List.replicate (n - as.length) .un
theorem start_m {G : Gh} {C : Addr} {F H : Hp} {vs : List V} {as : List A} {N : List Str} (fh : Same F H) (gi : gInv G H) (bx : ∀ a, isBox G a → F a = none) (r : ArgsR G C F vs as) : M ⟨G, C, F, H⟩ F (startA N.length as) (start N vs) H := by
  have hl := r.length
  have at_ : ∀ (i : Nat) (a : A), as[i]? = some a → ∃ v, vs[i]? = some v ∧ ArgR G C F v a := by
    clear hl
    intro i a h
    induction r generalizing i with
    | nil => simp at h
    | cons r1 t ih =>
      cases i with
      | zero => simp at h; subst h; exact ⟨_, rfl, r1⟩
      | succ i => exact ih i (by simpa using h)
  have slot : ∀ (i : Nat) (a : A) (o : Option V), (startA N.length as)[i]? = some a → (start N vs)[i]? = some o → (∃ v, o = some v ∧ ArgR G C F v a) ∨ a = .un := by
    intro i a o h1 h2
    unfold startA at h1
    unfold L2.start at h2
    by_cases hi : i < as.length
    · rw [List.getElem?_append_left hi] at h1
      rw [List.getElem?_append_left (by simpa [hl] using hi), List.getElem?_map] at h2
      obtain ⟨v, ev, rv⟩ := at_ i a h1
      rw [ev] at h2
      exact .inl ⟨v, (Option.some.inj h2).symm, rv⟩
    · rw [List.getElem?_append_right (by omega), List.getElem?_replicate] at h1
      split at h1
      · exact .inr (Option.some.inj h1).symm
      · cases h1
  refine ⟨Stp.refl fh gi bx, gi, ?_, fun i a o h1 h2 => ?_, fun i j p h1 h2 => ?_, fun i x h1 => ?_⟩
  rotate_left 3
  · obtain ⟨o, ho⟩ : ∃ o, (start N vs)[i]? = some o := by
      have hl' : (start N vs).length = (startA N.length as).length := by
        unfold L2.start startA
        rw [List.length_append, List.length_append, List.length_map, List.length_replicate, List.length_replicate, hl]
      exact ⟨_, List.getElem?_eq_getElem (by rw [hl']; exact (List.getElem?_eq_some_iff.mp h1).1)⟩
    rcases slot i _ _ h1 ho with ⟨v, _, q⟩ | z
    · exact q.elim
    · cases z
  · unfold L2.start startA
    rw [List.length_append, List.length_append, List.length_map, List.length_replicate, List.length_replicate, hl]
  · rcases slot i a o h1 h2 with ⟨v, rfl, q⟩ | rfl
    · cases a with
      | un => trivial
      | d x => exact ⟨v, rfl, q⟩
      | own xs => exact q.elim
      | bor _ _ => exact q.elim
      | yard mm kk => exact ⟨v, rfl, q⟩
      | k x => exact ⟨v, rfl, q⟩
      | fr x => exact q.elim
      | dct _ _ => exact q.elim
      | box =>
        obtain ⟨b, l, e, rfl⟩ := q
        exact ⟨b, l, e, rfl⟩
      | raw u =>
        have e : v = u := q
        subst e
        exact rfl
    · trivial
  · obtain ⟨⟨xs, e1⟩, e2⟩ := h1
    rcases slot i _ _ e1 e2 with ⟨v, _, q⟩ | z
    · exact q.elim
    · cases z
/-- THE RULE for a def's body: its derivation, and its transformer at the arguments -/
theorem body_of {X : Cx} {C : Addr} {spec : Spc} {body : List Stmt} {N : List Str} {vs : List V} {H : Hp} {Q : VK} {E : XK} (h : spA C spec vs H Q E)
    (d : ∀ (G : Gh) (F : Hp) (as : List A) (P : A → Prop), spec as P → ∃ t w, PDSs X ⟨G, C, F, H⟩ body t w ∧ w (startA N.length as) { nx := fun _ => P .non, rt := P }) :
    ∃ t, PSs X body t ∧ t { nx := fun _ H' => Q .non H', rt := Q } (start N vs) H := by
  obtain ⟨G, F, as, P, fh, gi, bx, a, sp, k⟩ := h
  obtain ⟨t, w, pd, hw⟩ := d G F as P sp
  refine ⟨t, pd.ps, ?_⟩
  have m := start_m (N := N) fh gi bx a
  exact pd.sd _ _ F _ H _ m hw ⟨fun F' σ' H' ρ' s m' q => k F' H' .non .non m'.st Rp.non q, fun F' H' v r s st q p => k F' H' v r st q p, fun _ _ _ _ _ _ z => z.elim, fun _ _ _ _ _ _ z => z.elim⟩
end Yd

/-! YdF: the rules for syntax: a derivation term of them gives a def's body its transformer. -/
namespace Yd
open PySem L2 PyProof.Rows

theorem room64 {k : Nat} {A : Around} (r : Room k A) : A.units + 64 < cLine := by have := r.un; omega
theorem room65 {k : Nat} {A : Around} (r : Room k A) : A.units + 65 < cLine := by have := r.un; omega
section
variable {X : Cx} {Γ : Gm} {e a b c o : Expr} {es : List Expr} {te ta tb tc to t1 t2 : TE} {tA : TA} {tt tu : TT} {we wa wb wc wo w1 w2 : WE} {wA : WA} {wt wu : WT} {pos p p2 pos2 apos : Pos} {rest : List Expr}
theorem pd_var (i : Nat) {x : Str} (hN : X.N[i]? = some x := by rfl) (hv : Vis X.env.scope x := by first | exact Or.inl rfl | exact Or.inr (Or.inl rfl) | exact Or.inr (Or.inr rfl)) (hd : (x == ("__debug__" : Str)) = false := by decide)
    (hcd : (x == ("__classdict__" : Str)) = false := by decide) : PD X Γ (.Name x pos) (tVar i) (wName i) := ⟨pe_var hN hv hd hcd, sd_name i⟩
theorem pd_int {i : Int} {j} : PD X Γ (.Constant (.int i) j pos) (tC (.int i)) (wC (.int i)) := ⟨pe_int, sd_c fun _ => .int i⟩
theorem pd_str {i : Str} {j} : PD X Γ (.Constant (.str i) j pos) (tC (.str i)) (wC (.str i)) := ⟨pe_str, sd_c fun _ => .str i⟩
theorem pd_bl {i : Bool} {j} : PD X Γ (.Constant (.bool i) j pos) (tC (.bl i)) (wC (.bl i)) := ⟨pe_bl, sd_c fun _ => .bl i⟩
theorem pd_non {j} : PD X Γ (.Constant .none j pos) (tC .non) (wC .non) := ⟨pe_non, sd_c fun _ => .non⟩
/-- a module's constant int -/
theorem pd_gint {x : Str} {i : Int} (hm : ∃ tk, X.mg x = some (.int i tk)) (hg : Gl X x := by rfl) (hd : (x == ("__debug__" : Str)) = false := by decide) : PD X Γ (.Name x pos) (tC (.int i)) (wC (.int i)) := by
  obtain ⟨tk, hm⟩ := hm
  exact ⟨pe_glob hg hm ⟨_, rfl⟩ hd, sd_c fun _ => .int i⟩
theorem pd_add {K : PySem.W.Frag} (ha : PD X Γ a ta wa) (hb : PD X Γ b tb wb) (hK : X.K = K := by rfl) : PD X Γ (.BinOp a .Add b pos) (tOp (fun x y H Q => rI0 (fun i j => .int (i + j)) x y H Q ∨ (∃ i j, x = .str i ∧ y = .str j ∧ i.length + j.length ≤ sizeLine ∧ Q (.str (i ++ j)) H) ∨ rCatT K x y H Q ∨ rCat x y H Q) ta tb) (wOp addA wa wb) := by
  subst hK
  exact ⟨pe_op (op_add.or (op_add_str.or (op_catT.or op_cat))) ha.pe hb.pe, sd_op snd_add ha.sd hb.sd⟩
def pd_sub (ha : PD X Γ a ta wa) (hb : PD X Γ b tb wb) :=
  (⟨pe_op op_sub ha.pe hb.pe, sd_op snd_sub ha.sd hb.sd⟩ : PD X Γ (.BinOp a .Sub b pos) (tOp _ ta tb) (wOp subA wa wb))
def pd_mul (ha : PD X Γ a ta wa) (hb : PD X Γ b tb wb) :=
  (⟨pe_op (op_mul.or op_rep) ha.pe hb.pe, sd_op snd_mul ha.sd hb.sd⟩ : PD X Γ (.BinOp a .Mult b pos) (tOp _ ta tb) (wOp mulA wa wb))
def pd_fdiv (ha : PD X Γ a ta wa) (hb : PD X Γ b tb wb) :=
  (⟨pe_op op_fdiv ha.pe hb.pe, sd_op snd_fdiv ha.sd hb.sd⟩ : PD X Γ (.BinOp a .FloorDiv b pos) (tOp _ ta tb) (wOp fdivA wa wb))
def pd_mod (ha : PD X Γ a ta wa) (hb : PD X Γ b tb wb) :=
  (⟨pe_op op_mod ha.pe hb.pe, sd_op snd_mod ha.sd hb.sd⟩ : PD X Γ (.BinOp a .Mod b pos) (tOp _ ta tb) (wOp modA wa wb))
def pd_neg (ha : PD X Γ a ta wa) :=
  (⟨pe_un un_neg ha.pe, sd_un snd_neg ha.sd⟩ : PD X Γ (.UnaryOp .USub a pos) (tUn _ ta) (wUn negA wa))
/-! comparisons: as values (pd_), as tests (pt_) -/
theorem pd_cmp {op : CmpOp} {r : R2} {f : A → A → (A → Prop) → Prop} (ho : OpR X (compareOp op) r) (hr : SndR Γ r f) (hm : behindInMarks op b = false) (ha : PD X Γ a ta wa) (hb : PD X Γ b tb wb) : PD X Γ (.Compare a [op] [b] pos) (tOp r ta tb) (wOp f wa wb) := ⟨pe_cmpR ho ha.pe hb.pe hm, sd_op hr ha.sd hb.sd⟩
theorem pdt_cmp {op : CmpOp} {r : R2} {f : A → A → (A → Prop) → Prop} (ho : OpR X (compareOp op) r) (hr : SndR Γ r f) (hm : behindInMarks op b = false) (ha : PD X Γ a ta wa) (hb : PD X Γ b tb wb) : PDT X Γ (.Compare a [op] [b] pos) (tTest (tOp r ta tb)) (wTest (wOp f wa wb)) := ⟨pt_cmpR ho ha.pe hb.pe hm, sd_test (sd_op hr ha.sd hb.sd)⟩
def pd_lt (ha : PD X Γ a ta wa) (hb : PD X Γ b tb wb) :=
  (pd_cmp op_lt snd_cmp (nomark _) ha hb : PD X Γ (.Compare a [.Lt] [b] pos) _ (wOp ltA wa wb))
def pd_le (ha : PD X Γ a ta wa) (hb : PD X Γ b tb wb) :=
  (pd_cmp op_le snd_cmp (nomark _) ha hb : PD X Γ (.Compare a [.LtE] [b] pos) _ (wOp leA wa wb))
def pd_gt (ha : PD X Γ a ta wa) (hb : PD X Γ b tb wb) :=
  (pd_cmp op_gt snd_cmp (nomark _) ha hb : PD X Γ (.Compare a [.Gt] [b] pos) _ (wOp gtA wa wb))
def pd_ge (ha : PD X Γ a ta wa) (hb : PD X Γ b tb wb) :=
  (pd_cmp op_ge snd_cmp (nomark _) ha hb : PD X Γ (.Compare a [.GtE] [b] pos) _ (wOp geA wa wb))
theorem pd_eq {K : PySem.W.Frag} {k : Nat} (hr : Room k X.A) (ha : PD X Γ a ta wa) (hb : PD X Γ b tb wb) (hK : X.K = K := by rfl) : PD X Γ (.Compare a [.Eq] [b] pos) (tOp (fun x y H Q => rEqD K x y H Q ∨ rEq x y H Q) ta tb) (wOp eqA wa wb) := by
  subst hK
  exact pd_cmp ((op_eqD (room64 hr)).or op_eq) (snd_eq (K := X.K)) (nomark _) ha hb
theorem pd_ne {K : PySem.W.Frag} {k : Nat} (hr : Room k X.A) (ha : PD X Γ a ta wa) (hb : PD X Γ b tb wb) (hK : X.K = K := by rfl) : PD X Γ (.Compare a [.NotEq] [b] pos) (tOp (fun x y H Q => rNeD K x y H Q ∨ rNe x y H Q) ta tb) (wOp neA wa wb) := by
  subst hK
  exact pd_cmp ((op_neD (room64 hr)).or op_ne) (snd_ne (K := X.K)) (nomark _) ha hb
def pd_is (ha : PD X Γ a ta wa) (hb : PD X Γ b tb wb) :=
  (pd_cmp op_isN snd_is (nomark _) ha hb : PD X Γ (.Compare a [.Is] [b] pos) _ (wOp isA wa wb))
def pd_isnot (ha : PD X Γ a ta wa) (hb : PD X Γ b tb wb) :=
  (pd_cmp op_notN snd_not (nomark _) ha hb : PD X Γ (.Compare a [.IsNot] [b] pos) _ (wOp notA wa wb))
theorem pd_in {K : PySem.W.Frag} {k : Nat} (hr : Room k X.A) (ha : PD X Γ a ta wa) (hb : PD X Γ b tb wb) (hm : behindInMarks .In b = false := by rfl) (hK : X.K = K := by rfl) : PD X Γ (.Compare a [.In] [b] pos) (tOp (fun x y H Q => rInD K x y H Q ∨ rIn K false x y H Q) ta tb) (wOp (inA false) wa wb) := by
  subst hK
  exact pd_cmp ((op_inD (room65 hr)).or op_in_seq) (snd_in (K := X.K)) hm ha hb
theorem pd_nin {K : PySem.W.Frag} {k : Nat} (hr : Room k X.A) (ha : PD X Γ a ta wa) (hb : PD X Γ b tb wb) (hm : behindInMarks .NotIn b = false := by rfl) (hK : X.K = K := by rfl) : PD X Γ (.Compare a [.NotIn] [b] pos) (tOp (fun x y H Q => rNotInD K x y H Q ∨ rIn K true x y H Q) ta tb) (wOp (inA true) wa wb) := by
  subst hK
  exact pd_cmp ((op_notInD (room65 hr)).or op_notIn_seq) (snd_nin (K := X.K)) hm ha hb
def pt_lt (ha : PD X Γ a ta wa) (hb : PD X Γ b tb wb) :=
  (pdt_cmp op_lt snd_cmp (nomark _) ha hb : PDT X Γ (.Compare a [.Lt] [b] pos) _ (wTest (wOp ltA wa wb)))
def pt_le (ha : PD X Γ a ta wa) (hb : PD X Γ b tb wb) :=
  (pdt_cmp op_le snd_cmp (nomark _) ha hb : PDT X Γ (.Compare a [.LtE] [b] pos) _ (wTest (wOp leA wa wb)))
def pt_gt (ha : PD X Γ a ta wa) (hb : PD X Γ b tb wb) :=
  (pdt_cmp op_gt snd_cmp (nomark _) ha hb : PDT X Γ (.Compare a [.Gt] [b] pos) _ (wTest (wOp gtA wa wb)))
def pt_ge (ha : PD X Γ a ta wa) (hb : PD X Γ b tb wb) :=
  (pdt_cmp op_ge snd_cmp (nomark _) ha hb : PDT X Γ (.Compare a [.GtE] [b] pos) _ (wTest (wOp geA wa wb)))
theorem pt_eq {K : PySem.W.Frag} {k : Nat} (hr : Room k X.A) (ha : PD X Γ a ta wa) (hb : PD X Γ b tb wb) (hK : X.K = K := by rfl) : PDT X Γ (.Compare a [.Eq] [b] pos) (tTest (tOp (fun x y H Q => rEqD K x y H Q ∨ rEq x y H Q) ta tb)) (wTest (wOp eqA wa wb)) := by
  subst hK
  exact pdt_cmp ((op_eqD (room64 hr)).or op_eq) (snd_eq (K := X.K)) (nomark _) ha hb
theorem pt_ne {K : PySem.W.Frag} {k : Nat} (hr : Room k X.A) (ha : PD X Γ a ta wa) (hb : PD X Γ b tb wb) (hK : X.K = K := by rfl) : PDT X Γ (.Compare a [.NotEq] [b] pos) (tTest (tOp (fun x y H Q => rNeD K x y H Q ∨ rNe x y H Q) ta tb)) (wTest (wOp neA wa wb)) := by
  subst hK
  exact pdt_cmp ((op_neD (room64 hr)).or op_ne) (snd_ne (K := X.K)) (nomark _) ha hb
def pt_is (ha : PD X Γ a ta wa) (hb : PD X Γ b tb wb) :=
  (pdt_cmp op_isN snd_is (nomark _) ha hb : PDT X Γ (.Compare a [.Is] [b] pos) _ (wTest (wOp isA wa wb)))
def pt_isnot (ha : PD X Γ a ta wa) (hb : PD X Γ b tb wb) :=
  (pdt_cmp op_notN snd_not (nomark _) ha hb : PDT X Γ (.Compare a [.IsNot] [b] pos) _ (wTest (wOp notA wa wb)))
theorem pt_in {K : PySem.W.Frag} {k : Nat} (hr : Room k X.A) (ha : PD X Γ a ta wa) (hb : PD X Γ b tb wb) (hm : behindInMarks .In b = false := by rfl) (hK : X.K = K := by rfl) : PDT X Γ (.Compare a [.In] [b] pos) (tTest (tOp (fun x y H Q => rInD K x y H Q ∨ rIn K false x y H Q) ta tb)) (wTest (wOp (inA false) wa wb)) := by
  subst hK
  exact pdt_cmp ((op_inD (room65 hr)).or op_in_seq) (snd_in (K := X.K)) hm ha hb
theorem pt_nin {K : PySem.W.Frag} {k : Nat} (hr : Room k X.A) (ha : PD X Γ a ta wa) (hb : PD X Γ b tb wb) (hm : behindInMarks .NotIn b = false := by rfl) (hK : X.K = K := by rfl) : PDT X Γ (.Compare a [.NotIn] [b] pos) (tTest (tOp (fun x y H Q => rNotInD K x y H Q ∨ rIn K true x y H Q) ta tb)) (wTest (wOp (inA true) wa wb)) := by
  subst hK
  exact pdt_cmp ((op_notInD (room65 hr)).or op_notIn_seq) (snd_nin (K := X.K)) hm ha hb
/-! chains of two int comparisons -/
structure CmpR (X : Cx) (Γ : Gm) (op : CmpOp) (r : R2) (f : A → A → (A → Prop) → Prop) : Prop where
  op : OpR X (compareOp op) r
  sd : SndR Γ r f
def c_lt := (⟨op_lt, snd_cmp⟩ : CmpR X Γ .Lt _ ltA)
def c_le := (⟨op_le, snd_cmp⟩ : CmpR X Γ .LtE _ leA)
def c_gt := (⟨op_gt, snd_cmp⟩ : CmpR X Γ .Gt _ gtA)
def c_ge := (⟨op_ge, snd_cmp⟩ : CmpR X Γ .GtE _ geA)
theorem pd_chain {op op' : CmpOp} {r r' : R2} {f g : A → A → (A → Prop) → Prop} (h1 : CmpR X Γ op r f) (h2 : CmpR X Γ op' r' g) (ha : PD X Γ a ta wa) (hb : PD X Γ b tb wb) (hc : PD X Γ c tc wc)
    (hm : lastMarks [op, op'] [b, c] = false := by with_unfolding_all rfl) : PD X Γ (.Compare a [op, op'] [b, c] pos) (tChain r r' ta tb tc) (wChain f g wa wb wc) := ⟨pe_chain h1.op h2.op ha.pe hb.pe hc.pe hm, sd_chain h1.sd h2.sd ha.sd hb.sd hc.sd⟩
theorem pt_chain2 {op op' : CmpOp} {r r' : R2} {f g : A → A → (A → Prop) → Prop} (h1 : CmpR X Γ op r f) (h2 : CmpR X Γ op' r' g) (ha : PD X Γ a ta wa) (hb : PD X Γ b tb wb) (hc : PD X Γ c tc wc)
    (hm : lastMarks [op, op'] [b, c] = false := by with_unfolding_all rfl) : PDT X Γ (.Compare a [op, op'] [b, c] pos) (tTest (tChain r r' ta tb tc)) (wTest (wChain f g wa wb wc)) := ⟨pt_chain h1.op h2.op ha.pe hb.pe hc.pe hm, sd_test (sd_chain h1.sd h2.sd ha.sd hb.sd hc.sd)⟩
/-! truth -/
theorem pt_v (h : PD X Γ e te we) (he : ∀ whole, isTrue e X.env whole = (do let v ← whole; standAt e.pos; holding [v] (truthy v)) := by intro _; rfl) : PDT X Γ e (tB te) (wTest we) := ⟨pt_val h.pe he, sd_tB h.sd⟩
theorem pt_notA (h : PDT X Γ a tt wt) : PDT X Γ (.UnaryOp .Not a pos) (tNot tt) (wNot wt) := ⟨pt_not h.pt, sd_not h.sd⟩
theorem pw_and1A (h : PDT X Γ a tt wt) : PDW X Γ (.BoolOp .And [a] pos) tt wt := ⟨pw_and1 h.pt, h.sd⟩
theorem pw_or1A (h : PDT X Γ a tt wt) : PDW X Γ (.BoolOp .Or [a] pos) tt wt := ⟨pw_or1 h.pt, h.sd⟩
theorem pw_andA (h : PDT X Γ a tt wt) (h2 : PDW X Γ (.BoolOp .And (b :: rest) pos) tu wu) : PDW X Γ (.BoolOp .And (a :: b :: rest) pos) (tAnd tt tu) (wAnd wt wu) := ⟨pw_and h.pt h2.pw, sd_and h.sd h2.sd⟩
theorem pw_orA (h : PDT X Γ a tt wt) (h2 : PDW X Γ (.BoolOp .Or (b :: rest) pos) tu wu) : PDW X Γ (.BoolOp .Or (a :: b :: rest) pos) (tOr tt tu) (wOr wt wu) := ⟨pw_or h.pt h2.pw, sd_or h.sd h2.sd⟩
theorem PDW.t (h : PDW X Γ e tt wt) : PDT X Γ e tt wt := ⟨h.pw.pt, h.sd⟩
theorem pd_one {op} (h : PD X Γ a ta wa) : PD X Γ (.BoolOp op [a] pos) ta wa := ⟨pe_one h.pe, h.sd⟩
theorem pd_and (h : PD X Γ a ta wa) (h2 : PD X Γ (.BoolOp .And (b :: rest) pos) tb wb) : PD X Γ (.BoolOp .And (a :: b :: rest) pos) (tAndV ta tb) (wAndV wa wb) := ⟨pe_and h.pe h2.pe, sd_andV h.sd h2.sd⟩
theorem pd_or (h : PD X Γ a ta wa) (h2 : PD X Γ (.BoolOp .Or (b :: rest) pos) tb wb) : PD X Γ (.BoolOp .Or (a :: b :: rest) pos) (tOrV ta tb) (wOrV wa wb) := ⟨pe_or h.pe h2.pe, sd_orV h.sd h2.sd⟩
theorem pd_not (h : PD X Γ a ta wa) : PD X Γ (.UnaryOp .Not a pos) (tNotV ta) (wNotV wa) := ⟨pe_not h.pe, sd_notV h.sd⟩
theorem pd_if (h : PDT X Γ c tt wt) (ha : PD X Γ a ta wa) (hb : PD X Γ b tb wb) : PD X Γ (.IfExp c a b pos) (tIf tt ta tb) (wIfE wt wa wb) := ⟨pe_ifExp h.pt ha.pe hb.pe, sd_if h.sd ha.sd hb.sd⟩
/-! displays, subscripts, slices -/
theorem pda_nil : PDA X Γ [] tNil wNil := ⟨pa_nil, sd_nil⟩
theorem pda_cons (h : PD X Γ e te we) (h2 : PDA X Γ es tA wA) (hs : starEach (e :: es) X.env = (false, eval e X.env) :: starEach es X.env := by rfl) : PDA X Γ (e :: es) (tCons te tA) (wCons we wA) := ⟨pa_cons h.pe h2.pa hs, sd_cons h.sd h2.sd⟩
theorem pd_tup {k} (h : PDA X Γ es tA wA) : PD X Γ (.Tuple es k pos) (tTup tA) (wTupD wA) := ⟨pe_tup h.pa, sd_tup h.sd⟩
theorem pd_lst (h : PDA X Γ es tA wA) : PD X Γ (.List es pos) (tLst tA) (wLstD wA) := ⟨pe_lst h.pa, sd_lst h.sd⟩
theorem pd_ix {K : PySem.W.Frag} (ha : PD X Γ a ta wa) (hb : PD X Γ b tb wb) (hs : PlainIx b := by exact fun _ _ => rfl) (hK : X.K = K := by rfl) : PD X Γ (.Subscript a b pos) (tOp (rIx K) ta tb) (wOp ixA wa wb) := by
  subst hK
  exact ⟨pe_ix ix_seq ha.pe hb.pe hs, sd_op snd_ix ha.sd hb.sd⟩
theorem po_noneA : PDO X Γ none tNoPart wNoPart := ⟨po_none, so_none⟩
theorem po_someA (h : PD X Γ e te we) : PDO X Γ (some e) (tPart te) (wPart we) := ⟨po_some h.pe, so_some h.sd⟩
theorem pd_sl {K : PySem.W.Frag} {lo hi : Option Expr} {tl th : TO} {wl wh : WO} (h : PD X Γ e te we) (hl : PDO X Γ lo tl wl) (hh : PDO X Γ hi th wh) (hK : X.K = K := by rfl) : PD X Γ (.Subscript e (.Slice lo hi none p2) pos) (tSl (fun x lo hi H Q => rSlL K x lo hi H Q ∨ rSlT K x lo hi H Q) te tl th) (wSl we wl wh) := by
  subst hK
  exact ⟨pe_slice (sl_list.or sl_tup) h.pe hl.po hh.po, sd_sl h.sd hl.sd hh.sd⟩
/-! built-ins by name -/
theorem pd_cb {x : Str} {id : String} {r : List V → Hp → VK → Prop} {f : List A → (A → Prop) → Prop} (hc : CallR X (.builtin id) r) (hr : SndC Γ r f) (hm : X.mg x = none) (hv : bootBuiltins x = some (.builtin id)) (ha : PDA X Γ (e :: es) tA wA) (hg : Gl X x := by rfl) (hn : x ≠ "__name__" := by decide) (hdb : (x == ("__debug__" : Str)) = false := by decide)
    (he : starEach (e :: es) X.env = (false, eval e X.env) :: starEach es X.env := by rfl) (hpl : (backTo pos (starEach es X.env)).any (·.1) = false := by rfl) : PD X Γ (.Call (.Name x p) (e :: es) [] pos) (tCB r tA) (wCB f wA) := ⟨pe_callB hc hg hm hv ha.pa hn hdb he hpl, sd_cb hr ha.sd⟩
theorem pd_ct {x : Str} {id : String} {r : List V → Hp → VK → Prop} {f : List A → (A → Prop) → Prop} (hc : CallR X (.type id) r) (hr : SndC Γ r f) (hm : X.mg x = none) (hv : bootBuiltins x = some (.type id)) (ha : PDA X Γ (e :: es) tA wA) (hg : Gl X x := by rfl) (hn : x ≠ "__name__" := by decide) (hdb : (x == ("__debug__" : Str)) = false := by decide)
    (he : starEach (e :: es) X.env = (false, eval e X.env) :: starEach es X.env := by rfl) (hpl : (backTo pos (starEach es X.env)).any (·.1) = false := by rfl) : PD X Γ (.Call (.Name x p) (e :: es) [] pos) (tCB r tA) (wCB f wA) := ⟨pe_callTy hc hg hm hv ha.pa hn hdb he hpl, sd_cb hr ha.sd⟩
theorem boot_list' : bootBuiltins "list" = some (.type "list") := by decide +kernel
theorem boot_tuple' : bootBuiltins "tuple" = some (.type "tuple") := by decide +kernel
theorem boot_int' : bootBuiltins "int" = some (.type "int") := by decide +kernel
theorem boot_sorted' : bootBuiltins "sorted" = some (.builtin "sorted") := by decide +kernel
theorem boot_min' : bootBuiltins "min" = some (.builtin "min") := by decide +kernel
theorem boot_max' : bootBuiltins "max" = some (.builtin "max") := by decide +kernel
theorem pd_len {K : PySem.W.Frag} (hm : X.mg "len" = none) (ha : PDA X Γ (e :: es) tA wA) (hg : Gl X "len" := by rfl) (he : starEach (e :: es) X.env = (false, eval e X.env) :: starEach es X.env := by rfl) (hpl : (backTo pos (starEach es X.env)).any (·.1) = false := by rfl) (hK : X.K = K := by rfl) : PD X Γ (.Call (.Name "len" p) (e :: es) [] pos) (tCB (fun xs H Q => ∃ x n, xs = [x] ∧ LenV K x H n ∧ Q (.int n) H) tA) (wCB lenA wA) := by
  subst hK
  exact pd_cb call_len snd_len hm PySem.boot_len ha hg (by decide) (by decide) he hpl
theorem pd_list {K : PySem.W.Frag} (hm : X.mg "list" = none) (ha : PDA X Γ (e :: es) tA wA) (hg : Gl X "list" := by rfl) (he : starEach (e :: es) X.env = (false, eval e X.env) :: starEach es X.env := by rfl) (hpl : (backTo pos (starEach es X.env)).any (·.1) = false := by rfl) (hK : X.K = K := by rfl) : PD X Γ (.Call (.Name "list" p) (e :: es) [] pos) (tCB (fun xs H Q => ∃ p ys, xs = [.ref p] ∧ (SqL K H p ys ∨ SqT K H p ys) ∧ ∀ l, H l = none → Q (.ref l) (upd H l (.lst ys))) tA) (wCB listA wA) := by
  subst hK
  exact pd_ct call_list_of snd_list hm boot_list' ha hg (by decide) (by decide) he hpl
theorem pd_tuple {K : PySem.W.Frag} (hm : X.mg "tuple" = none) (ha : PDA X Γ (e :: es) tA wA) (hg : Gl X "tuple" := by rfl) (he : starEach (e :: es) X.env = (false, eval e X.env) :: starEach es X.env := by rfl) (hpl : (backTo pos (starEach es X.env)).any (·.1) = false := by rfl) (hK : X.K = K := by rfl) : PD X Γ (.Call (.Name "tuple" p) (e :: es) [] pos) (tCB (fun xs H Q => ∃ p ys, xs = [.ref p] ∧ ((SqL K H p ys ∧ ∀ l, H l = none → Q (.ref l) (upd H l (.tup ys))) ∨ (SqT K H p ys ∧ Q (.ref p) H))) tA) (wCB tupleA wA) := by
  subst hK
  exact pd_ct call_tuple_of snd_tuple hm boot_tuple' ha hg (by decide) (by decide) he hpl
def pd_toint (hm : X.mg "int" = none) (ha : PDA X Γ (e :: es) tA wA) (hg : Gl X "int" := by rfl) (he : starEach (e :: es) X.env = (false, eval e X.env) :: starEach es X.env := by rfl) (hpl : (backTo pos (starEach es X.env)).any (·.1) = false := by rfl) :=
  (pd_ct call_int1 snd_int hm boot_int' ha hg (by decide) (by decide) he hpl : PD X Γ (.Call (.Name "int" p) (e :: es) [] pos) _ (wCB intA wA))
def pd_min2 (hc : X.calm = true) (hm : X.mg "min" = none) (ha : PDA X Γ (e :: es) tA wA) (hg : Gl X "min" := by rfl) (he : starEach (e :: es) X.env = (false, eval e X.env) :: starEach es X.env := by rfl) (hpl : (backTo pos (starEach es X.env)).any (·.1) = false := by rfl) :=
  (pd_cb (call_min2 hc) snd_min hm boot_min' ha hg (by decide) (by decide) he hpl : PD X Γ (.Call (.Name "min" p) (e :: es) [] pos) _ (wCB minA wA))
def pd_max2 (hc : X.calm = true) (hm : X.mg "max" = none) (ha : PDA X Γ (e :: es) tA wA) (hg : Gl X "max" := by rfl) (he : starEach (e :: es) X.env = (false, eval e X.env) :: starEach es X.env := by rfl) (hpl : (backTo pos (starEach es X.env)).any (·.1) = false := by rfl) :=
  (pd_cb (call_max2 hc) snd_max hm boot_max' ha hg (by decide) (by decide) he hpl : PD X Γ (.Call (.Name "max" p) (e :: es) [] pos) _ (wCB maxA wA))
theorem pd_sort {K : PySem.W.Frag} (hm : X.mg "sorted" = none) (ha : PDA X Γ (e :: es) tA wA) (hg : Gl X "sorted" := by rfl) (he : starEach (e :: es) X.env = (false, eval e X.env) :: starEach es X.env := by rfl) (hpl : (backTo pos (starEach es X.env)).any (·.1) = false := by rfl) (hK : X.K = K := by rfl) : PD X Γ (.Call (.Name "sorted" p) (e :: es) [] pos) (tCB (rSorted K) tA) (wCB sortA wA) := by
  subst hK
  exact pd_cb cr_sorted (snd_sort (K := X.K)) hm boot_sorted' ha hg (by decide) (by decide) he hpl
/-! list(range(..)) -/
structure PDR (X : Cx) (Γ : Gm) (e : Expr) (t : L2.St → Hp → (Int → Int → Hp → Prop) → Prop) (w : List A → (Int → Int → Prop) → Prop) : Prop where
  pr : PRg X e t
  sd : SndRg Γ t w
theorem pr_1 (hm : X.mg "range" = none) (ha : PD X Γ a ta wa) (hg : Gl X "range" := by rfl) (na : starEach [a] X.env = (false, eval a X.env) :: starEach [] X.env := by rfl) : PDR X Γ (.Call (.Name "range" p) [a] [] pos) (tRg1 ta) (wRg1 wa) := ⟨prg_1 hg hm ha.pe na, sg_rg1 ha.sd⟩
theorem pr_2 (hm : X.mg "range" = none) (ha : PD X Γ a ta wa) (hb : PD X Γ b tb wb) (hg : Gl X "range" := by rfl) (na : starEach [a, b] X.env = (false, eval a X.env) :: starEach [b] X.env := by rfl)
    (nb : starEach [b] X.env = (false, eval b X.env) :: starEach [] X.env := by rfl) (hp : (backTo pos (starEach [b] X.env)).any (·.1) = false := by rfl) : PDR X Γ (.Call (.Name "range" p) [a, b] [] pos) (tRg2 ta tb) (wRg2 wa wb) := ⟨prg_2 hg hm ha.pe hb.pe na nb hp, sg_rg2 ha.sd hb.sd⟩
theorem pd_lstRg {t : L2.St → Hp → (Int → Int → Hp → Prop) → Prop} {w : List A → (Int → Int → Prop) → Prop} (hm : X.mg "list" = none) (h : PDR X Γ e t w) (hc : X.calm = true := by rfl) (hg : Gl X "list" := by rfl) (na : starEach [e] X.env = (false, eval e X.env) :: starEach [] X.env := by rfl) :
    PD X Γ (.Call (.Name "list" p) [e] [] pos) (tLstRg t) (wLstRg w) := ⟨pe_listRg hc hg hm h.pr na, sd_lstRg h.sd⟩
/-! calls of defs -/
end
structure Cal (P : Program) (w : World) (K : PySem.W.Frag) (mg : Str → Option Value) (base : Heap) (C : Addr) (x : Str) (k : Nat) (spec : Spc) : Prop where
  ex : ∃ (f : Addr) (fd : FuncData) (ps : List Str), FnOk P w K mg base CX0 k f fd ps (spA C spec) ∧ mg x = some (.ref f) ∧ PySem.W.keepIn K (.ref f) = true ∧ Binds K fd ps []
theorem Cal.mono {P : Program} {w : World} {K : PySem.W.Frag} {mg : Str → Option Value} {base : Heap} {C : Addr} {x : Str} {j k : Nat} {spec : Spc} (c : Cal P w K mg base C x j spec) (h : j ≤ k) : Cal P w K mg base C x k spec := by
  obtain ⟨f, fd, ps, F, r⟩ := c
  exact ⟨f, fd, ps, F.mono h, r⟩
section
variable {X : Cx} {Γ : Gm} {e a b c o : Expr} {es : List Expr} {te ta tb tc to : TE} {tA : TA} {tt tu : TT} {we wa wb wc wo : WE} {wA : WA} {wt wu : WT} {pos p p2 apos : Pos}
theorem pd_call {x : Str} {k j : Nat} {spec : Spc} (cl : Cal X.prog X.w X.K X.mg X.base Γ.C x k spec) (hr : Room j X.A) (hk : k ≤ j) (ha : PDA X Γ (e :: es) tA wA) (hg : Gl X x := by rfl) (hdb : (x == ("__debug__" : Str)) = false := by decide)
    (he : starEach (e :: es) X.env = (false, eval e X.env) :: starEach es X.env := by rfl) (hpl : (backTo pos (starEach es X.env)).any (·.1) = false := by rfl) :
    PD X Γ (.Call (.Name x p) (e :: es) [] pos) (tCall (spA Γ.C spec) [] E0 tA) (wCall spec wA) := by
  obtain ⟨f, fd, ps, F, hm, kp, bd⟩ := cl
  exact ⟨pe_call F (hr.mono hk) hg hm kp bd .nil pass0 ha.pa hdb he hpl, sd_call ha.sd⟩
/-! fields and methods of a yard -/
def wMarked (e : WE) : WE := fun ρ Q => e ρ fun r => match r with
  | .yard m _ => Q (.k (.tuple (m.map PyData.int)))
  | _ => False
def wKinds (e : WE) : WE := fun ρ Q => e ρ fun r => match r with
  | .yard _ k => Q (.k (.list (kd k)))
  | _ => False
def wMeth (spec : Spc) (e : WE) (wa : WA) : WE := fun ρ Q => e ρ fun r => match r with
  | .yard m k => wa ρ fun rs => match fzs rs with
    | some as => spec (.yard m k :: as) Q
    | none => False
  | _ => False
theorem nKM : ¬ (("kinds" : Str) = "marked") := by decide +kernel
theorem nMK : ¬ (("marked" : Str) = "kinds") := by decide +kernel
theorem yf_marked (t q : Addr) : (yf t q).lookup ("marked" : Str) = some (.ref t) := by
  unfold yf
  rw [lookup_putF, if_neg nMK, lookup_putF, if_pos rfl]
theorem yf_kinds (t q : Addr) : (yf t q).lookup ("kinds" : Str) = some (.ref q) := by
  unfold yf
  rw [lookup_putF, if_pos rfl]
theorem yf_no (t q : Addr) {m : Str} (h1 : ¬ m = "kinds") (h2 : ¬ m = "marked") : (yf t q).lookup m = none := by
  unfold yf
  rw [lookup_putF, if_neg h1, lookup_putF, if_neg h2]
  rfl
theorem sd_marked {K : PySem.W.Frag} (cl : Cls K Γ.C) (n : NoAttr K Γ.C "marked") (h : SndE Γ te we) : SndE Γ (tFld K te "marked") (wMarked we) := fun ρ Q F σ H K0 m q k =>
  h ρ _ F σ H _ m q fun F1 H1 v r s q1 p => by
    split at p
    · obtain ⟨a, dx, t, qq, rfl, h1, h2, h3⟩ := (show YardAt Γ.G Γ.C F1 v _ _ from q1)
      exact ⟨a, Γ.C, dx, _, _, rfl, kn.same s.fh s.gi _ _ h1, cl, n, yf_marked t qq, k F1 H1 _ (.k _) s h2 p⟩
    · exact p.elim
theorem sd_kinds {K : PySem.W.Frag} (cl : Cls K Γ.C) (n : NoAttr K Γ.C "kinds") (h : SndE Γ te we) : SndE Γ (tFld K te "kinds") (wKinds we) := fun ρ Q F σ H K0 m q k =>
  h ρ _ F σ H _ m q fun F1 H1 v r s q1 p => by
    split at p
    · obtain ⟨a, dx, t, qq, rfl, h1, h2, h3⟩ := (show YardAt Γ.G Γ.C F1 v _ _ from q1)
      exact ⟨a, Γ.C, dx, _, _, rfl, kn.same s.fh s.gi _ _ h1, cl, n, yf_kinds t qq, k F1 H1 _ (.k _) s h3 p⟩
    · exact p.elim
theorem pd_marked {K : PySem.W.Frag} (cl : Cls X.K Γ.C) (n : NoAttr X.K Γ.C "marked") (h : PD X Γ e te we) (hb : attributeBase e "marked" X.env (eval e X.env) = eval e X.env := by rfl) (hK : X.K = K := by rfl) : PD X Γ (.Attribute e "marked" pos) (tFld K te "marked") (wMarked we) := by
  subst hK
  exact ⟨pe_fld h.pe hb, sd_marked cl n h.sd⟩
theorem pd_kinds {K : PySem.W.Frag} (cl : Cls X.K Γ.C) (n : NoAttr X.K Γ.C "kinds") (h : PD X Γ e te we) (hb : attributeBase e "kinds" X.env (eval e X.env) = eval e X.env := by rfl) (hK : X.K = K := by rfl) : PD X Γ (.Attribute e "kinds" pos) (tFld K te "kinds") (wKinds we) := by
  subst hK
  exact ⟨pe_fld h.pe hb, sd_kinds cl n h.sd⟩
structure CalM (P : Program) (w : World) (K : PySem.W.Frag) (mg : Str → Option Value) (base : Heap) (C : Addr) (m : Str) (k : Nat) (spec : Spc) : Prop where
  ex : ∃ (f : Addr) (fd : FuncData) (ps : List Str), FnOk P w K mg base CX0 k f fd ps (spA C spec) ∧ Meth K C m f ∧ Binds K fd ps [] ∧ Cls K C
theorem sd_meth {m : Str} {spec : Spc} {E : XK} (h : SndE Γ te we) (ha : SndA Γ tA wA) (n1 : ¬ m = "kinds") (n2 : ¬ m = "marked") : SndE Γ (tMeth Γ.C m (spA Γ.C spec) [] E te tA) (wMeth spec we wA) := fun ρ Q F σ H K0 mm q k =>
  h ρ _ F σ H _ mm q fun F1 H1 v r s q1 p => by
    split at p
    · rename_i ym yk
      obtain ⟨a, dx, t, qq, rfl, h1, h2, h3⟩ := (show YardAt Γ.G Γ.C F1 v _ _ from q1)
      refine ⟨a, dx, _, rfl, kn.same s.fh s.gi _ _ h1, yf_no t qq n1 n2, ?_⟩
      refine ha ρ _ F1 σ H1 _ (mm.step s) p fun F2 H2 vs rs s2 r2 p2 => ?_
      split at p2
      · rename_i as e
        obtain ⟨F3, k3, s3, a3⟩ := r2.freeze (mm.step s).gi e s2 (Same.refl _)
        have s13 := s.trans mm.gi s3
        refine ⟨Γ.G, F3, .yard ym yk :: as, Q, s3.fh, s3.gi, s3.box, .cons (show ArgR Γ.G Γ.C F3 (.ref a) (.yard ym yk) from YardAt.up ⟨a, dx, t, qq, rfl, h1, h2, h3⟩ s3.ff) (by rw [List.append_nil]; exact a3), p2, fun F' H' v r' st q' hq => ?_⟩
        exact k F' H' v r' (s13.trans mm.gi st) (ret_res s13 q') hq
      · exact p2.elim
    · exact p.elim
theorem pd_meth0 {m : Str} {k j : Nat} {spec : Spc} {pl : Sem Bool} (cl : CalM X.prog X.w X.K X.mg X.base Γ.C m k spec) (hr : Room j X.A) (hk : k ≤ j) (ho : PD X Γ o to wo) (n1 : ¬ m = "kinds" := by decide +kernel) (n2 : ¬ m = "marked" := by decide +kernel)
    (ht : eval (.Call (.Attribute o m apos) [] [] pos) X.env = (do
      let ov ← eval o X.env
      standAt apos.atName
      let (f, first) ← holding [ov] (getMethod ov m pl)
      callWith pos f first (backTo pos (starEach [] X.env)) (backToKw pos (keywordEach [] X.env))) := by rfl) :
    PD X Γ (.Call (.Attribute o m apos) [] [] pos) (tMeth Γ.C m (spA Γ.C spec) [] E0 to tNil) (wMeth spec wo wNil) := by
  obtain ⟨f, fd, ps, F, hm, bd, c⟩ := cl
  exact ⟨pe_meth0 ho.pe c hm F (hr.mono hk) bd .nil pass0 ht, sd_meth ho.sd sd_nil n1 n2⟩
theorem pd_meth1 {m : Str} {k j : Nat} {spec : Spc} {pl : Sem Bool} (cl : CalM X.prog X.w X.K X.mg X.base Γ.C m k spec) (hr : Room j X.A) (hk : k ≤ j) (ho : PD X Γ o to wo) (ha : PDA X Γ (e :: es) tA wA) (n1 : ¬ m = "kinds" := by decide +kernel) (n2 : ¬ m = "marked" := by decide +kernel)
    (hst : starEach (e :: es) X.env = (false, eval e X.env) :: starEach es X.env := by rfl) (hpl : (backTo pos (starEach es X.env)).any (·.1) = false := by rfl)
    (ht : eval (.Call (.Attribute o m apos) (e :: es) [] pos) X.env = (do
      let ov ← eval o X.env
      standAt apos.atName
      let (f, first) ← holding [ov] (getMethod ov m pl)
      callWith pos f first (backTo pos (starEach (e :: es) X.env)) (backToKw pos (keywordEach [] X.env))) := by rfl) :
    PD X Γ (.Call (.Attribute o m apos) (e :: es) [] pos) (tMeth Γ.C m (spA Γ.C spec) [] E0 to tA) (wMeth spec wo wA) := by
  obtain ⟨f, fd, ps, F, hm, bd, c⟩ := cl
  exact ⟨pe_meth ho.pe c hm F (hr.mono hk) bd .nil pass0 ha.pa hst hpl ht, sd_meth ho.sd ha.sd n1 n2⟩
end

/-! a new yard: what __init__ promises -/
abbrev SpI := List A → (List Int → List (List Int) → Prop) → Prop
structure Mde (G : Gh) (C : Addr) (F H F' H' : Hp) (x dx : Addr) (m : List Int) (k : List (List Int)) : Prop where
  ff : Same F F'
  fh : Same F' H'
  gi : gInv G H'
  keep : ∀ a o, H a = some o → a ≠ x → a ≠ dx → ¬ isBox G a → H' a = some o
  new : ∀ a, F' a ≠ none → F a ≠ none ∨ H a = none ∨ a = x ∨ a = dx
  box : ∀ a, isBox G a → F' a = none
  yd : YardAt G C F' (.ref x) m k
def spI (C : Addr) (spec : SpI) : Sp := fun vs H Q _ => ∃ (G : Gh) (F : Hp) (as : List A) (x dx : Addr) (ws : List V) (P : List Int → List (List Int) → Prop), vs = .ref x :: ws ∧ H x = some (.ins C dx []) ∧ H dx = some (.own x) ∧ dx ≠ x ∧ F x = none ∧ F dx = none ∧ ¬ isBox G x ∧ ¬ isBox G dx ∧
  Same F H ∧ gInv G H ∧ (∀ a, isBox G a → F a = none) ∧ ArgsR G C F ws as ∧ spec as P ∧ ∀ m k F' H', P m k → Mde G C F H F' H' x dx m k → Q .non H'
structure CalI (P : Program) (w : World) (K : PySem.W.Frag) (mg : Str → Option Value) (base : Heap) (C : Addr) (k : Nat) (spec : SpI) : Prop where
  ex : ∃ (f : Addr) (fd : FuncData) (ps : List Str), FnOk P w K mg base CX0 k f fd ps (spI C spec) ∧ Mk K C f ∧ mg "Yard" = some (.ref C) ∧ Binds K fd ps []
def wMake (spec : SpI) (wa : WA) : WE := fun ρ Q => wa ρ fun rs => match fzs rs with
  | some as => spec as fun m k => Q (.yard m k)
  | none => False
section
variable {X : Cx} {Γ : Gm} {e : Expr} {es : List Expr} {tA : TA} {wA : WA} {pos p : Pos}
theorem sd_make {spec : SpI} {E : XK} (ha : SndA Γ tA wA) : SndE Γ (tMake Γ.C (spI Γ.C spec) [] E tA) (wMake spec wA) := fun ρ Q F σ H K0 mm q k =>
  ha ρ _ F σ H _ mm q fun F1 H1 vs rs s r p => by
    split at p
    · rename_i as e
      intro x dx nx nd ne
      obtain ⟨F3, k3, s3, a3⟩ := r.freeze mm.gi e s (Same.refl _)
      have fx := s3.fh.free nx
      have fd := s3.fh.free nd
      have bx : ¬ isBox Γ.G x := fun z => s3.gi.box z nx
      have bd : ¬ isBox Γ.G dx := fun z => s3.gi.box z nd
      have s4 : Stp Γ.G F H F3 (upd H1 dx (.own x)) := s3.put (s3.none_back nd) fd bd
      have s5 : Stp Γ.G F H F3 (upd (upd H1 dx (.own x)) x (.ins Γ.C dx [])) := s4.put (s3.none_back nx) fx bx
      refine ⟨Γ.G, F3, as, x, dx, vs, _, by rw [List.append_nil], upd_same, by rw [upd_ne ne, upd_same], ne, fx, fd, bx, bd, s5.fh, s5.gi, s5.box, a3, p, fun m kk F' H' hp md => ⟨rfl, ?_⟩⟩
      refine k F' H' _ (.yard m kk) ⟨s3.ff.trans md.ff, md.fh, md.gi, fun b o h n => ?_, fun b h => ?_, md.box⟩ md.yd hp
      · have h1 := s3.keep b o h n
        have n1 : b ≠ x := ne_of_none h1 nx
        have n2 : b ≠ dx := ne_of_none h1 nd
        exact md.keep b o (by rw [upd_ne n1, upd_ne n2]; exact h1) n1 n2 n
      · rcases md.new b h with z | z | z | z
        · exact s3.new b z
        · by_cases h1 : b = x
          · subst h1; rw [upd_same] at z; cases z
          · rw [upd_ne h1] at z
            by_cases h2 : b = dx
            · subst h2; rw [upd_same] at z; cases z
            · rw [upd_ne h2] at z
              exact .inr (s3.none_back z)
        · subst z; exact .inr (s3.none_back nx)
        · subst z; exact .inr (s3.none_back nd)
    · exact p.elim
theorem pd_make {k j : Nat} {spec : SpI} (cl : CalI X.prog X.w X.K X.mg X.base Γ.C k spec) (hr : Room j X.A) (hk : k + 1 ≤ j) (ha : PDA X Γ (e :: es) tA wA) (hg : Gl X "Yard" := by rfl) (hdb : (("Yard" : Str) == ("__debug__" : Str)) = false := by decide)
    (he : starEach (e :: es) X.env = (false, eval e X.env) :: starEach es X.env := by rfl) (hpl : (backTo pos (starEach es X.env)).any (·.1) = false := by rfl) :
    PD X Γ (.Call (.Name "Yard" p) (e :: es) [] pos) (tMake Γ.C (spI Γ.C spec) [] E0 tA) (wMake spec wA) := by
  obtain ⟨f, fd, ps, F, hm, mg, bd⟩ := cl
  exact ⟨pe_make hm F (hr.mono hk) hg mg bd .nil pass0 ha.pa hdb he hpl, sd_make ha.sd⟩
end

/-! ### statements -/
section
variable {X : Cx} {Γ : Gm} {e a b c o : Expr} {es : List Expr} {te tk ta tb : TE} {we wk wa wb : WE} {tA : TA} {wA : WA} {tt : TT} {wt : WT} {ts tu : TS} {ws wu : WS} {pos p p1 p2 pos2 apos : Pos} {st : Stmt} {rest body orelse : List Stmt} {g : TG} {wg : WG} {tg iter : Expr} {ti : TI} {wi : WI} {x : Str}
theorem pss_nilA : PDSs X Γ [] tNext wNext := ⟨pss_nil, ss_next⟩
theorem pss_consA (h1 : PDS X Γ st ts ws) (h2 : PDSs X Γ rest tu wu) : PDSs X Γ (st :: rest) (tSeq ts tu) (wSeq ws wu) := ⟨pss_cons h1.ps h2.ps, ss_seq h1.sd h2.sd⟩
theorem pss_oneA (h1 : PDS X Γ st ts ws) : PDSs X Γ [st] ts ws := ⟨pss_one h1.ps, h1.sd⟩
theorem ps_docA {i : Str} {j} : PDS X Γ (.Expr (.Constant (.str i) j p) pos) tNext wNext := ⟨ps_doc, ss_next⟩
theorem ps_passA : PDS X Γ (.Pass pos) tNext wNext := ⟨ps_pass, ss_next⟩
theorem ps_exprA (h : PD X Γ e te we) (hs : swapsWith e none pos.line X.env = pure false := by rfl) : PDS X Γ (.Expr e pos) (tDrop te) (wDrop we) := ⟨ps_expr h.pe hs, ss_drop h.sd⟩
theorem ps_retA (h : PD X Γ e te we) : PDS X Γ (.Return (some e) pos) (tRet te) (wRet we) := ⟨ps_ret h.pe, ss_ret h.sd⟩
theorem ps_retNA : PDS X Γ (.Return none pos) tRetN wRetN := ⟨ps_retN, ss_retN⟩
theorem ps_ifA (hc : PDT X Γ c tt wt) (ha : PDSs X Γ body ts ws) (hb : PDSs X Γ orelse tu wu) : PDS X Γ (.If c body orelse pos) (tIfS tt ts tu) (wIf wt ws wu) := ⟨ps_if hc.pt ha.ps hb.ps, ss_if hc.sd ha.sd hb.sd⟩
theorem ps_neverA : PDS X Γ st tNever wNever := ⟨ps_never, ss_never⟩
theorem ps_setA {i : Nat} (hN : X.N.Nodup) (he : PD X Γ e te we) (hi : X.N[i]? = some x := by rfl) (hx : Loc X.env.scope x := by first | exact Or.inl rfl | exact Or.inr rfl) (hs : swapsWith e (some (.Name x p)) pos.line X.env = pure false := by rfl) (hf : X.fn x = true ∨ X.env.scope.names.lookup x = some .local := by first | exact .inl rfl | exact .inr rfl) :
    PDS X Γ (.Assign [.Name x p] e pos) (tAsg te (gName i)) (wSet i we) := ⟨ps_set hN hi hx he.pe hs hf, ss_set i he.sd⟩
theorem ps_fz (i : Nat) (h : PDS X Γ st ts ws) : PDS X Γ st ts (wFz i ws) := ⟨h.ps, ss_fz i h.sd⟩
def ps_appA {i : Nat} (hv : PD X Γ o (tVar i) (wName i)) (he : PD X Γ e te we) (hs : swapsWith (.Call (.Attribute o "append" apos) [e] [] p) none pos.line X.env = pure false := by rfl)
    (hbase : attributeBase o "append" X.env (eval o X.env) = eval o X.env := by rfl)
    (hfew : ((backTo p (starEach [e] X.env)).all (fun x => !x.1) && (backToKw p (keywordEach [] X.env)).all (fun x => x.1.isSome)
      && decide ([e].length + ([] : List Keyword).length + (if ([] : List Keyword).isEmpty then 0 else 1) < 30)) = true := by rfl)
    (hline : (apos.endLine == p.line) = true := by rfl) (hs2 : starEach [e] X.env = (false, eval e X.env) :: starEach [] X.env := by rfl) (hplain : (backTo p (starEach [] X.env)).any (·.1) = false := by rfl) :=
  (⟨ps_expr (pe_bm PySem.F.plainAttrs_list PySem.F.slot_list_append PySem.F.type_list_append mt_append hv.pe (pa_cons he.pe pa_nil hs2) hbase hfew hline hs2 hplain) hs, ss_app i he.sd⟩ : PDS X Γ (.Expr (.Call (.Attribute o "append" apos) [e] [] p) pos) _ (wApp i we))
def ps_clearA {i : Nat} (hv : PD X Γ o (tVar i) (wName i)) (hs : swapsWith (.Call (.Attribute o "clear" apos) [] [] p) none pos.line X.env = pure false := by rfl)
    (hbase : attributeBase o "clear" X.env (eval o X.env) = eval o X.env := by rfl) (hline : (apos.endLine == p.line) = true := by rfl) :=
  (⟨ps_expr (pe_bm0 PySem.F.plainAttrs_list PySem.F.slot_list_clear PySem.F.type_list_clear mt_clear hv.pe hbase hline) hs, ss_clear i⟩ : PDS X Γ (.Expr (.Call (.Attribute o "clear" apos) [] [] p) pos) _ (wClear i))
def ps_extA {i : Nat} (hv : PD X Γ o (tVar i) (wName i)) (he : PD X Γ e te we) (hs : swapsWith (.Call (.Attribute o "extend" apos) [e] [] p) none pos.line X.env = pure false := by rfl)
    (hbase : attributeBase o "extend" X.env (eval o X.env) = eval o X.env := by rfl)
    (hfew : ((backTo p (starEach [e] X.env)).all (fun x => !x.1) && (backToKw p (keywordEach [] X.env)).all (fun x => x.1.isSome)
      && decide ([e].length + ([] : List Keyword).length + (if ([] : List Keyword).isEmpty then 0 else 1) < 30)) = true := by rfl)
    (hline : (apos.endLine == p.line) = true := by rfl) (hs2 : starEach [e] X.env = (false, eval e X.env) :: starEach [] X.env := by rfl) (hplain : (backTo p (starEach [] X.env)).any (·.1) = false := by rfl) :=
  (⟨ps_expr (pe_bm PySem.F.plainAttrs_list PySem.F.slot_list_extend PySem.F.type_list_extend mt_extend hv.pe (pa_cons he.pe pa_nil hs2) hbase hfew hline hs2 hplain) hs, ss_ext i he.sd⟩ : PDS X Γ (.Expr (.Call (.Attribute o "extend" apos) [e] [] p) pos) _ (wExt i we))
def ps_appPopA {o2 : Expr} {i j : Nat} {bpos p5 : Pos} (hv : PD X Γ o (tVar i) (wName i)) (hv2 : PD X Γ o2 (tVar j) (wName j)) (he : PD X Γ e te we) (hs : swapsWith (.Call (.Attribute o "append" apos) [.Call (.Attribute o2 "pop" bpos) [e] [] p5] [] p) none pos.line X.env = pure false := by rfl)
    (hbase : attributeBase o "append" X.env (eval o X.env) = eval o X.env := by rfl)
    (hfew : ((backTo p (starEach [.Call (.Attribute o2 "pop" bpos) [e] [] p5] X.env)).all (fun x => !x.1) && (backToKw p (keywordEach [] X.env)).all (fun x => x.1.isSome)
      && decide ([Expr.Call (.Attribute o2 "pop" bpos) [e] [] p5].length + ([] : List Keyword).length + (if ([] : List Keyword).isEmpty then 0 else 1) < 30)) = true := by rfl)
    (hline : (apos.endLine == p.line) = true := by rfl) (hs2 : starEach [.Call (.Attribute o2 "pop" bpos) [e] [] p5] X.env = (false, eval (.Call (.Attribute o2 "pop" bpos) [e] [] p5) X.env) :: starEach [] X.env := by rfl) (hplain : (backTo p (starEach [] X.env)).any (·.1) = false := by rfl)
    (hbase2 : attributeBase o2 "pop" X.env (eval o2 X.env) = eval o2 X.env := by rfl)
    (hfew2 : ((backTo p5 (starEach [e] X.env)).all (fun x => !x.1) && (backToKw p5 (keywordEach [] X.env)).all (fun x => x.1.isSome)
      && decide ([e].length + ([] : List Keyword).length + (if ([] : List Keyword).isEmpty then 0 else 1) < 30)) = true := by rfl)
    (hline2 : (bpos.endLine == p5.line) = true := by rfl) (hs3 : starEach [e] X.env = (false, eval e X.env) :: starEach [] X.env := by rfl) (hplain2 : (backTo p5 (starEach [] X.env)).any (·.1) = false := by rfl) :=
  (⟨ps_expr (pe_bm PySem.F.plainAttrs_list PySem.F.slot_list_append PySem.F.type_list_append mt_append hv.pe (pa_cons (pe_bm PySem.F.plainAttrs_list PySem.F.slot_list_pop PySem.F.type_list_pop mt_popAt hv2.pe (pa_cons he.pe pa_nil hs3) hbase2 hfew2 hline2 hs3 hplain2) pa_nil hs2) hbase hfew hline hs2 hplain) hs, ss_appPop i j he.sd⟩ : PDS X Γ (.Expr (.Call (.Attribute o "append" apos) [.Call (.Attribute o2 "pop" bpos) [e] [] p5] [] p) pos) _ (wAppPop i j we))
def ps_putA {i : Nat} (hv : PD X Γ o (tVar i) (wName i)) (hk : PD X Γ a tk wk) (he : PD X Γ e te we)
    (ha : ∀ v, assign (.Subscript o a p) X.env v = (do
      let ov ← holding [v] (eval o X.env)
      let iv ← holding [v, ov] (eval a X.env)
      standAt p
      holding [v, ov, iv] (setItem ov iv v)
      release [v, ov, iv] []) := by intro _; rfl) (hs : swapsWithSole [.Subscript o a p] e pos.line X.env = pure false := by rfl) (hw : swappedStores [.Subscript o a p] e X.env = pure none := by rfl)
    (h1 : (assignEach [.Subscript o a p] X.env).map (·.2) = [assign (.Subscript o a p) X.env] := by rfl) :=
  (⟨ps_asg he.pe (pg_sub hv.pe hk.pe set_list ha) hs hw h1, ss_put i hk.sd he.sd⟩ : PDS X Γ (.Assign [.Subscript o a p] e pos) _ (wPut i wk we))
def ps_popSetA {y i : Nat} (hN : X.N.Nodup) (hv : PD X Γ o (tVar i) (wName i)) (hi : X.N[y]? = some x := by rfl) (hx : Loc X.env.scope x := by first | exact Or.inl rfl | exact Or.inr rfl) (hs : swapsWith (.Call (.Attribute o "pop" apos) [] [] p2) (some (.Name x p)) pos.line X.env = pure false := by rfl) (hf : X.fn x = true ∨ X.env.scope.names.lookup x = some .local := by first | exact .inl rfl | exact .inr rfl)
    (hbase : attributeBase o "pop" X.env (eval o X.env) = eval o X.env := by rfl) (hline : (apos.endLine == p2.line) = true := by rfl) :=
  (⟨ps_set hN hi hx (pe_bm0 PySem.F.plainAttrs_list PySem.F.slot_list_pop PySem.F.type_list_pop mt_pop hv.pe hbase hline) hs hf, ss_popSet y i⟩ : PDS X Γ (.Assign [.Name x p] (.Call (.Attribute o "pop" apos) [] [] p2) pos) _ (wPopSet y i))
theorem ps_asgA (he : PD X Γ e te we) (hg : PDG X Γ tg g wg) (hs : swapsWithSole [tg] e pos.line X.env = pure false := by rfl) (hw : swappedStores [tg] e X.env = pure none := by rfl)
    (h1 : (assignEach [tg] X.env).map (·.2) = [assign tg X.env] := by rfl) : PDS X Γ (.Assign [tg] e pos) (tAsg te g) (wAsg we wg) := ⟨ps_asg he.pe hg.pg hs hw h1, ss_asg he.sd hg.sd⟩
theorem pg_nameA (i : Nat) (hN : X.N.Nodup) (hi : X.N[i]? = some x := by rfl) (hx : Loc X.env.scope x := by first | exact Or.inl rfl | exact Or.inr rfl) (hf : X.fn x = true ∨ X.env.scope.names.lookup x = some .local := by first | exact .inl rfl | exact .inr rfl) : PDG X Γ (.Name x pos) (gName i) (gwN i) := ⟨pg_name hN hi hx hf, sg_name i⟩
theorem pgs_nilA : PDGs X Γ [] gNil gwNil := ⟨pgs_nil, sg_nil⟩
theorem pgs_consA {gs : TGs} {wgs : List PyData → List A → (List A → Prop) → Prop} (h1 : PDG X Γ e g wg) (h2 : PDGs X Γ es gs wgs) (hs : (assignEach (e :: es) X.env).map (·.2) = assign e X.env :: (assignEach es X.env).map (·.2) := by rfl) : PDGs X Γ (e :: es) (gCons g gs) (gwCons wg wgs) := ⟨pgs_cons h1.pg h2.pg hs, sg_cons h1.sd h2.sd⟩
theorem pg_tupA {K : PySem.W.Frag} {gs : TGs} {k : Nat} {wgs : List PyData → List A → (List A → Prop) → Prop} {n : Nat} (h : PDGs X Γ es gs wgs) (hc : X.calm = true := by rfl) (hn : (assignEach es X.env).length = n := by rfl) (hst : (assignEach es X.env).findIdx? (·.1) = none := by rfl) (hK : X.K = K := by rfl) : PDG X Γ (.Tuple es k pos) (gTup K n gs) (gwT n wgs) := by
  subst hK
  exact ⟨pg_tup hc h.pg hn hst, sg_tup h.sd⟩
theorem pi_range1A (hm : X.mg "range" = none) (ha : PDA X Γ [a] tA wA) (hg : Gl X "range" := by rfl) (hs : starEach [a] X.env = [(false, eval a X.env)] := by rfl) : PDI X Γ tg (.Call (.Name "range" p) [a] [] pos) (iRng1 tA) (wRange1 wA) := ⟨pi_range1 hg hm ha.pa hs, si_range1 ha.sd⟩
theorem pi_range2A (hm : X.mg "range" = none) (ha : PDA X Γ [a, b] tA wA) (hg : Gl X "range" := by rfl) (hs : starEach [a, b] X.env = [(false, eval a X.env), (false, eval b X.env)] := by rfl) (hs2 : starEach [b] X.env = [(false, eval b X.env)] := by rfl) : PDI X Γ tg (.Call (.Name "range" p) [a, b] [] pos) (iRng2 tA) (wRange2 wA) := ⟨pi_range2 hg hm ha.pa hs hs2, si_range2 ha.sd⟩
theorem pi_listA {K : PySem.W.Frag} (h : PD X Γ e te we) (hK : X.K = K := by rfl) : PDI X Γ tg e (iList K te) (wList we) := by
  subst hK
  exact ⟨pi_list h.pe, si_list h.sd⟩
theorem pi_tupA {K : PySem.W.Frag} (h : PD X Γ e te we) (hK : X.K = K := by rfl) : PDI X Γ tg e (iTup K te) (wTupI we) := by
  subst hK
  exact ⟨pi_tup h.pe, si_tup h.sd⟩
theorem pi_enumA {K : PySem.W.Frag} {elts : List Expr} {kk : Nat} {tpos : Pos} (hm : X.mg "enumerate" = none) (ha : PDA X Γ [a] tA wA) (hg : Gl X "enumerate" := by rfl) (hs : starEach [a] X.env = [(false, eval a X.env)] := by rfl) (hK : X.K = K := by rfl) : PDI X Γ (.Tuple elts kk tpos) (.Call (.Name "enumerate" p) [a] [] pos) (iEnum K tA) (wEnum wA) := by
  subst hK
  exact ⟨pi_enum hg hm ha.pa hs, si_enum ha.sd⟩
theorem pi_revA {K : PySem.W.Frag} (hm : X.mg "reversed" = none) (ha : PDA X Γ [a] tA wA) (hg : Gl X "reversed" := by rfl) (hs : starEach [a] X.env = [(false, eval a X.env)] := by rfl) (hK : X.K = K := by rfl) : PDI X Γ tg (.Call (.Name "reversed" p) [a] [] pos) (iRev K tA) (wRev wA) := by
  subst hK
  exact ⟨pi_reversed hg hm ha.pa hs, si_rev ha.sd⟩
theorem ps_forA (hi : PDI X Γ tg iter ti wi) (hg : PDG X Γ tg g wg) (hb : PDSs X Γ body ts ws) (hp : PassesOwn (model X.prog X.w) X.A X.env X.xe) (hc : X.calm = true := by rfl) (hs : ∀ x, foldedSetIterable iter X.env x = pure x := by intro _; rfl) :
    PDS X Γ (.For tg iter body [] pos) (tFor ti g ts) (wFor wi wg ws) := ⟨ps_for hp hc hi.pi hg.pg hb.ps hs, ss_for hi.sd hg.sd hb.sd⟩
theorem ps_whileA (hc : PDT X Γ c tt wt) (hb : PDSs X Γ body ts ws) (hp : PassesOwn (model X.prog X.w) X.A X.env X.xe) : PDS X Γ (.While c body [] pos) (tWhile tt ts) (wWhile wt ws) := ⟨ps_while hp hc.pt hb.ps, ss_while hc.sd hb.sd⟩
/-! comprehensions -/
structure PDTs (X : Cx) (Γ : Gm) (ifs : List Expr) (t : TT) (w : WT) : Prop where
  pt : PTs X ifs t
  sd : SndT Γ t w
theorem pts_nilA : PDTs X Γ [] tYes wYes := ⟨pts_nil, st_yes⟩
theorem pts_oneA (h : PDT X Γ c tt wt) : PDTs X Γ [c] tt wt := ⟨pts_one h.pt, h.sd⟩
theorem pd_lc {elt tg iter : Expr} {ifs : List Expr} {scope : Scope} (own : List (Str × Nat)) (hN : X.N.Nodup) (hi : PDI X Γ tg iter ti wi) (ok : BlkOk X.N X.env.scope scope own)
    (hg : ∀ (s : Shared) (H : Hp) (C : Addr) (cl : List (Str × Addr)) (fp : List Addr), PDG (X.blk s H scope (compEnvC scope cl C X.env) fp) Γ tg g wg) (ht : ∀ (s : Shared) (H : Hp) (C : Addr) (cl : List (Str × Addr)) (fp : List Addr), PDTs (X.blk s H scope (compEnvC scope cl C X.env) fp) Γ ifs tt wt)
    (he : ∀ (s : Shared) (H : Hp) (C : Addr) (cl : List (Str × Addr)) (fp : List Addr), PD (X.blk s H scope (compEnvC scope cl C X.env) fp) Γ elt te we) (hv : GW (own.map (·.2)) g) (hc : X.calm = true := by rfl) (hs : ∀ x, foldedSetIterable iter X.env x = pure x := by intro _; rfl) :
    PD X Γ (.ListComp elt [⟨tg, iter, ifs, 0⟩] scope pos) (tLc ti g tt te (own.map (·.2))) (wLc wi wg wt we (own.map (·.2))) :=
  ⟨pe_lc hc hN hi.pi ok (fun s H C cl fp => (hg s H C cl fp).pg) (fun s H C cl fp => (ht s H C cl fp).pt) (fun s H C cl fp => (he s H C cl fp).pe) hs,
    sd_lc hi.sd (hg ⟨⟨#[], {}⟩, #[], {}, 0, {}⟩ (fun _ => none) 0 [] []).sd hv (ht ⟨⟨#[], {}⟩, #[], {}, 0, {}⟩ (fun _ => none) 0 [] []).sd (he ⟨⟨#[], {}⟩, #[], {}, 0, {}⟩ (fun _ => none) 0 [] []).sd⟩
theorem ps_setLcA {i : Nat} {y : Str} {py : Pos} {elt tg iter : Expr} {ifs : List Expr} {scope : Scope} (own : List (Str × Nat)) (hN : X.N.Nodup) (hi : PDI X Γ tg iter ti wi) (ok : BlkOk X.N X.env.scope scope own)
    (hg : ∀ (s : Shared) (H : Hp) (C : Addr) (cl : List (Str × Addr)) (fp : List Addr), PDG (X.blk s H scope (compEnvC scope cl C X.env) fp) Γ tg g wg) (ht : ∀ (s : Shared) (H : Hp) (C : Addr) (cl : List (Str × Addr)) (fp : List Addr), PDTs (X.blk s H scope (compEnvC scope cl C X.env) fp) Γ ifs tt wt)
    (he : ∀ (s : Shared) (H : Hp) (C : Addr) (cl : List (Str × Addr)) (fp : List Addr), PD (X.blk s H scope (compEnvC scope cl C X.env) fp) Γ elt te we) (hv : GW (own.map (·.2)) g)
    (hsw : swapsWith (.ListComp elt [⟨tg, iter, ifs, 0⟩] scope pos) (some (.Name y py)) p.line X.env = pure true) (hyl : X.env.scope.names.lookup y = some .local := by rfl) (hy : X.N[i]? = some y := by rfl) (hc : X.calm = true := by rfl) (hs : ∀ x, foldedSetIterable iter X.env x = pure x := by intro _; rfl) :
    PDS X Γ (.Assign [.Name y py] (.ListComp elt [⟨tg, iter, ifs, 0⟩] scope pos) p) (tAsg (tLc ti g tt te (own.map (·.2))) (gName i)) (wSet i (wLc wi wg wt we (own.map (·.2)))) :=
  ⟨ps_setLc hc hN hy hyl hsw hi.pi ok (fun s H C cl fp => (hg s H C cl fp).pg) (fun s H C cl fp => (ht s H C cl fp).pt) (fun s H C cl fp => (he s H C cl fp).pe) hs,
    ss_set i (sd_lc hi.sd (hg ⟨⟨#[], {}⟩, #[], {}, 0, {}⟩ (fun _ => none) 0 [] []).sd hv (ht ⟨⟨#[], {}⟩, #[], {}, 0, {}⟩ (fun _ => none) 0 [] []).sd (he ⟨⟨#[], {}⟩, #[], {}, 0, {}⟩ (fun _ => none) 0 [] []).sd)⟩
end
end Yd

/-! YdG: reading a list that is still one's own within a test; a def of the text and its promise. -/
namespace Yd
open PySem L2

/-- within a test an own list may be lent: it is one's own again behind -/
def wBorT (i : Nat) (w : WT) : WT := fun ρ Q => match ρ[i]? with
  | some (.fr x) => w ((unfr ρ).set i (.d x)) Q
  | some (.own xs) => w (ρ.set i (.d (.list xs))) Q
  | _ => w ρ Q
def scalA : A → Bool
  | .d .none => true
  | .d (.bool _) => true
  | .d (.int _) => true
  | .d (.str _) => true
  | _ => false
def wBor (i : Nat) (w : WE) : WE := fun ρ Q => match ρ[i]? with
  | some (.fr x) => w ((unfr ρ).set i (.d x)) fun r => scalA r = true ∧ Q r
  | some (.own xs) => w (ρ.set i (.d (.list xs))) fun r => scalA r = true ∧ Q r
  | _ => w ρ Q
theorem Stp.lend {G : Gh} {F H F1 F' H' : Hp} (g : gInv G H) (e : Same F F1) (fb : ∀ a, isBox G a → F a = none) (s : Stp G F1 H F' H') : Stp G F H F H' :=
  ⟨Same.refl _, (e.trans s.ff).trans s.fh, s.gi, s.keep, fun _ h => .inl h, fb⟩
theorem st_bor {Γ : Gm} {t : TT} {w : WT} (i : Nat) (h : SndT Γ t w) : SndT Γ t (wBorT i w) := fun ρ Q F σ H K m q k => by
  unfold wBorT at q
  split at q
  · rename_i x e
    obtain ⟨F1, e1, m1⟩ := m.frzF e
    exact h _ Q F1 σ H K m1 q fun F' H' b s p => k F H' b (s.lend m.gi e1 m.st.box) p
  · rename_i xs e
    obtain ⟨F1, e1, m1⟩ := m.frz e
    exact h _ Q F1 σ H K m1 q fun F' H' b s p => k F H' b (s.lend m.gi e1 m.st.box) p
  · exact h ρ Q F σ H K m q k
theorem scal_res {Γ : Gm} {ρ ρ' : List A} {σ : St} {F F1 F2 H F' H' : Hp} {v : V} {r : A} (sc : scalA r = true) (rr : Res Γ ρ' σ F1 H F' H' v r) : Res Γ ρ σ F H F2 H' v r := by
  unfold scalA at sc
  split at sc
  · cases (show Rp F' v .none from rr); exact Rp.non
  · cases (show Rp F' v (.bool _) from rr); exact Rp.bl _
  · cases (show Rp F' v (.int _) from rr); exact Rp.int _
  · cases (show Rp F' v (.str _) from rr); exact Rp.str _
  · cases sc
theorem sd_bor {Γ : Gm} {t : TE} {w : WE} (i : Nat) (h : SndE Γ t w) : SndE Γ t (wBor i w) := fun ρ Q F σ H K m q k => by
  unfold wBor at q
  split at q
  · rename_i x e
    obtain ⟨F1, e1, m1⟩ := m.frzF e
    exact h _ _ F1 σ H K m1 q fun F' H' v r s rr p => k F H' v r (s.lend m.gi e1 m.st.box) (scal_res p.1 rr) p.2
  · rename_i xs e
    obtain ⟨F1, e1, m1⟩ := m.frz e
    exact h _ _ F1 σ H K m1 q fun F' H' v r s rr p => k F H' v r (s.lend m.gi e1 m.st.box) (scal_res p.1 rr) p.2
  · exact h ρ Q F σ H K m q k
theorem pt_bor {X : Cx} {Γ : Gm} {e : Expr} {t : TT} {w : WT} (i : Nat) (h : PDT X Γ e t w) : PDT X Γ e t (wBorT i w) := ⟨h.pt, st_bor i h.sd⟩
theorem pd_bor {X : Cx} {Γ : Gm} {e : Expr} {t : TE} {w : WE} (i : Nat) (h : PD X Γ e t w) : PD X Γ e t (wBor i w) := ⟨h.pe, sd_bor i h.sd⟩

/-! what a call makes out of what is known stands by itself -/
def frOk : A → Bool
  | .yard _ _ => true
  | .k _ => true
  | .d .none => true
  | .d (.bool _) => true
  | .d (.int _) => true
  | .d (.str _) => true
  | _ => false
def frR (r : A) (Q : A → Prop) : Prop := match r with
  | .d x => Q (.fr x)
  | .own xs => Q (.fr (.list xs))
  | _ => False
def wCallF (spec : Spc) (wa : WA) : WE := fun ρ Q => wa ρ fun rs => match fzs rs with
  | some as => as.all frOk = true ∧ spec as fun r => frR r Q
  | none => False
theorem kn_alone (G : Gh) (F : Hp) : kn ⟨G.b, kn G F⟩ (fun _ => none) = kn G F := by
  funext a
  show (match kn G F a with
    | some o => some o
    | none => none) = kn G F a
  cases kn G F a <;> rfl
theorem kn_dj {G : Gh} {F : Hp} (d : bDj G) (b : ∀ a, isBox G a → F a = none) : bDj ⟨G.b, kn G F⟩ := by
  unfold bDj at d ⊢
  obtain ⟨Gb, R⟩ := G
  cases Gb with
  | none => trivial
  | some p =>
    obtain ⟨x, y⟩ := p
    obtain ⟨d1, d2⟩ := d
    have d1 : R x = none := d1
    have d2 : R y = none := d2
    refine ⟨?_, ?_⟩
    · show kn _ F x = none
      unfold kn
      show (match R x with
        | some o => some o
        | none => F x) = none
      rw [d1]
      exact b x (.inl (.inl rfl))
    · show kn _ F y = none
      unfold kn
      show (match R y with
        | some o => some o
        | none => F y) = none
      rw [d2]
      exact b y (.inl (.inr rfl))
theorem ArgsR.alone {G : Gh} {C : Addr} {F : Hp} : ∀ {vs : List V} {as : List A}, ArgsR G C F vs as → as.all frOk = true → ArgsR ⟨G.b, kn G F⟩ C (fun _ => none) vs as
  | _, _, .nil, _ => .nil
  | _, _, .cons (r := r) h t, e => by
    rw [List.all_cons, Bool.and_eq_true] at e
    refine .cons ?_ (t.alone e.2)
    have sc := e.1
    cases r with
    | yard m k =>
      show YardAt _ _ _ _ _ _
      unfold YardAt
      rw [kn_alone]
      exact h
    | k x =>
      show Rp (kn _ _) _ _
      rw [kn_alone]
      exact h
    | d x =>
      have h : Rp F _ x := h
      show Rp _ _ x
      cases x with
      | none => cases h; exact .non
      | bool b => cases h; exact .bl b
      | int i => cases h; exact .int i
      | str s => cases h; exact .str s
      | list _ => cases sc
      | tuple _ => cases sc
      | dict _ => cases sc
    | _ => cases sc
theorem sd_callF {Γ : Gm} {ta : TA} {wa : WA} {spec : Spc} {E : XK} (h : SndA Γ ta wa) : SndE Γ (tCall (spA Γ.C spec) [] E ta) (wCallF spec wa) := fun ρ Q F σ H K m q k =>
  h ρ _ F σ H _ m q fun F1 H1 vs rs s r p => by
    split at p
    · rename_i as e
      obtain ⟨F2, k2, s2, a2⟩ := r.freeze m.gi e s (Same.refl _)
      refine ⟨⟨Γ.G.b, kn Γ.G F2⟩, fun _ => none, as, _, (fun _ _ e => nomatch e), ⟨s2.gi.1, kn.same s2.fh s2.gi, kn_dj s2.gi.2.2 s2.box⟩, fun _ _ => rfl, by rw [List.append_nil]; exact a2.alone p.1, p.2, fun F' H' v r' st q' hq => ?_⟩
      have kF : Same F2 (kn Γ.G F2) := kn.of s2.box
      have kR : Same Γ.G.R (kn Γ.G F2) := fun a o e => by unfold kn; rw [e]
      have st' : Stp Γ.G F2 H1 F2 H' := by
        refine ⟨Same.refl _, fun a o e => st.gi.2.1 a o (kF a o e), ⟨st.gi.1, fun a o e => st.gi.2.1 a o (kR a o e), s2.gi.2.2⟩, fun a o e n => ?_, fun a h => .inl h, s2.box⟩
        cases e2 : kn Γ.G F2 a with
        | some u =>
          have := kn.same s2.fh s2.gi a u e2
          rw [e] at this
          cases this
          exact st.gi.2.1 a o e2
        | none =>
          refine st.keep a o e fun z => ?_
          rcases z with z | z
          · exact n (.inl z)
          · exact z e2
      have nF : ∀ a, F' a ≠ none → F2 a = none ∧ H a = none := fun a h => by
        constructor
        · cases e2 : F2 a with
          | none => rfl
          | some o => exact absurd (st.box a (.inr (by show kn Γ.G F2 a ≠ none; rw [kF a o e2]; simp))) h
        · rcases st.new a h with z | z
          · exact absurd rfl z
          · exact s2.none_back z
      have s3 := s2.trans m.gi st'
      cases r' with
      | d x => exact k F2 H' v (.fr x) s3 ⟨F', q', st.fh, nF⟩ hq
      | own xs =>
        obtain ⟨p, ws, rfl, h1, h2, h3, h4⟩ := q'
        refine k F2 H' _ (.fr (.list xs)) s3 ⟨upd F' p (.lst ws), .lst upd_same (h4.up fun b u e => ?_), fun b u e => ?_, fun b e => ?_⟩ hq
        · rw [upd_ne (fun z => by rw [z, h2] at e; cases e)]; exact e
        · by_cases z : b = p
          · subst z; rw [upd_same] at e; cases e; exact h3
          · rw [upd_ne z] at e; exact st.fh b u e
        · by_cases z : b = p
          · subst z; exact ⟨s2.fh.free h1, s2.none_back h1⟩
          · rw [upd_ne z] at e; exact nF b e
      | _ => exact hq.elim
    · exact p.elim
theorem pd_callF {X : Cx} {Γ : Gm} {e : Expr} {es : List Expr} {tA : TA} {wA : WA} {pos p : Pos} {x : Str} {k j : Nat} {spec : Spc} (cl : Cal X.prog X.w X.K X.mg X.base Γ.C x k spec) (hr : Room j X.A) (hk : k ≤ j) (ha : PDA X Γ (e :: es) tA wA) (hg : Gl X x := by rfl) (hdb : (x == ("__debug__" : Str)) = false := by decide)
    (he : starEach (e :: es) X.env = (false, eval e X.env) :: starEach es X.env := by rfl) (hpl : (backTo pos (starEach es X.env)).any (·.1) = false := by rfl) :
    PD X Γ (.Call (.Name x p) (e :: es) [] pos) (tCall (spA Γ.C spec) [] E0 tA) (wCallF spec wA) := by
  obtain ⟨f, fd, ps, F, hm, kp, bd⟩ := cl
  exact ⟨pe_call F (hr.mono hk) hg hm kp bd .nil pass0 ha.pa hdb he hpl, sd_callF ha.sd⟩

/-- a def of the text behind the top -/
structure Dfn (K : PySem.W.Frag) (mg : Str → Option Value) (x : Str) (st : Stmt) (ps : List Str) : Prop where
  ex : ∃ (f : Addr) (fd : FuncData), Fun K x x st f fd ∧ mg x = some (.ref f) ∧ Binds K fd ps []
/-- a method of the class at C -/
structure Mfn (K : PySem.W.Frag) (C : Addr) (m qual : Str) (st : Stmt) (ps : List Str) : Prop where
  ex : ∃ (f : Addr) (fd : FuncData), Fun K m qual st f fd ∧ Meth K C m f ∧ Binds K fd ps []
section
open PySem.Spec PyProof.Rows
variable {P : Program} {w : World} {K : PySem.W.Frag} {mg : Str → Option Value} {base : Heap} {C : Addr} {x m qual : Str} {st : Stmt} {N ps : List Str} {spec : Spc} {k : Nat}
/-- THE RULE for a def -/
theorem cal_of (D : Dfn K mg x st ps) (S : FnScope N ps (defScope st)) (len : ∀ as Q, spec as Q → as.length = ps.length)
    (hb : ∀ (f : Addr) (cdv : Value) (A0 : Around) (outer : List Env) (s : Shared) (H : Hp) (E : XK), Room k (A0.deeper (envOfC x (defScope st) s.heap.objs.size f cdv)) → ∀ (G : Gh) (F : Hp) (as : List A) (Q : A → Prop), spec as Q →
      ∃ t wt, PDSs (cxOf CX0 P w K mg base N x (defScope st) f cdv A0 outer s H E).nox ⟨G, C, F, H⟩ (defBody st) t wt ∧ wt (startA N.length as) { nx := fun _ => Q .non, rt := Q }) :
    Cal P w K mg base C x (k + 1) spec := by
  obtain ⟨f, fd, F, hm, bd⟩ := D
  refine ⟨f, fd, ps, F.ok S (fun vs H Q E h => spA_len len h) (fun cdv A0 outer s H vs Q E hr h => body_of h fun G F' as Q' hs => hb f cdv A0 outer s H E hr G F' as Q' hs), hm, F.kp, bd⟩
theorem calM_of (D : Mfn K C m qual st ps) (cY : Cls K C) (S : FnScope N ps (defScope st)) (len : ∀ as Q, spec as Q → as.length = ps.length)
    (hb : ∀ (f : Addr) (cdv : Value) (A0 : Around) (outer : List Env) (s : Shared) (H : Hp) (E : XK), Room k (A0.deeper (envOfC qual (defScope st) s.heap.objs.size f cdv)) → ∀ (G : Gh) (F : Hp) (as : List A) (Q : A → Prop), spec as Q →
      ∃ t wt, PDSs (cxOf CX0 P w K mg base N qual (defScope st) f cdv A0 outer s H E).nox ⟨G, C, F, H⟩ (defBody st) t wt ∧ wt (startA N.length as) { nx := fun _ => Q .non, rt := Q }) :
    CalM P w K mg base C m (k + 1) spec := by
  obtain ⟨f, fd, F, hm, bd⟩ := D
  exact ⟨f, fd, ps, F.ok S (fun vs H Q E h => spA_len len h) (fun cdv A0 outer s H vs Q E hr h => body_of h fun G F' as Q' hs => hb f cdv A0 outer s H E hr G F' as Q' hs), hm, bd, cY⟩
end
end Yd

/-! YdM: yards as functions, names as lists of naturals; places in lists that are made of ranges. -/
namespace Yd
open PySem L2

/-- a yard: how many places, their marks, the kinds of ties -/
structure Y where
  n : Nat
  m : Nat → Int
  k : Nat → Nat → Int
abbrev Y.ml (y : Y) : List Int := (List.range y.n).map y.m
abbrev Y.kl (y : Y) : List (List Int) := (List.range y.n).map fun i => (List.range y.n).map fun j => y.k i j
abbrev yA (y : Y) : A := .yard y.ml y.kl
abbrev nI (i : Nat) : PyData := .int (i : Int)
abbrev NL (l : List Nat) : PyData := .list (l.map nI)

theorem atI_some {α : Type} {xs : List α} {i : Nat} (h : i < xs.length) : atI xs (i : Int) = some xs[i] := atI_nat (List.getElem?_eq_getElem h)
theorem atI_map {α β : Type} (f : α → β) (xs : List α) (i : Int) : atI (xs.map f) i = (atI xs i).map f := by
  unfold atI
  rw [List.length_map]
  cases ixN xs.length i with
  | none => rfl
  | some j => simp
theorem atI_range {n i : Nat} (h : i < n) : atI (List.range n) (i : Int) = some i := by
  have e := atI_some (xs := List.range n) (i := i) (by simpa using h)
  simpa using e
theorem atI_names {l : List Nat} {i : Nat} (h : i < l.length) : atI (l.map nI) (i : Int) = some (nI l[i]) := by
  rw [atI_map, atI_some h]; rfl
theorem at_marked (y : Y) {i : Nat} (h : i < y.n) : atI (y.ml.map PyData.int) (i : Int) = some (.int (y.m i)) := by
  rw [atI_map, atI_map, atI_range h]; rfl
theorem at_kinds (y : Y) {i : Nat} (h : i < y.n) : atI (kd y.kl) (i : Int) = some (.list (((List.range y.n).map fun j => y.k i j).map PyData.int)) := by
  unfold kd
  rw [atI_map, atI_map, atI_range h]; rfl
theorem at_kind (y : Y) {i j : Nat} (h : j < y.n) : atI (((List.range y.n).map fun j => y.k i j).map PyData.int) (j : Int) = some (.int (y.k i j)) := by
  rw [atI_map, atI_map, atI_range h]; rfl
theorem kd_length (y : Y) : (kd y.kl).length = y.n := by simp [kd]
theorem rgD_get {lo : Int} {n i : Nat} {d : PyData} (h : (rgD lo n)[i]? = some d) : i < n ∧ d = .int (lo + (i : Nat)) := by
  unfold rgD at h
  rw [List.getElem?_map] at h
  obtain ⟨j, ej, rfl⟩ := Option.map_eq_some_iff.mp h
  obtain ⟨hj, e2⟩ := List.getElem?_eq_some_iff.mp ej
  simp at hj e2
  subst e2
  exact ⟨hj, rfl⟩
theorem rgD_length (lo : Int) (n : Nat) : (rgD lo n).length = n := by simp [rgD]
theorem rgD0_get {n i : Nat} {d : PyData} (h : (rgD 0 n)[i]? = some d) : i < n ∧ d = nI i := by
  obtain ⟨h1, h2⟩ := rgD_get h
  exact ⟨h1, by rw [h2, Int.zero_add]⟩
theorem rgD0 (n : Nat) : rgD 0 n = (List.range n).map nI := by
  unfold rgD
  simp

/-! ### equal data -/
mutual
def plainD : PyData → Bool
  | .none => true
  | .bool _ => false
  | .int _ => true
  | .str _ => true
  | .list xs => plainAll xs
  | .tuple xs => plainAll xs
  | .dict _ => false
def plainAll : List PyData → Bool
  | [] => true
  | x :: xs => plainD x && plainAll xs
end
mutual
theorem eqv_iff : ∀ (x y : PyData), plainD x = true → plainD y = true → (PyData.eqv x y = true ↔ x = y)
  | .none, y, _, h => by cases y <;> simp_all [PyData.eqv, plainD]
  | .bool _, _, h, _ => by simp [plainD] at h
  | .int i, y, _, h => by cases y <;> simp_all [PyData.eqv, plainD]
  | .str i, y, _, h => by cases y <;> simp_all [PyData.eqv, plainD]
  | .list xs, y, h1, h2 => by
    cases y with
    | list ys =>
      have e := eqvAll_iff xs ys (by simpa [plainD] using h1) (by simpa [plainD] using h2)
      simp [PyData.eqv, e]
    | bool _ => simp [plainD] at h2
    | dict _ => simp [plainD] at h2
    | _ => simp [PyData.eqv]
  | .tuple xs, y, h1, h2 => by
    cases y with
    | tuple ys =>
      have e := eqvAll_iff xs ys (by simpa [plainD] using h1) (by simpa [plainD] using h2)
      simp [PyData.eqv, e]
    | bool _ => simp [plainD] at h2
    | dict _ => simp [plainD] at h2
    | _ => simp [PyData.eqv]
  | .dict _, _, h, _ => by simp [plainD] at h
theorem eqvAll_iff : ∀ (xs ys : List PyData), plainAll xs = true → plainAll ys = true → (PyData.eqvAll xs ys = true ↔ xs = ys)
  | [], [], _, _ => by simp [PyData.eqvAll]
  | [], _ :: _, _, _ => by simp [PyData.eqvAll]
  | _ :: _, [], _, _ => by simp [PyData.eqvAll]
  | x :: xs, y :: ys, h1, h2 => by
    simp only [plainAll, Bool.and_eq_true] at h1 h2
    have e1 := eqv_iff x y h1.1 h2.1
    have e2 := eqvAll_iff xs ys h1.2 h2.2
    simp [PyData.eqvAll, e1, e2]
end
theorem eqv_plain {x y : PyData} [Decidable (x = y)] (h1 : plainD x = true) (h2 : plainD y = true) : PyData.eqv x y = decide (x = y) := by
  rw [Bool.eq_iff_iff, eqv_iff x y h1 h2, decide_eq_true_iff]
theorem plainAll_iff : ∀ xs : List PyData, plainAll xs = true ↔ ∀ x ∈ xs, plainD x = true
  | [] => by simp [plainAll]
  | x :: xs => by simp [plainAll, plainAll_iff xs]
theorem plain_names (l : List Nat) : plainAll (l.map nI) = true := by
  rw [plainAll_iff]
  intro x hx
  obtain ⟨i, _, rfl⟩ := List.mem_map.mp hx
  rfl
theorem any_names (l : List Nat) (i : Nat) : ((l.map nI).any fun z => PyData.eqv z (nI i)) = decide (i ∈ l) := by
  induction l with
  | nil => simp
  | cons a l ih =>
    rw [List.map_cons, List.any_cons, ih]
    have e : PyData.eqv (nI a) (nI i) = decide (i = a) := by
      simp only [PyData.eqv]
      by_cases h : i = a
      · subst h; simp
      · have h' : ¬ a = i := fun z => h z.symm
        have : ¬ ((a : Int) = (i : Int)) := by omega
        simp [h, h', this]
    rw [e]
    by_cases h : i = a <;> simp [h]
theorem shaped_int (i : Int) : SeqAt.shaped (.int i) = true := by simp [SeqAt.shaped, PyData.canLay0, PyData.depth]
theorem canLay_names (l : List Nat) : PyData.canLayAll0 (l.map nI) = true := by
  induction l with
  | nil => simp [PyData.canLayAll0]
  | cons a l ih => simp only [List.map_cons, PyData.canLayAll0, ih, PyData.canLay0, Bool.and_self]
theorem depth_names (l : List Nat) : PyData.depthAll (l.map nI) ≤ 1 := by
  induction l with
  | nil => simp [PyData.depthAll]
  | cons a l ih => simp only [List.map_cons, PyData.depthAll, PyData.depth]; omega
theorem shaped_names (l : List Nat) : SeqAt.shaped (NL l) = true := by
  have h := depth_names l
  show (PyData.canLay0 (NL l) && decide (PyData.depth (NL l) ≤ 64)) = true
  rw [Bool.and_eq_true]
  refine ⟨?_, decide_eq_true ?_⟩
  · simp only [PyData.canLay0]
    exact canLay_names l
  · simp only [PyData.depth]
    omega
theorem NL_inj {l l' : List Nat} : NL l = NL l' ↔ l = l' := by
  constructor
  · intro h
    injection h with h
    have f : Function.Injective nI := fun a b e => by injection e with e; omega
    exact List.map_inj_right (fun a b e => f e) |>.mp h
  · intro h; rw [h]
theorem eqv_names (l l' : List Nat) : PyData.eqv (NL l) (NL l') = decide (l = l') := by
  have h1 : plainD (NL l) = true := by simp only [plainD]; exact plain_names l
  have h2 : plainD (NL l') = true := by simp only [plainD]; exact plain_names l'
  rw [Bool.eq_iff_iff, eqv_iff _ _ h1 h2, NL_inj, decide_eq_true_iff]
end Yd

/-! YdS: the transformers step by step: equations that fire only where a value's kind is known. -/
namespace Yd
open PySem L2

def optK {α : Type} (o : Option α) (K : α → Prop) : Prop := match o with
  | some x => K x
  | none => False
theorem optK_some {α : Type} (x : α) (K : α → Prop) : optK (some x) K = K x := rfl
def ownK (o : Option A) (K : List PyData → Prop) : Prop := match o with
  | some (.own xs) => K xs
  | _ => False
theorem ownK_own (xs : List PyData) (K : List PyData → Prop) : ownK (some (.own xs)) K = K xs := rfl
def nameK (i : Nat) (o : Option A) (Q : A → Prop) : Prop := match o with
  | some (.own xs) => Q (.bor i xs)
  | some (.bor _ _) => False
  | some .un => False
  | some (.fr _) => False
  | some (.dct _ _) => False
  | some a => Q a
  | none => False
section
variable (i : Nat) (Q : A → Prop)
theorem nameK_own (xs) : nameK i (some (.own xs)) Q = Q (.bor i xs) := rfl
theorem nameK_d (x) : nameK i (some (.d x)) Q = Q (.d x) := rfl
theorem nameK_yard (m k) : nameK i (some (.yard m k)) Q = Q (.yard m k) := rfl
theorem nameK_box : nameK i (some .box) Q = Q .box := rfl
theorem nameK_k (x) : nameK i (some (.k x)) Q = Q (.k x) := rfl
theorem nameK_raw (v) : nameK i (some (.raw v)) Q = Q (.raw v) := rfl
theorem e_name (ρ) : wName i ρ Q = nameK i (ρ[i]?) Q := by unfold wName nameK; rfl
end
def blK (r : A) (K : Bool → Prop) : Prop := match r with
  | .d (.bool b) => K b
  | _ => False
theorem blK_bl (b : Bool) (K : Bool → Prop) : blK (.d (.bool b)) K = K b := rfl
def intK (r : A) (K : Int → Prop) : Prop := match r with
  | .d (.int b) => K b
  | _ => False
theorem intK_int (b : Int) (K : Int → Prop) : intK (.d (.int b)) K = K b := rfl
def ydK (r : A) (K : List Int → List (List Int) → Prop) : Prop := match r with
  | .yard m k => K m k
  | _ => False
theorem ydK_y (m : List Int) (k : List (List Int)) (K : List Int → List (List Int) → Prop) : ydK (.yard m k) K = K m k := rfl
def frK (r : A) (K : A → Prop) : Prop := match r with
  | .bor _ _ => False
  | r => K r
section
variable (K : A → Prop)
theorem frK_d (x) : frK (.d x) K = K (.d x) := rfl
theorem frK_own (x) : frK (.own x) K = K (.own x) := rfl
theorem frK_yard (m k) : frK (.yard m k) K = K (.yard m k) := rfl
theorem frK_k (v) : frK (.k v) K = K (.k v) := rfl
theorem frK_fr (v) : frK (.fr v) K = K (.fr v) := rfl
theorem frK_raw (v) : frK (.raw v) K = K (.raw v) := rfl
theorem frK_box : frK .box K = K .box := rfl
end
def rtK (r : A) (K : A → Prop) : Prop := match r with
  | .un => False
  | .fr _ => False
  | .dct _ _ => False
  | r => K (unb r)
section
variable (K : A → Prop)
theorem rtK_d (x) : rtK (.d x) K = K (.d x) := rfl
theorem rtK_own (x) : rtK (.own x) K = K (.own x) := rfl
theorem rtK_bor (i x) : rtK (.bor i x) K = K (.own x) := rfl
theorem rtK_yard (m k) : rtK (.yard m k) K = K (.yard m k) := rfl
end
def lsK (r : A) (K : List PyData → Prop) : Prop := match r with
  | .d (.list ds) => K ds
  | .own ds => K ds
  | _ => False
theorem lsK_d (x) (K : List PyData → Prop) : lsK (.d (.list x)) K = K x := rfl
theorem lsK_own (x) (K : List PyData → Prop) : lsK (.own x) K = K x := rfl
def tpK (r : A) (K : List PyData → Prop) : Prop := match r with
  | .d (.tuple ds) => K ds
  | _ => False
theorem tpK_d (x) (K : List PyData → Prop) : tpK (.d (.tuple x)) K = K x := rfl
def fzK (i : Nat) (o : Option A) (K : List PyData → Prop) (N : PyData → Prop) (L : Prop) : Prop := match o with
  | some (.fr x) => N x
  | some (.own xs) => K xs
  | _ => L
section
variable (i : Nat) (K : List PyData → Prop) (N : PyData → Prop) (L : Prop)
theorem fzK_own (xs) : fzK i (some (.own xs)) K N L = K xs := rfl
theorem fzK_fr (x) : fzK i (some (.fr x)) K N L = N x := rfl
theorem fzK_d (xs) : fzK i (some (.d xs)) K N L = L := rfl
theorem fzK_yard (m k) : fzK i (some (.yard m k)) K N L = L := rfl
theorem fzK_box : fzK i (some .box) K N L = L := rfl
theorem fzK_raw (v) : fzK i (some (.raw v)) K N L = L := rfl
theorem fzK_k (v) : fzK i (some (.k v)) K N L = L := rfl
theorem fzK_un : fzK i (some .un) K N L = L := rfl
theorem e_unfr (ρ : List A) : unfr ρ = ρ.map unfrA := rfl
theorem unfrA_un : unfrA .un = .un := rfl
theorem unfrA_d (x) : unfrA (.d x) = .d x := rfl
theorem unfrA_own (x) : unfrA (.own x) = .own x := rfl
theorem unfrA_yard (m k) : unfrA (.yard m k) = .yard m k := rfl
theorem unfrA_box : unfrA .box = .box := rfl
theorem unfrA_raw (v) : unfrA (.raw v) = .raw v := rfl
theorem unfrA_k (v) : unfrA (.k v) = .k v := rfl
theorem unfrA_fr (v) : unfrA (.fr v) = .un := rfl
end

/-! statements: what comes later waits until the slots are known -/
def doS (a : WS) (ρ : List A) (P : Po) : Prop := a ρ P
theorem e_do (a : WS) (x : A) (ρ : List A) (P : Po) : doS a (x :: ρ) P = a (x :: ρ) P := rfl
def doT (a : WT) (ρ : List A) (Q : Bool → Prop) : Prop := a ρ Q
theorem e_doT (a : WT) (x : A) (ρ : List A) (Q : Bool → Prop) : doT a (x :: ρ) Q = a (x :: ρ) Q := rfl
section
variable (ρ : List A) (P : Po) (e e2 : WE) (a b : WS) (t : WT) (i j : Nat) (g : WG) (wi : WI)
theorem e_next : wNext ρ P = P.nx ρ := rfl
theorem e_seq : wSeq a b ρ P = a ρ { P with nx := fun ρ' => doS b ρ' P } := rfl
theorem e_break : wBreak ρ P = P.bk ρ := rfl
theorem e_cont : wCont ρ P = P.ct ρ := rfl
theorem e_drop : wDrop e ρ P = e ρ fun _ => P.nx ρ := rfl
theorem e_ret : wRet e ρ P = e ρ fun r => rtK r P.rt := by unfold wRet rtK; rfl
theorem e_retN : wRetN ρ P = P.rt .non := rfl
theorem e_if : wIf t a b ρ P = t ρ fun c => (c = true → a ρ P) ∧ (c = false → b ρ P) := rfl
theorem e_set : wSet i e ρ P = e ρ fun r => frK r fun r => P.nx (ρ.set i r) := by unfold wSet frK; rfl
theorem e_fz : wFz i a ρ P = fzK i (ρ[i]?) (fun xs => a (ρ.set i (.d (.list xs))) P) (fun x => a ((unfr ρ).set i (.d x)) P) (a ρ P) := by unfold wFz fzK; rfl
theorem e_app : wApp i e ρ P = ownK (ρ[i]?) fun xs => e ρ fun r => optK (toD r) fun d => xs.length < sizeLine ∧ P.nx (ρ.set i (.own (xs ++ [d]))) := by
  unfold wApp ownK optK
  cases ρ[i]? with
  | none => rfl
  | some a =>
    cases a with
    | own xs =>
      show e ρ _ = e ρ _
      congr 1
      funext r
      cases toD r <;> rfl
    | _ => rfl
theorem e_put : wPut i e e2 ρ P = ownK (ρ[i]?) fun xs => e2 ρ fun r => optK (toD r) fun d => e ρ fun q => intK q fun n => ∃ j, ixN xs.length n = some j ∧ P.nx (ρ.set i (.own (xs.set j d))) := by
  unfold wPut ownK optK intK
  cases ρ[i]? with
  | none => rfl
  | some a =>
    cases a with
    | own xs =>
      show e2 ρ _ = e2 ρ _
      congr 1
      funext r
      cases toD r with
      | none => rfl
      | some d =>
        show e ρ _ = e ρ _
        congr 1
    | _ => rfl
theorem e_clear : wClear i ρ P = ownK (ρ[i]?) fun _ => P.nx (ρ.set i (.own [])) := by unfold wClear ownK; rfl
theorem e_popSet : wPopSet j i ρ P = ownK (ρ[i]?) fun xs => ∃ d, xs[xs.length - 1]? = some d ∧ P.nx ((ρ.set i (.own xs.dropLast)).set j (.d d)) := by unfold wPopSet ownK; rfl
theorem e_appPop : wAppPop i j e ρ P = ownK (ρ[i]?) fun xs => ownK (ρ[j]?) fun ys => i ≠ j ∧ xs.length < sizeLine ∧ ys.length ≤ sizeLine ∧ e ρ fun r => intK r fun k => 0 ≤ k ∧ k < ys.length ∧ ∀ d, ys[k.toNat]? = some d → P.nx ((ρ.set j (.own (ys.eraseIdx k.toNat))).set i (.own (xs ++ [d]))) := by
  unfold wAppPop ownK intK
  have tail : ∀ xs ys, (e ρ fun r => match r with
    | .d (.int k) => 0 ≤ k ∧ k < (ys : List PyData).length ∧ ∀ d, ys[k.toNat]? = some d → P.nx ((ρ.set j (.own (ys.eraseIdx k.toNat))).set i (.own (xs ++ [d])))
    | _ => False) = (e ρ fun r => intK r fun k => 0 ≤ k ∧ k < ys.length ∧ ∀ d, ys[k.toNat]? = some d → P.nx ((ρ.set j (.own (ys.eraseIdx k.toNat))).set i (.own (xs ++ [d])))) := by
    intro xs ys
    congr 1
  cases h1 : ρ[i]? with
  | none => rfl
  | some a =>
    cases a with
    | own xs =>
      cases h2 : ρ[j]? with
      | none => rfl
      | some b =>
        cases b with
        | own ys =>
          show (i ≠ j ∧ xs.length < sizeLine ∧ ys.length ≤ sizeLine ∧ _) = (i ≠ j ∧ xs.length < sizeLine ∧ ys.length ≤ sizeLine ∧ _)
          congr 3
        | _ => rfl
    | _ => cases ρ[j]? <;> rfl
theorem e_ext : wExt i e ρ P = ownK (ρ[i]?) fun xs => e ρ fun r => (match r with
    | .own ys => xs.length + ys.length ≤ sizeLine ∧ P.nx (ρ.set i (.own (xs ++ ys)))
    | _ => False) := by unfold wExt ownK; rfl
theorem e_for : wFor wi g a ρ P = wi ρ fun items => ∃ I : Nat → List A → Prop, I 0 ρ ∧ (∀ i d ρ', items[i]? = some d → I i ρ' → g d ρ' fun ρ2 => doS a ρ2 { P with nx := I (i + 1), ct := I (i + 1), bk := P.nx }) ∧ ∀ ρ', I items.length ρ' → P.nx ρ' := rfl
theorem e_while : wWhile t a ρ P = ∃ I : Nat → List A → Prop, (∃ m, I m ρ) ∧ ∀ m ρ', I m ρ' → doT t ρ' fun c => (c = true → doS a ρ' { P with nx := fun ρ2 => ∃ m', m' < m ∧ I m' ρ2, ct := fun ρ2 => ∃ m', m' < m ∧ I m' ρ2, bk := P.nx }) ∧ (c = false → P.nx ρ') := rfl
theorem e_asg : wAsg e g ρ P = e ρ fun r => optK (toD r) fun d => g d ρ P.nx := by
  unfold wAsg optK
  congr 1
  funext r
  cases toD r <;> rfl
theorem e_gN (d : PyData) (Q : List A → Prop) : gwN i d ρ Q = Q (ρ.set i (.d d)) := rfl
theorem e_gT (n : Nat) (bs) (ds : List PyData) (Q : List A → Prop) : gwT n bs (.tuple ds) ρ Q = (ds.length = n ∧ bs ds ρ Q) := rfl
theorem e_gNil (Q : List A → Prop) : gwNil [] ρ Q = Q ρ := rfl
theorem e_gCons (x : WG) (y) (d : PyData) (ds : List PyData) (Q : List A → Prop) : gwCons x y (d :: ds) ρ Q = x d ρ fun ρ' => y ds ρ' Q := rfl
end
/-! expressions -/
section
variable (ρ : List A) (Q : A → Prop) (QT : Bool → Prop) (e e2 e3 : WE) (t t2 : WT) (wa : WA) (f f2 : A → A → (A → Prop) → Prop) (fu : A → (A → Prop) → Prop) (fc : List A → (A → Prop) → Prop) (a : A)
theorem e_c : wC a ρ Q = Q a := rfl
theorem e_op : wOp f e e2 ρ Q = e ρ fun x => e2 ρ fun y => f x y Q := rfl
theorem e_un : wUn fu e ρ Q = e ρ fun x => fu x Q := rfl
theorem e_test : wTest e ρ QT = e ρ fun r => blK r QT := by unfold wTest blK; rfl
theorem e_and : wAnd t t2 ρ QT = t ρ fun c => (c = true → t2 ρ QT) ∧ (c = false → QT false) := rfl
theorem e_or : wOr t t2 ρ QT = t ρ fun c => (c = true → QT true) ∧ (c = false → t2 ρ QT) := rfl
theorem e_not : wNot t ρ QT = t ρ fun c => QT (!c) := rfl
theorem e_andV : wAndV e e2 ρ Q = e ρ fun r => blK r fun c => (c = true → e2 ρ Q) ∧ (c = false → Q (.bl false)) := by unfold wAndV blK; rfl
theorem e_orV : wOrV e e2 ρ Q = e ρ fun r => blK r fun c => (c = true → Q (.bl true)) ∧ (c = false → e2 ρ Q) := by unfold wOrV blK; rfl
theorem e_notV : wNotV e ρ Q = e ρ fun r => blK r fun c => Q (.bl (!c)) := by unfold wNotV blK; rfl
theorem e_ifE : wIfE t e e2 ρ Q = t ρ fun c => (c = true → e ρ Q) ∧ (c = false → e2 ρ Q) := rfl
theorem e_nil (QA : List A → Prop) : wNil ρ QA = QA [] := rfl
theorem e_cons (QA : List A → Prop) : wCons e wa ρ QA = e ρ fun x => wa ρ fun xs => QA (x :: xs) := rfl
theorem e_tup : wTupD wa ρ Q = wa ρ fun rs => optK (allD rs) fun ds => ds.length ≤ sizeLine ∧ Q (.d (.tuple ds)) := by
  unfold wTupD optK
  congr 1
  funext r
  cases allD r <;> rfl
theorem e_lst : wLstD wa ρ Q = wa ρ fun rs => optK (allD rs) fun ds => ds.length ≤ sizeLine ∧ Q (.own ds) := by
  unfold wLstD optK
  congr 1
  funext r
  cases allD r <;> rfl
theorem e_cb : wCB fc wa ρ Q = wa ρ fun rs => fc rs Q := rfl
theorem e_chain : wChain f f2 e e2 e3 ρ Q = e ρ fun x => e2 ρ fun y => intK y fun j => f x (.d (.int j)) fun r => blK r fun k => (k = true → e3 ρ fun z => f2 (.d (.int j)) z Q) ∧ (k = false → Q (.bl false)) := by unfold wChain intK blK; rfl
theorem e_marked : wMarked e ρ Q = e ρ fun r => ydK r fun m _ => Q (.k (.tuple (m.map PyData.int))) := by unfold wMarked ydK; rfl
theorem e_kinds : wKinds e ρ Q = e ρ fun r => ydK r fun _ k => Q (.k (.list (kd k))) := by unfold wKinds ydK; rfl
theorem e_meth (spec : Spc) : wMeth spec e wa ρ Q = e ρ fun r => ydK r fun m k => wa ρ fun rs => optK (fzs rs) fun as => spec (.yard m k :: as) Q := by
  unfold wMeth ydK optK
  congr 1
  funext r
  cases r with
  | yard m k =>
    show wa ρ _ = wa ρ _
    congr 1
    funext rs
    cases fzs rs <;> rfl
  | _ => rfl
theorem e_make (spec : SpI) : wMake spec wa ρ Q = wa ρ fun rs => optK (fzs rs) fun as => spec as fun m k => Q (.yard m k) := by
  unfold wMake optK
  congr 1
  funext r
  cases fzs r <;> rfl
theorem e_call (spec : Spc) : wCall spec wa ρ Q = wa ρ fun rs => optK (fzs rs) fun as => spec as Q := by
  unfold wCall optK
  congr 1
  funext r
  cases fzs r <;> rfl
theorem e_lc (wi : WI) (g : WG) (vs : List Nat) : wLc wi g t e vs ρ Q = wi ρ fun items => ∃ I : Nat → List PyData → Prop, I 0 [] ∧
  (∀ i d acc, items[i]? = some d → I i acc → g d (wipeA ρ vs) fun ρ2 => t ρ2 fun b => (b = true → e ρ2 fun r => optK (toD r) fun y => acc.length < sizeLine ∧ I (i + 1) (acc ++ [y])) ∧ (b = false → I (i + 1) acc)) ∧ ∀ acc, I items.length acc → Q (.own acc) := by
  have h : ∀ (I : Nat → List PyData → Prop) (i : Nat) (acc : List PyData), (fun r => (match toD r with
    | some y => acc.length < sizeLine ∧ I (i + 1) (acc ++ [y])
    | none => False)) = fun r => optK (toD r) fun y => acc.length < sizeLine ∧ I (i + 1) (acc ++ [y]) := by
    intro I i acc
    funext r
    unfold optK
    cases toD r <;> rfl
  unfold wLc
  congr 1
  funext items
  congr 1
  funext I
  congr 2
  simp only [← h]
  all_goals rfl
theorem e_wipe0 : wipeA ρ [] = ρ := rfl
theorem e_wipe (v : Nat) (vs : List Nat) : wipeA ρ (v :: vs) = (wipeA ρ vs).set v .un := rfl
theorem e_yes : wYes ρ QT = QT true := rfl
theorem e_range1 (QI : List PyData → Prop) : wRange1 wa ρ QI = wa ρ fun rs => (match rs with
  | [r] => intK r fun j => -(2 ^ 62) ≤ j ∧ j < 2 ^ 62 ∧ QI (rgD 0 j.toNat)
  | _ => False) := by
  unfold wRange1
  congr 1
  funext rs
  match rs with
  | [] => rfl
  | [r] => unfold intK; cases r with
    | d x => cases x <;> rfl
    | _ => rfl
  | a :: _ :: _ => cases a with
    | d x => cases x <;> rfl
    | _ => rfl
theorem e_range2 (QI : List PyData → Prop) : wRange2 wa ρ QI = wa ρ fun rs => (match rs with
  | [r, q] => intK r fun i => intK q fun j => (-(2 ^ 62) ≤ i ∧ i < 2 ^ 62 ∧ -(2 ^ 62) ≤ j ∧ j < 2 ^ 62) ∧ QI (rgD i (j - i).toNat)
  | _ => False) := by
  unfold wRange2
  congr 1
  funext rs
  match rs with
  | [] => rfl
  | [a] => cases a with
    | d x => cases x <;> rfl
    | _ => rfl
  | [r, q] =>
    unfold intK
    cases r with
    | d x => cases x with
      | int i => cases q with
        | d y => cases y <;> rfl
        | _ => rfl
      | _ => rfl
    | _ => rfl
  | a :: b :: _ :: _ => cases a with
    | d x => cases x with
      | int _ => cases b with
        | d y => cases y <;> rfl
        | _ => rfl
      | _ => rfl
    | _ => rfl
theorem e_list (QI : List PyData → Prop) : wList e ρ QI = e ρ fun r => lsK r QI := by unfold wList lsK; rfl
theorem e_tupI (QI : List PyData → Prop) : wTupI e ρ QI = e ρ fun r => tpK r QI := by unfold wTupI tpK; rfl
theorem e_enum (QI : List PyData → Prop) : wEnum wa ρ QI = wa ρ fun rs => (match rs with
  | [r] => lsK r fun ds => QI (enD ds)
  | _ => False) := by
  unfold wEnum
  congr 1
  funext rs
  match rs with
  | [] => rfl
  | [r] => unfold lsK; cases r with
    | d x => cases x <;> rfl
    | _ => rfl
  | a :: _ :: _ => cases a with
    | d x => cases x <;> rfl
    | _ => rfl
theorem e_rev (QI : List PyData → Prop) : wRev wa ρ QI = wa ρ fun rs => (match rs with
  | [r] => lsK r fun ds => QI ds.reverse
  | _ => False) := by
  unfold wRev
  congr 1
  funext rs
  match rs with
  | [] => rfl
  | [r] => unfold lsK; cases r with
    | d x => cases x <;> rfl
    | _ => rfl
  | a :: _ :: _ => cases a with
    | d x => cases x <;> rfl
    | _ => rfl
theorem e_noPart (QO : Option Int → Prop) : wNoPart ρ QO = QO none := rfl
theorem e_part (QO : Option Int → Prop) : wPart e ρ QO = e ρ fun r => intK r fun i => QO (some i) := by unfold wPart intK; rfl
theorem e_sl (lo hi : WO) : wSl e lo hi ρ Q = e ρ fun r => lo ρ fun l => hi ρ fun h => slA r l h Q := rfl
theorem e_lstRg (w : List A → (Int → Int → Prop) → Prop) : wLstRg w ρ Q = w ρ fun a b => RgOk a b ∧ Q (.own (rgD a (b - a).toNat)) := rfl
theorem e_rg1 (QR : Int → Int → Prop) : wRg1 e ρ QR = e ρ fun r => intK r fun n => QR 0 n := by unfold wRg1 intK; rfl
theorem e_rg2 (QR : Int → Int → Prop) : wRg2 e e2 ρ QR = e ρ fun r => e2 ρ fun q => intK r fun i => intK q fun j => QR i j := by
  unfold wRg2
  congr 1
  funext r
  congr 1
  funext q
  unfold intK
  cases r with
  | d x => cases x with
    | int i => cases q with
      | d y => cases y <;> rfl
      | _ => rfl
    | _ => rfl
  | _ => rfl
theorem e_borT (i : Nat) : wBorT i t ρ QT = fzK i (ρ[i]?) (fun xs => t (ρ.set i (.d (.list xs))) QT) (fun x => t ((unfr ρ).set i (.d x)) QT) (t ρ QT) := by unfold wBorT fzK; rfl
theorem e_bor (i : Nat) : wBor i e ρ Q = fzK i (ρ[i]?) (fun xs => e (ρ.set i (.d (.list xs))) fun r => scalA r = true ∧ Q r) (fun x => e ((unfr ρ).set i (.d x)) fun r => scalA r = true ∧ Q r) (e ρ Q) := by unfold wBor fzK; rfl
end
/-! operations -/
section
variable (Q : A → Prop) (i j : Int) (s s' : Str) (xs ys : List PyData) (n m : Nat)
theorem addA_int : addA (.d (.int i)) (.d (.int j)) Q = Q (.d (.int (i + j))) := rfl
theorem addA_str : addA (.d (.str s)) (.d (.str s')) Q = (s.length + s'.length ≤ sizeLine ∧ Q (.d (.str (s ++ s')))) := rfl
theorem addA_tup : addA (.d (.tuple xs)) (.d (.tuple ys)) Q = (xs ≠ [] ∧ xs.length + ys.length ≤ sizeLine ∧ Q (.d (.tuple (xs ++ ys)))) := rfl
theorem addA_dd : addA (.d (.list xs)) (.d (.list ys)) Q = (xs.length + ys.length ≤ sizeLine ∧ Q (.own (xs ++ ys))) := rfl
theorem addA_do : addA (.d (.list xs)) (.own ys) Q = (xs.length + ys.length ≤ sizeLine ∧ Q (.own (xs ++ ys))) := rfl
theorem addA_od : addA (.own xs) (.d (.list ys)) Q = (xs.length + ys.length ≤ sizeLine ∧ Q (.own (xs ++ ys))) := rfl
theorem addA_oo : addA (.own xs) (.own ys) Q = (xs.length + ys.length ≤ sizeLine ∧ Q (.own (xs ++ ys))) := rfl
theorem addA_bo : addA (.bor n xs) (.own ys) Q = (xs.length + ys.length ≤ sizeLine ∧ Q (.own (xs ++ ys))) := rfl
theorem addA_ob : addA (.own xs) (.bor n ys) Q = (xs.length + ys.length ≤ sizeLine ∧ Q (.own (xs ++ ys))) := rfl
theorem subA_int : subA (.d (.int i)) (.d (.int j)) Q = Q (.d (.int (i - j))) := rfl
theorem mulA_int : mulA (.d (.int i)) (.d (.int j)) Q = (CMul i j ∧ Q (.d (.int (i * j)))) := rfl
theorem mulA_own : mulA (.own xs) (.d (.int j)) Q = (-(2 ^ 63) ≤ j ∧ j < 2 ^ 63 ∧ xs.length * j.toNat ≤ sizeLine ∧ Q (.own (List.replicate j.toNat xs).flatten)) := rfl
theorem fdivA_int : fdivA (.d (.int i)) (.d (.int j)) Q = (CDiv i j ∧ Q (.d (.int (i / j)))) := rfl
theorem modA_int : modA (.d (.int i)) (.d (.int j)) Q = (0 < j ∧ Q (.d (.int (i % j)))) := rfl
theorem negA_int : negA (.d (.int i)) Q = Q (.d (.int (-i))) := rfl
theorem cmpA_int (p : Int → Int → Bool) : cmpA p (.d (.int i)) (.d (.int j)) Q = Q (.d (.bool (p i j))) := rfl
theorem eqA_int : eqA (.d (.int i)) (.d (.int j)) Q = Q (.d (.bool (decide (i = j)))) := rfl
theorem eqA_str : eqA (.d (.str s)) (.d (.str s')) Q = Q (.d (.bool (decide (s = s')))) := rfl
theorem neA_int : neA (.d (.int i)) (.d (.int j)) Q = Q (.d (.bool (!decide (i = j)))) := rfl
theorem neA_str : neA (.d (.str s)) (.d (.str s')) Q = Q (.d (.bool (!decide (s = s')))) := rfl
/-- == of lists and tuples, however they stand -/
def eqL (x y : PyData) (Q : A → Prop) : Prop := SeqAt.shaped x = true ∧ SeqAt.shaped y = true ∧ Q (.d (.bool (PyData.eqv x y)))
def neL (x y : PyData) (Q : A → Prop) : Prop := SeqAt.shaped x = true ∧ SeqAt.shaped y = true ∧ Q (.d (.bool (!PyData.eqv x y)))
theorem eqA_dd : eqA (.d (.list xs)) (.d (.list ys)) Q = eqL (.list xs) (.list ys) Q := rfl
theorem eqA_tt : eqA (.d (.tuple xs)) (.d (.tuple ys)) Q = eqL (.tuple xs) (.tuple ys) Q := rfl
theorem eqA_do : eqA (.d (.list xs)) (.own ys) Q = eqL (.list xs) (.list ys) Q := rfl
theorem eqA_od : eqA (.own xs) (.d (.list ys)) Q = eqL (.list xs) (.list ys) Q := rfl
theorem eqA_oo : eqA (.own xs) (.own ys) Q = eqL (.list xs) (.list ys) Q := rfl
theorem eqA_bo : eqA (.bor n xs) (.own ys) Q = eqL (.list xs) (.list ys) Q := rfl
theorem eqA_ob : eqA (.own xs) (.bor n ys) Q = eqL (.list xs) (.list ys) Q := rfl
theorem eqA_bd : eqA (.bor n xs) (.d (.list ys)) Q = eqL (.list xs) (.list ys) Q := rfl
theorem eqA_db : eqA (.d (.list xs)) (.bor n ys) Q = eqL (.list xs) (.list ys) Q := rfl
theorem eqA_bb : eqA (.bor m xs) (.bor n ys) Q = eqL (.list xs) (.list ys) Q := rfl
theorem neA_dd : neA (.d (.list xs)) (.d (.list ys)) Q = neL (.list xs) (.list ys) Q := rfl
theorem neA_tt : neA (.d (.tuple xs)) (.d (.tuple ys)) Q = neL (.tuple xs) (.tuple ys) Q := rfl
theorem neA_do : neA (.d (.list xs)) (.own ys) Q = neL (.list xs) (.list ys) Q := rfl
theorem neA_od : neA (.own xs) (.d (.list ys)) Q = neL (.list xs) (.list ys) Q := rfl
theorem neA_oo : neA (.own xs) (.own ys) Q = neL (.list xs) (.list ys) Q := rfl
theorem neA_bo : neA (.bor n xs) (.own ys) Q = neL (.list xs) (.list ys) Q := rfl
theorem neA_ob : neA (.own xs) (.bor n ys) Q = neL (.list xs) (.list ys) Q := rfl
theorem neA_bd : neA (.bor n xs) (.d (.list ys)) Q = neL (.list xs) (.list ys) Q := rfl
theorem neA_db : neA (.d (.list xs)) (.bor n ys) Q = neL (.list xs) (.list ys) Q := rfl
theorem neA_bb : neA (.bor m xs) (.bor n ys) Q = neL (.list xs) (.list ys) Q := rfl
def isK (o : Option Bool) (K : Bool → Prop) : Prop := match o with
  | some k => K k
  | none => False
theorem isA_n (a : A) : isA a (.d .none) Q = optK (isN a) fun k => Q (.d (.bool k)) := by unfold isA optK; cases isN a <;> rfl
theorem notA_n (a : A) : notA a (.d .none) Q = optK (isN a) fun k => Q (.d (.bool (!k))) := by unfold notA optK; cases isN a <;> rfl
theorem isN_none : isN (.d .none) = some true := rfl
theorem isN_int : isN (.d (.int i)) = some false := rfl
theorem isN_str : isN (.d (.str s)) = some false := rfl
theorem isN_bool (b) : isN (.d (.bool b)) = some false := rfl
theorem isN_list : isN (.d (.list xs)) = some false := rfl
theorem isN_tup : isN (.d (.tuple xs)) = some false := rfl
theorem isN_own : isN (.own xs) = some false := rfl
theorem isN_bor : isN (.bor n xs) = some false := rfl
/-- x in a list -/
def inL (neg : Bool) (x : PyData) (ds : List PyData) (Q : A → Prop) : Prop := SeqAt.shaped x = true ∧ SeqAt.shaped (.list ds) = true ∧ Q (.d (.bool (if neg then !(ds.any fun z => PyData.eqv z x) else ds.any fun z => PyData.eqv z x)))
theorem inA_dd (neg) (x) : inA neg (.d x) (.d (.list ys)) Q = inL neg x ys Q := by cases x <;> rfl
theorem inA_do (neg) (x) : inA neg (.d x) (.own ys) Q = inL neg x ys Q := by cases x <;> rfl
theorem inA_db (neg) (x) : inA neg (.d x) (.bor n ys) Q = inL neg x ys Q := by cases x <;> rfl
theorem inA_od (neg) : inA neg (.own xs) (.d (.list ys)) Q = inL neg (.list xs) ys Q := rfl
theorem inA_bd (neg) : inA neg (.bor n xs) (.d (.list ys)) Q = inL neg (.list xs) ys Q := rfl
theorem inA_bb (neg) : inA neg (.bor n xs) (.bor m ys) Q = inL neg (.list xs) ys Q := rfl
theorem inA_tup (neg) : inA neg (.d (.int i)) (.d (.tuple ys)) Q = ∃ ns : List Int, ys = ns.map PyData.int ∧ Q (.d (.bool (if neg then !decide (i ∈ ns) else decide (i ∈ ns)))) := rfl
theorem ixA_d : ixA (.d (.list xs)) (.d (.int i)) Q = ∃ x, atI xs i = some x ∧ Q (.d x) := rfl
theorem ixA_t : ixA (.d (.tuple xs)) (.d (.int i)) Q = ∃ x, atI xs i = some x ∧ Q (.d x) := rfl
theorem ixA_kt : ixA (.k (.tuple xs)) (.d (.int i)) Q = ∃ x, atI xs i = some x ∧ Q (kA x) := rfl
theorem ixA_kl : ixA (.k (.list xs)) (.d (.int i)) Q = ∃ x, atI xs i = some x ∧ Q (kA x) := rfl
theorem lenA_k : lenA [.k (.tuple xs)] Q = Q (.d (.int xs.length)) := rfl
theorem listA_k : listA [.k (.tuple xs)] Q = ∃ ns : List Int, xs = ns.map PyData.int ∧ Q (.own xs) := rfl
theorem kA_i : kA (.int i) = .d (.int i) := rfl
theorem kA_l : kA (.list xs) = .k (.list xs) := rfl
theorem kA_t : kA (.tuple xs) = .k (.tuple xs) := rfl
theorem e_callF (spec : Spc) (wa : WA) (ρ : List A) (Q : A → Prop) : wCallF spec wa ρ Q = wa ρ fun rs => optK (fzs rs) fun as => as.all frOk = true ∧ spec as fun r => frR r Q := by
  unfold wCallF optK
  congr 1
  funext r
  cases fzs r <;> rfl
theorem frR_d (x : PyData) : frR (.d x) Q = Q (.fr x) := rfl
theorem frR_o (x : List PyData) : frR (.own x) Q = Q (.fr (.list x)) := rfl
theorem frOk_y (m k) : frOk (.yard m k) = true := rfl
theorem frOk_i (i) : frOk (.d (.int i)) = true := rfl
theorem ixA_o : ixA (.own xs) (.d (.int i)) Q = ∃ x, atI xs i = some x ∧ Q (.d x) := rfl
theorem ixA_b : ixA (.bor n xs) (.d (.int i)) Q = ∃ x, atI xs i = some x ∧ Q (.d x) := rfl
theorem slA_d (lo hi) : slA (.d (.list xs)) lo hi Q = Q (.own (cutD xs lo hi)) := rfl
theorem slA_o (lo hi) : slA (.own xs) lo hi Q = Q (.own (cutD xs lo hi)) := rfl
theorem slA_b (lo hi) : slA (.bor n xs) lo hi Q = Q (.own (cutD xs lo hi)) := rfl
theorem slA_t (lo hi) : slA (.d (.tuple xs)) lo hi Q = (¬ (HT.sIx xs.length 0 lo = 0 ∧ HT.sIx xs.length xs.length hi = xs.length) ∧ Q (.d (.tuple (cutD xs lo hi)))) := rfl
theorem lenA_d : lenA [.d (.list xs)] Q = Q (.d (.int xs.length)) := rfl
theorem lenA_t : lenA [.d (.tuple xs)] Q = Q (.d (.int xs.length)) := rfl
theorem lenA_o : lenA [.own xs] Q = Q (.d (.int xs.length)) := rfl
theorem lenA_b : lenA [.bor n xs] Q = Q (.d (.int xs.length)) := rfl
theorem lenA_s : lenA [.d (.str s)] Q = (s.length ≤ sizeLine ∧ Q (.d (.int s.length))) := rfl
theorem listA_d : listA [.d (.list xs)] Q = Q (.own xs) := rfl
theorem listA_t : listA [.d (.tuple xs)] Q = Q (.own xs) := rfl
theorem listA_o : listA [.own xs] Q = Q (.own xs) := rfl
theorem listA_b : listA [.bor n xs] Q = Q (.own xs) := rfl
theorem tupleA_d : tupleA [.d (.list xs)] Q = Q (.d (.tuple xs)) := rfl
theorem tupleA_t : tupleA [.d (.tuple xs)] Q = Q (.d (.tuple xs)) := rfl
theorem tupleA_o : tupleA [.own xs] Q = Q (.d (.tuple xs)) := rfl
theorem tupleA_b : tupleA [.bor n xs] Q = Q (.d (.tuple xs)) := rfl
theorem intA_i : intA [.d (.int i)] Q = Q (.d (.int i)) := rfl
theorem intA_b (b) : intA [.d (.bool b)] Q = Q (.d (.int (if b then 1 else 0))) := rfl
theorem minA_i : minA [.d (.int i), .d (.int j)] Q = Q (.d (.int (if j < i then j else i))) := rfl
theorem maxA_i : maxA [.d (.int i), .d (.int j)] Q = Q (.d (.int (if j > i then j else i))) := rfl
def sortK (xs : List PyData) (Q : A → Prop) : Prop := ∃ ns : List Int, xs = ns.map PyData.int ∧ ns.length < 64 ∧ ∀ ms : List Int, ms.Perm ns → ms.Pairwise (· ≤ ·) → Q (.own (ms.map PyData.int))
theorem sortA_d : sortA [.d (.list xs)] Q = sortK xs Q := rfl
theorem sortA_o : sortA [.own xs] Q = sortK xs Q := rfl
theorem sortA_b : sortA [.bor n xs] Q = sortK xs Q := rfl
theorem toD_d (x) : toD (.d x) = some x := rfl
theorem toD_o : toD (.own xs) = some (.list xs) := rfl
def consO {α : Type} (a : Option α) (b : Option (List α)) : Option (List α) := match a, b with
  | some d, some ds => some (d :: ds)
  | _, _ => none
theorem consO_s {α : Type} (a : α) (b : List α) : consO (some a) (some b) = some (a :: b) := rfl
theorem allD_nil : allD [] = some [] := rfl
theorem allD_cons (a as) : allD (a :: as) = consO (toD a) (allD as) := by
  rw [allD]; unfold consO; cases toD a <;> cases allD as <;> rfl
theorem fzs_nil : fzs [] = some [] := rfl
theorem fzs_cons (a as) : fzs (a :: as) = consO (fz a) (fzs as) := by
  rw [fzs]; unfold consO; cases fz a <;> cases fzs as <;> rfl
theorem fz_d (x) : fz (.d x) = some (.d x) := rfl
theorem fz_o : fz (.own xs) = some (.d (.list xs)) := rfl
theorem fz_y (m k) : fz (.yard m k) = some (.yard m k) := rfl
theorem fz_x : fz .box = some .box := rfl
theorem fz_r (v) : fz (.raw v) = some (.raw v) := rfl
theorem scal_i : scalA (.d (.int i)) = true := rfl
theorem scal_b (b) : scalA (.d (.bool b)) = true := rfl
theorem scal_n : scalA (.d .none) = true := rfl
theorem scal_s : scalA (.d (.str s)) = true := rfl
end
theorem e_startA (n : Nat) (as : List A) : startA n as = as ++ List.replicate (n - as.length) .un := rfl
end Yd

/-! YdH: sorted of a list of tuples of ints. -/
namespace Yd
open PySem L2

def igV : V → Int
  | .int i => i
  | _ => 0
def tgV (F : Hp) : V → List Int
  | .ref p => match F p with
    | some (.tup ws) => ws.map igV
    | _ => []
  | _ => []
theorem igV_map (t : List Int) : (t.map V.int).map igV = t := by
  rw [List.map_map]
  have : (igV ∘ V.int) = id := by funext i; rfl
  rw [this, List.map_id]
theorem Rp.tup_ints {F : Hp} {v : V} {t : List Int} (h : Rp F v (intsD t)) : ∃ p, v = .ref p ∧ F p = some (.tup (t.map V.int)) ∧ tgV F v = t := by
  cases (show Rp F v (.tuple (t.map PyData.int)) from h) with
  | @tup p ws _ f l =>
    have e := l.of_ints
    subst e
    refine ⟨p, rfl, f, ?_⟩
    show (match F p with
      | some (.tup ws) => ws.map igV
      | _ => []) = t
    rw [f]
    exact igV_map t
theorem RpL.tg {F : Hp} : ∀ {ts : List (List Int)} {vs : List V}, RpL F vs (ts.map intsD) → vs.map (tgV F) = ts
  | [], _, h => by cases h; rfl
  | t :: ts, _, h => by
    cases h with
    | cons h1 h2 =>
      obtain ⟨p, _, _, e⟩ := h1.tup_ints
      rw [List.map_cons, e, RpL.tg h2]
theorem RpL.mem_tg {F : Hp} : ∀ {ts : List (List Int)} {vs : List V}, RpL F vs (ts.map intsD) → ∀ v ∈ vs, tgV F v ∈ ts ∧ Rp F v (intsD (tgV F v))
  | [], _, h, v, hv => by cases h; simp at hv
  | t :: ts, _, h, v, hv => by
    cases h with
    | cons h1 h2 =>
      rcases List.mem_cons.mp hv with z | z
      · subst z
        obtain ⟨p, _, _, e⟩ := h1.tup_ints
        rw [e]
        exact ⟨List.mem_cons_self, h1⟩
      · obtain ⟨q1, q2⟩ := RpL.mem_tg h2 v z
        exact ⟨List.mem_cons_of_mem _ q1, q2⟩
theorem RpL.of_tg {F : Hp} : ∀ {vs : List V}, (∀ v ∈ vs, Rp F v (intsD (tgV F v))) → RpL F vs ((vs.map (tgV F)).map intsD)
  | [], _ => .nil
  | v :: vs, h => .cons (h v List.mem_cons_self) (RpL.of_tg fun u hu => h u (List.mem_cons_of_mem _ hu))
section
variable {Γ : Gm} {K : PySem.W.Frag}
theorem snd_sortT {d : Nat} {B : Int} : SndC Γ (rSortU K d B) (sortTA d B) := by
  intro ρ σ F H F1 H1 xs as Q K0 m m1 s ra h k
  unfold sortTA at h
  split at h
  · split at h
    · rename_i e
      obtain ⟨ts, rfl, h64, hd, h⟩ := h
      cases ra with
      | cons r1 t => cases t with
        | nil =>
          obtain ⟨p, vs, rfl, h1, l1⟩ := r1.list m1 e
          have tg := l1.tg
          have tupI : ∀ v ∈ vs, TupI K H1 v (tgV F1 v) := fun v hv => by
            obtain ⟨q, e1, e2, _⟩ := (l1.mem_tg v hv).2.tup_ints
            exact ⟨q, e1, SqT.of (m1.fh _ _ e2)⟩
          refine ⟨p, vs, rfl, SqL.of h1, by rw [l1.length, List.length_map]; exact h64, fun x hx => ⟨tgV F1 x, tupI x hx, hd _ (l1.mem_tg x hx).1⟩, fun ys t hp hw ht => ?_⟩
          have s2 := Stp.new0 (o := .lst ys) m1.fh m1.gi m1.st.box ht
          have hy : ∀ v ∈ ys, v ∈ vs := fun v hv => hp.mem_iff.mp hv
          refine k _ _ _ (.own _) (s.trans m.gi s2) ⟨t, _, rfl, s.none_back ht, m1.fh.free ht, upd_same, RpL.of_tg fun v hv => (l1.mem_tg v (hy v hv)).2⟩ (h (ys.map (tgV F1)) ?_ ?_)
          · have := hp.map (tgV F1)
            rw [tg] at this
            exact this
          · rw [List.pairwise_map]
            exact List.Pairwise.imp_of_mem (fun {a b} ha hb r => r _ _ (tupI a (hy a ha)) (tupI b (hy b hb))) hw
    · exact h.elim
  · exact h.elim
end
section
variable {X : Cx} {Γ : Gm} {e : Expr} {es : List Expr} {tA : TA} {wA : WA} {pos p : Pos}
theorem pd_sortT {K : PySem.W.Frag} {d : Nat} {B : Int} (hd : 1 ≤ d) (hm : X.mg "sorted" = none) (ha : PDA X Γ (e :: es) tA wA) (hg : Gl X "sorted" := by rfl) (he : starEach (e :: es) X.env = (false, eval e X.env) :: starEach es X.env := by rfl) (hpl : (backTo pos (starEach es X.env)).any (·.1) = false := by rfl) (hK : X.K = K := by rfl) :
    PD X Γ (.Call (.Name "sorted" p) (e :: es) [] pos) (tCB (rSortU K d B) tA) (wCB (sortTA d B) wA) := by
  subst hK
  exact pd_cb (cr_sortT hd) (snd_sortT (K := X.K)) hm boot_sorted' ha hg (by decide) (by decide) he hpl
end
def sortTK (d : Nat) (B : Int) (xs : List PyData) (Q : A → Prop) : Prop := ∃ ts : List (List Int), xs = ts.map intsD ∧ ts.length < 64 ∧ (∀ t ∈ ts, t.length = d ∧ TS.Bd B t) ∧ ∀ us : List (List Int), us.Perm ts → us.Pairwise (fun x y => TS.code B x ≤ TS.code B y) → Q (.own (us.map intsD))
section
variable (d : Nat) (B : Int) (xs : List PyData) (n : Nat) (Q : A → Prop)
theorem sortTA_d : sortTA d B [.d (.list xs)] Q = sortTK d B xs Q := rfl
theorem sortTA_o : sortTA d B [.own xs] Q = sortTK d B xs Q := rfl
theorem sortTA_b : sortTA d B [.bor n xs] Q = sortTK d B xs Q := rfl
end

/-! ### isinstance -/
def isiK (t n : String) (Q : A → Prop) : Prop := ∃ b, kitB t n = some b ∧ Q (.bl b)
def isiA (as : List A) (Q : A → Prop) : Prop := match as with
  | [a, .raw (.ty n)] => (match tyD a with
    | some t => isiK t n Q
    | none => False)
  | _ => False
theorem isiK_eq {t n : String} {b : Bool} (h : kitB t n = some b) (Q : A → Prop) : isiK t n Q = Q (.bl b) := by
  unfold isiK
  rw [h]
  apply propext
  constructor
  · rintro ⟨c, e, q⟩
    cases e
    exact q
  · exact fun q => ⟨_, rfl, q⟩
section
variable {Γ : Gm} {K : PySem.W.Frag}
theorem snd_isi : SndC Γ (rIsi K) isiA := by
  intro ρ σ F H F1 H1 xs as Q K0 m m1 s ra h k
  unfold isiA at h
  split at h
  · rename_i a n
    split at h
    · rename_i t e
      obtain ⟨b, kb, q⟩ := h
      cases ra with
      | cons r1 t1 =>
      cases t1 with
      | cons r2 t2 =>
      cases t2
      rename_i v u
      have e2 : u = .ty n := r2
      subst e2
      refine ⟨v, .ty n, .type t, .type n, b, rfl, .ty n, ?_, kit_ty kb, k F1 H1 _ (.bl b) s (Rp.bl _) q⟩
      cases a with
      | d x =>
        have r : Rp F1 v x := r1
        cases x with
        | none => cases e; cases r; exact .base .non
        | bool _ => cases e; cases r; exact .base (.bl _)
        | int _ => cases e; cases r; exact .base (.int _)
        | str _ => cases e; cases r; exact .base (.str _)
        | list _ =>
          cases e
          cases r with
          | lst ha _ => exact .base (.lst (m1.fh _ _ ha))
        | tuple _ =>
          cases e
          cases r with
          | tup ha _ => exact .base (.tup (m1.fh _ _ ha))
        | dict _ => cases e
      | own ys =>
        cases e
        obtain ⟨p, vs, rfl, h1, _⟩ := r1.list m1 (xs := ys) rfl
        exact .base (.lst h1)
      | bor i ys =>
        cases e
        obtain ⟨p, vs, rfl, h1, _⟩ := r1.list m1 (xs := ys) rfl
        exact .base (.lst h1)
      | _ => cases e
    · exact h.elim
  · exact h.elim
end
section
variable {X : Cx} {Γ : Gm} {e : Expr} {es : List Expr} {tA : TA} {wA : WA} {pos p : Pos}
theorem boot_isi : bootBuiltins "isinstance" = some (.builtin "isinstance") := by decide +kernel
theorem pd_isinstance {K : PySem.W.Frag} (hm : X.mg "isinstance" = none) (ha : PDA X Γ (e :: es) tA wA) (hg : Gl X "isinstance" := by rfl) (he : starEach (e :: es) X.env = (false, eval e X.env) :: starEach es X.env := by rfl) (hpl : (backTo pos (starEach es X.env)).any (·.1) = false := by rfl) (hK : X.K = K := by rfl) :
    PD X Γ (.Call (.Name "isinstance" p) (e :: es) [] pos) (tCB (rIsi K) tA) (wCB isiA wA) := by
  subst hK
  exact pd_cb call_isi (snd_isi (K := X.K)) hm boot_isi ha hg (by decide) (by decide) he hpl
theorem pd_ty {x : Str} {n : String} (hm : X.mg x = none) (hv : bootBuiltins x = some (.type n)) (hg : Gl X x := by rfl) (hn : x ≠ "__name__" := by decide) (hd : (x == ("__debug__" : Str)) = false := by decide) : PD X Γ (.Name x pos) (tC (.ty n)) (wC (.raw (.ty n))) := ⟨pe_bltn (v := .ty n) hg hm hv rfl hn hd, sd_raw⟩
theorem boot_bool' : bootBuiltins "bool" = some (.type "bool") := by decide +kernel
theorem boot_str' : bootBuiltins "str" = some (.type "str") := by decide +kernel
end
section
variable (Q : A → Prop)
theorem isi_nonetype_bool : isiA [.d .none, .raw (.ty "bool")] Q = Q (.bl false) := isiK_eq (by decide +kernel) Q
theorem isi_nonetype_int : isiA [.d .none, .raw (.ty "int")] Q = Q (.bl false) := isiK_eq (by decide +kernel) Q
theorem isi_nonetype_str : isiA [.d .none, .raw (.ty "str")] Q = Q (.bl false) := isiK_eq (by decide +kernel) Q
theorem isi_nonetype_tuple : isiA [.d .none, .raw (.ty "tuple")] Q = Q (.bl false) := isiK_eq (by decide +kernel) Q
theorem isi_nonetype_list : isiA [.d .none, .raw (.ty "list")] Q = Q (.bl false) := isiK_eq (by decide +kernel) Q
theorem isi_bool_bool (c : Bool) : isiA [.d (.bool c), .raw (.ty "bool")] Q = Q (.bl true) := isiK_eq (by decide +kernel) Q
theorem isi_bool_int (c : Bool) : isiA [.d (.bool c), .raw (.ty "int")] Q = Q (.bl true) := isiK_eq (by decide +kernel) Q
theorem isi_bool_str (c : Bool) : isiA [.d (.bool c), .raw (.ty "str")] Q = Q (.bl false) := isiK_eq (by decide +kernel) Q
theorem isi_bool_tuple (c : Bool) : isiA [.d (.bool c), .raw (.ty "tuple")] Q = Q (.bl false) := isiK_eq (by decide +kernel) Q
theorem isi_bool_list (c : Bool) : isiA [.d (.bool c), .raw (.ty "list")] Q = Q (.bl false) := isiK_eq (by decide +kernel) Q
theorem isi_int_bool (i : Int) : isiA [.d (.int i), .raw (.ty "bool")] Q = Q (.bl false) := isiK_eq (by decide +kernel) Q
theorem isi_int_int (i : Int) : isiA [.d (.int i), .raw (.ty "int")] Q = Q (.bl true) := isiK_eq (by decide +kernel) Q
theorem isi_int_str (i : Int) : isiA [.d (.int i), .raw (.ty "str")] Q = Q (.bl false) := isiK_eq (by decide +kernel) Q
theorem isi_int_tuple (i : Int) : isiA [.d (.int i), .raw (.ty "tuple")] Q = Q (.bl false) := isiK_eq (by decide +kernel) Q
theorem isi_int_list (i : Int) : isiA [.d (.int i), .raw (.ty "list")] Q = Q (.bl false) := isiK_eq (by decide +kernel) Q
theorem isi_str_bool (z : Str) : isiA [.d (.str z), .raw (.ty "bool")] Q = Q (.bl false) := isiK_eq (by decide +kernel) Q
theorem isi_str_int (z : Str) : isiA [.d (.str z), .raw (.ty "int")] Q = Q (.bl false) := isiK_eq (by decide +kernel) Q
theorem isi_str_str (z : Str) : isiA [.d (.str z), .raw (.ty "str")] Q = Q (.bl true) := isiK_eq (by decide +kernel) Q
theorem isi_str_tuple (z : Str) : isiA [.d (.str z), .raw (.ty "tuple")] Q = Q (.bl false) := isiK_eq (by decide +kernel) Q
theorem isi_str_list (z : Str) : isiA [.d (.str z), .raw (.ty "list")] Q = Q (.bl false) := isiK_eq (by decide +kernel) Q
theorem isi_list_bool (l : List PyData) : isiA [.d (.list l), .raw (.ty "bool")] Q = Q (.bl false) := isiK_eq (by decide +kernel) Q
theorem isi_list_int (l : List PyData) : isiA [.d (.list l), .raw (.ty "int")] Q = Q (.bl false) := isiK_eq (by decide +kernel) Q
theorem isi_list_str (l : List PyData) : isiA [.d (.list l), .raw (.ty "str")] Q = Q (.bl false) := isiK_eq (by decide +kernel) Q
theorem isi_list_tuple (l : List PyData) : isiA [.d (.list l), .raw (.ty "tuple")] Q = Q (.bl false) := isiK_eq (by decide +kernel) Q
theorem isi_list_list (l : List PyData) : isiA [.d (.list l), .raw (.ty "list")] Q = Q (.bl true) := isiK_eq (by decide +kernel) Q
theorem isi_tuple_bool (l : List PyData) : isiA [.d (.tuple l), .raw (.ty "bool")] Q = Q (.bl false) := isiK_eq (by decide +kernel) Q
theorem isi_tuple_int (l : List PyData) : isiA [.d (.tuple l), .raw (.ty "int")] Q = Q (.bl false) := isiK_eq (by decide +kernel) Q
theorem isi_tuple_str (l : List PyData) : isiA [.d (.tuple l), .raw (.ty "str")] Q = Q (.bl false) := isiK_eq (by decide +kernel) Q
theorem isi_tuple_tuple (l : List PyData) : isiA [.d (.tuple l), .raw (.ty "tuple")] Q = Q (.bl true) := isiK_eq (by decide +kernel) Q
theorem isi_tuple_list (l : List PyData) : isiA [.d (.tuple l), .raw (.ty "list")] Q = Q (.bl false) := isiK_eq (by decide +kernel) Q
end
theorem shaped_bl (b : Bool) : SeqAt.shaped (.bool b) = true := by cases b <;> rfl
theorem eqA_bl (a b : Bool) (Q : A → Prop) : eqA (.d (.bool a)) (.d (.bool b)) Q = Q (.bl (decide (a = b))) := by
  have e : PyData.eqv (.bool a) (.bool b) = decide (a = b) := by cases a <;> cases b <;> decide
  show (SeqAt.shaped (.bool a) = true ∧ SeqAt.shaped (.bool b) = true ∧ Q (.bl (PyData.eqv (.bool a) (.bool b)))) = _
  rw [shaped_bl, shaped_bl, e]
  simp
theorem neA_bl (a b : Bool) (Q : A → Prop) : neA (.d (.bool a)) (.d (.bool b)) Q = Q (.bl (!decide (a = b))) := by
  have e : PyData.eqv (.bool a) (.bool b) = decide (a = b) := by cases a <;> cases b <;> decide
  show (SeqAt.shaped (.bool a) = true ∧ SeqAt.shaped (.bool b) = true ∧ Q (.bl (!PyData.eqv (.bool a) (.bool b)))) = _
  rw [shaped_bl, shaped_bl, e]
  simp

/-! ### a list within what stands by itself is cleared: the whole is forgotten -/
theorem M.forget {Γ : Gm} {F : Hp} {ρ : List A} {σ : St} {H : Hp} (m : M Γ F ρ σ H) {a : Addr} (o : HO) (n1 : F a = none) (n2 : Γ.H a = none) (n3 : ¬ isBox Γ.G a) (n4 : ∀ j, ¬ ownAt ρ σ j a) : M Γ F (Yd.unfr ρ) σ (upd H a o) := by
  have m1 := m.unfr
  refine ⟨⟨m.st.ff, fun b u q => ?_, m.gi.upd n3, fun b u q nb => ?_, m.st.new, m.st.box⟩, m.gi0, m1.len, fun i x y h1 h2 => ?_, m1.dj, fun i x h1 => ?_⟩
  · rw [upd_ne (ne_of_none q n1)]; exact m.fh b u q
  · rw [upd_ne (ne_of_none q n2)]; exact m.st.keep b u q nb
  · have q := m1.sl i x y h1 h2
    cases x with
    | own xs =>
      obtain ⟨p, vs, rfl, q1, q2⟩ := q
      have ne : p ≠ a := fun z => n4 i (by subst z; exact unfr_own ⟨⟨xs, h1⟩, h2⟩)
      exact ⟨p, vs, rfl, by rw [upd_ne ne]; exact q1, q2⟩
    | dct ks ds =>
      obtain ⟨b, _, e2⟩ := unfr_get h1
      cases b <;> cases e2
    | _ => exact q
  · obtain ⟨b, e, e2⟩ := unfr_get h1
    cases b <;> cases e2
theorem M.drop {Γ : Gm} {F : Hp} {ρ : List A} {σ : St} {H : Hp} (m : M Γ F ρ σ H) (i : Nat) (nf : ∀ (j : Nat) (x : PyData), ρ[j]? ≠ some (.fr x)) : M Γ F (ρ.set i .un) σ H := by
  have back : ∀ {j : Nat} {a : A}, (ρ.set i .un)[j]? = some a → a = .un ∨ ρ[j]? = some a := fun {j a} h => by
    by_cases hj : i = j
    · subst hj
      obtain ⟨z1, e1⟩ := List.getElem?_eq_some_iff.mp h
      rw [List.getElem_set_self] at e1
      exact .inl e1.symm
    · rw [List.getElem?_set_ne hj] at h
      exact .inr h
  have own : ∀ {j : Nat} {p : Addr}, ownAt (ρ.set i .un) σ j p → ownAt ρ σ j p := fun {j p} ⟨⟨xs, h1⟩, h2⟩ => by
    rcases back h1 with z | z
    · cases z
    · exact ⟨⟨xs, z⟩, h2⟩
  refine ⟨m.st, m.gi0, by simp [m.len], fun j a o h1 h2 => ?_, fun j k p h1 h2 => m.dj j k p (own h1) (own h2), fun j x h1 => ?_⟩
  · rcases back h1 with rfl | z
    · trivial
    · exact m.sl j a o z h2
  · rcases back h1 with z | z
    · cases z
    · exact (nf j x z).elim
def wClrIx (i : Nat) (k : Int) : WS := fun ρ P => match ρ[i]? with
  | some (.fr d) => ∃ ds ys, (d = .tuple ds ∨ d = .list ds) ∧ atI ds k = some (.list ys) ∧ P.nx ((unfr ρ).set i .un)
  | _ => False
theorem ss_clrIx {Γ : Gm} {K : PySem.W.Frag} (i : Nat) (k : Int) : SndS Γ (tDrop (tBM0 K "list" rClear (tOp (rIx K) (tVar i) (tC (.int k))))) (wClrIx i k) := fun ρ P F σ H D m h kk => by
  unfold wClrIx at h
  split at h
  · rename_i d e
    obtain ⟨ds, ys, hd, ea, hP⟩ := h
    obtain ⟨v, Fs, ev, r, ss, n⟩ := m.fr i d e
    have fin : ∀ {vs : List V}, RpL Fs vs ds → ∃ a ws, atI vs k = some (.ref a) ∧ H a = some (.lst ws) ∧ D.nx σ (upd H a (.lst [])) := fun {vs} l => by
      obtain ⟨u, e1, r1⟩ := l.at ea
      cases r1 with
      | @lst a ws _ f1 _ =>
        obtain ⟨n1, n2, n3, n4⟩ := n a (by rw [f1]; simp)
        refine ⟨a, ws, e1, ss _ _ f1, kk.nx F σ _ _ (Same.refl _) ?_ hP⟩
        exact (m.forget (.lst []) n1 n2 n3 n4).drop i fun j x hx => by
          obtain ⟨b, e, e2⟩ := unfr_get hx
          cases b <;> cases e2
    rcases hd with rfl | rfl
    · cases r with
      | @tup p vs _ f1 l1 =>
        obtain ⟨a, ws, e1, e2, q⟩ := fin l1
        exact ⟨_, ev, .inr (.inl ⟨p, vs, k, _, rfl, rfl, SqT.of (ss _ _ f1), e1, ty_list e2, a, ws, rfl, rfl, e2, q⟩)⟩
    · cases r with
      | @lst p vs _ f1 l1 =>
        obtain ⟨a, ws, e1, e2, q⟩ := fin l1
        exact ⟨_, ev, .inl ⟨p, vs, k, _, rfl, rfl, SqL.of (ss _ _ f1), e1, ty_list e2, a, ws, rfl, rfl, e2, q⟩⟩
  · exact h.elim
theorem ps_clrIx {X : Cx} {Γ : Gm} {K : PySem.W.Frag} {o e : Expr} {i : Nat} {k : Int} {pos p p2 apos : Pos} (hv : PD X Γ o (tVar i) (wName i)) (he : PD X Γ e (tC (.int k)) (wC (.int k))) (hs : swapsWith (.Call (.Attribute (.Subscript o e p2) "clear" apos) [] [] p) none pos.line X.env = pure false := by rfl)
    (hbase : attributeBase (.Subscript o e p2) "clear" X.env (eval (.Subscript o e p2) X.env) = eval (.Subscript o e p2) X.env := by rfl) (hline : (apos.endLine == p.line) = true := by rfl) (hpx : PlainIx e := by exact fun _ _ => rfl) (hK : X.K = K := by rfl) :
    PDS X Γ (.Expr (.Call (.Attribute (.Subscript o e p2) "clear" apos) [] [] p) pos) (tDrop (tBM0 K "list" rClear (tOp (rIx K) (tVar i) (tC (.int k))))) (wClrIx i k) := by
  subst hK
  exact ⟨ps_expr (pe_bm0 PySem.F.plainAttrs_list PySem.F.slot_list_clear PySem.F.type_list_clear mt_clear (pe_ix ix_seq hv.pe he.pe hpx) hbase hline) hs, ss_clrIx i k⟩
def clrK (i : Nat) (k : Int) (o : Option A) (ρ : List A) (P : Po) : Prop := match o with
  | some (.fr d) => ∃ ds ys, (d = .tuple ds ∨ d = .list ds) ∧ atI ds k = some (.list ys) ∧ P.nx ((unfr ρ).set i .un)
  | _ => False
theorem e_clrIx (i : Nat) (k : Int) (ρ : List A) (P : Po) : wClrIx i k ρ P = clrK i k (ρ[i]?) ρ P := by unfold wClrIx clrK; rfl
theorem clrK_fr (i : Nat) (k : Int) (d : PyData) (ρ : List A) (P : Po) : clrK i k (some (.fr d)) ρ P = ∃ ds ys, (d = .tuple ds ∨ d = .list ds) ∧ atI ds k = some (.list ys) ∧ P.nx ((unfr ρ).set i .un) := rfl

/-! ### is True, is False -/
def isBA (neg : Bool) (a b : A) (Q : A → Prop) : Prop := match a, b with
  | .d (.bool x), .d (.bool y) => Q (.bl (if neg then !decide (x = y) else decide (x = y)))
  | _, _ => False
theorem isBA_bl (neg x y : Bool) (Q : A → Prop) : isBA neg (.d (.bool x)) (.d (.bool y)) Q = Q (.bl (if neg then !decide (x = y) else decide (x = y))) := rfl
section
variable {X : Cx} {Γ : Gm} {a b : Expr} {ta tb : TE} {wa wb : WE} {pos : Pos}
theorem snd_isB : SndR Γ rIsB (isBA false) := by
  intro ρ σ F H F1 H1 x y a b Q K0 m m1 s ra rb h k
  unfold isBA at h
  split at h
  · cases (show Rp F1 x (.bool _) from ra)
    cases (show Rp F1 y (.bool _) from rb)
    exact ⟨_, _, rfl, rfl, k F1 H1 _ (.bl _) s (Rp.bl _) h⟩
  · exact h.elim
theorem snd_notB : SndR Γ rNotB (isBA true) := by
  intro ρ σ F H F1 H1 x y a b Q K0 m m1 s ra rb h k
  unfold isBA at h
  split at h
  · cases (show Rp F1 x (.bool _) from ra)
    cases (show Rp F1 y (.bool _) from rb)
    exact ⟨_, _, rfl, rfl, k F1 H1 _ (.bl _) s (Rp.bl _) h⟩
  · exact h.elim
theorem pd_isB (ha : PD X Γ a ta wa) (hb : PD X Γ b tb wb) : PD X Γ (.Compare a [.Is] [b] pos) (tOp rIsB ta tb) (wOp (isBA false) wa wb) := pd_cmp op_isBl snd_isB (nomark _) ha hb
theorem pd_notB (ha : PD X Γ a ta wa) (hb : PD X Γ b tb wb) : PD X Γ (.Compare a [.IsNot] [b] pos) (tOp rNotB ta tb) (wOp (isBA true) wa wb) := pd_cmp op_notBl snd_notB (nomark _) ha hb
theorem pt_isB (ha : PD X Γ a ta wa) (hb : PD X Γ b tb wb) : PDT X Γ (.Compare a [.Is] [b] pos) (tTest (tOp rIsB ta tb)) (wTest (wOp (isBA false) wa wb)) := pdt_cmp op_isBl snd_isB (nomark _) ha hb
theorem pt_notB (ha : PD X Γ a ta wa) (hb : PD X Γ b tb wb) : PDT X Γ (.Compare a [.IsNot] [b] pos) (tTest (tOp rNotB ta tb)) (wTest (wOp (isBA true) wa wb)) := pdt_cmp op_notBl snd_notB (nomark _) ha hb
end
end Yd

/-! YdZ: the facts of a text as the top leaves them: a def, a method, __init__. -/
namespace Yd
open PySem L2
section
variable {K : PySem.W.Frag} {mg : Str → Option Value} {h : Heap} {C f : Addr} {x m qual : Str} {st : Stmt} {ps : List Str} {oc : Value} {od an : Option Addr} {osl : Array (Option Value)} {kV doc pm cdv ct : Value}
theorem dfn_mk (X : K.In h) (G : h.Ns mainGlobals mg) (b : ∀ (kV doc pm : Value) (an : Option Addr) (cdv ct : Value) (us : List Value), us.length = ps.length → bindArgs (PySem.W.fnOf x x (defArgs st) (defBody st) (defScope st) .none kV doc pm an cdv ct) ⟨us, []⟩ = pure (ps.zip us))
    (a : PySem.W.nsIn K mainGlobals x = some (some (.ref f))) (l : K.lookup f = some ⟨oc, od, .func (PySem.W.fnOf x x (defArgs st) (defBody st) (defScope st) .none kV doc pm an cdv ct), osl⟩) (c : PySem.W.codeIn K cdv x = true) (k : PySem.W.keepIn K (.ref f) = true) : Dfn K mg x st ps :=
  have F := fun_mk (st := st) l c k
  ⟨f, _, F, PySem.W.mg_of X G a, F.binds (ps := ps) b⟩
theorem mfn_mk (b : ∀ (kV doc pm : Value) (an : Option Addr) (cdv ct : Value) (us : List Value), us.length = ps.length → bindArgs (PySem.W.fnOf m qual (defArgs st) (defBody st) (defScope st) .none kV doc pm an cdv ct) ⟨us, []⟩ = pure (ps.zip us))
    (a : PySem.W.findIn K (.ref C) m = some (some (.ref f))) (i : PySem.W.isFn K (.ref f) = true) (l : K.lookup f = some ⟨oc, od, .func (PySem.W.fnOf m qual (defArgs st) (defBody st) (defScope st) .none kV doc pm an cdv ct), osl⟩) (c : PySem.W.codeIn K cdv qual = true) (k : PySem.W.keepIn K (.ref f) = true) : Mfn K C m qual st ps :=
  have F := fun_mk (st := st) l c k
  ⟨f, _, F, ⟨a, i, k⟩, F.binds (ps := ps) b⟩
theorem noattr_mk {x : Str} (a : PySem.W.findIn K (.ref C) x = some none) : NoAttr K C x := a
/-- what stands of a class's __init__ -/
structure Ini (K : PySem.W.Frag) (C : Addr) (qual : Str) (st : Stmt) (ps : List Str) : Prop where
  ex : ∃ (f : Addr) (fd : FuncData), Fun K "__init__" qual st f fd ∧ Mk K C f ∧ Binds K fd ps []
theorem ini_mk (b : ∀ (kV doc pm : Value) (an : Option Addr) (cdv ct : Value) (us : List Value), us.length = ps.length → bindArgs (PySem.W.fnOf "__init__" qual (defArgs st) (defBody st) (defScope st) .none kV doc pm an cdv ct) ⟨us, []⟩ = pure (ps.zip us))
    (mk : PySem.W.makesIn K C = true) (kc : PySem.W.keepIn K (.ref C) = true) (a : PySem.W.findIn K (.ref C) "__init__" = some (some (.ref f))) (i : PySem.W.isFn K (.ref f) = true) (l : K.lookup f = some ⟨oc, od, .func (PySem.W.fnOf "__init__" qual (defArgs st) (defBody st) (defScope st) .none kV doc pm an cdv ct), osl⟩) (c : PySem.W.codeIn K cdv qual = true) (k : PySem.W.keepIn K (.ref f) = true) : Ini K C qual st ps :=
  have F := fun_mk (st := st) l c k
  ⟨f, _, F, ⟨mk, a, i, kc⟩, F.binds (ps := ps) b⟩
end
end Yd

/-! YdW: words that are told apart. -/
namespace Yd
open PySem L2
theorem w_mark_tie : decide (("mark" : Str) = ("tie" : Str)) = false := by decide +kernel
theorem w_mark_cases : decide (("mark" : Str) = ("cases" : Str)) = false := by decide +kernel
theorem w_mark_many : decide (("mark" : Str) = ("many" : Str)) = false := by decide +kernel
theorem w_mark_none : decide (("mark" : Str) = ("none" : Str)) = false := by decide +kernel
theorem w_mark_renaming : decide (("mark" : Str) = ("renaming" : Str)) = false := by decide +kernel
theorem w_mark_apart : decide (("mark" : Str) = ("apart" : Str)) = false := by decide +kernel
theorem w_mark_turn : decide (("mark" : Str) = ("turn" : Str)) = false := by decide +kernel
theorem w_tie_mark : decide (("tie" : Str) = ("mark" : Str)) = false := by decide +kernel
theorem w_tie_cases : decide (("tie" : Str) = ("cases" : Str)) = false := by decide +kernel
theorem w_tie_many : decide (("tie" : Str) = ("many" : Str)) = false := by decide +kernel
theorem w_tie_none : decide (("tie" : Str) = ("none" : Str)) = false := by decide +kernel
theorem w_tie_renaming : decide (("tie" : Str) = ("renaming" : Str)) = false := by decide +kernel
theorem w_tie_apart : decide (("tie" : Str) = ("apart" : Str)) = false := by decide +kernel
theorem w_tie_turn : decide (("tie" : Str) = ("turn" : Str)) = false := by decide +kernel
theorem w_cases_mark : decide (("cases" : Str) = ("mark" : Str)) = false := by decide +kernel
theorem w_cases_tie : decide (("cases" : Str) = ("tie" : Str)) = false := by decide +kernel
theorem w_cases_many : decide (("cases" : Str) = ("many" : Str)) = false := by decide +kernel
theorem w_cases_none : decide (("cases" : Str) = ("none" : Str)) = false := by decide +kernel
theorem w_cases_renaming : decide (("cases" : Str) = ("renaming" : Str)) = false := by decide +kernel
theorem w_cases_apart : decide (("cases" : Str) = ("apart" : Str)) = false := by decide +kernel
theorem w_cases_turn : decide (("cases" : Str) = ("turn" : Str)) = false := by decide +kernel
theorem w_many_mark : decide (("many" : Str) = ("mark" : Str)) = false := by decide +kernel
theorem w_many_tie : decide (("many" : Str) = ("tie" : Str)) = false := by decide +kernel
theorem w_many_cases : decide (("many" : Str) = ("cases" : Str)) = false := by decide +kernel
theorem w_many_none : decide (("many" : Str) = ("none" : Str)) = false := by decide +kernel
theorem w_many_renaming : decide (("many" : Str) = ("renaming" : Str)) = false := by decide +kernel
theorem w_many_apart : decide (("many" : Str) = ("apart" : Str)) = false := by decide +kernel
theorem w_many_turn : decide (("many" : Str) = ("turn" : Str)) = false := by decide +kernel
theorem w_none_mark : decide (("none" : Str) = ("mark" : Str)) = false := by decide +kernel
theorem w_none_tie : decide (("none" : Str) = ("tie" : Str)) = false := by decide +kernel
theorem w_none_cases : decide (("none" : Str) = ("cases" : Str)) = false := by decide +kernel
theorem w_none_many : decide (("none" : Str) = ("many" : Str)) = false := by decide +kernel
theorem w_none_renaming : decide (("none" : Str) = ("renaming" : Str)) = false := by decide +kernel
theorem w_none_apart : decide (("none" : Str) = ("apart" : Str)) = false := by decide +kernel
theorem w_none_turn : decide (("none" : Str) = ("turn" : Str)) = false := by decide +kernel
theorem w_renaming_mark : decide (("renaming" : Str) = ("mark" : Str)) = false := by decide +kernel
theorem w_renaming_tie : decide (("renaming" : Str) = ("tie" : Str)) = false := by decide +kernel
theorem w_renaming_cases : decide (("renaming" : Str) = ("cases" : Str)) = false := by decide +kernel
theorem w_renaming_many : decide (("renaming" : Str) = ("many" : Str)) = false := by decide +kernel
theorem w_renaming_none : decide (("renaming" : Str) = ("none" : Str)) = false := by decide +kernel
theorem w_renaming_apart : decide (("renaming" : Str) = ("apart" : Str)) = false := by decide +kernel
theorem w_renaming_turn : decide (("renaming" : Str) = ("turn" : Str)) = false := by decide +kernel
theorem w_apart_mark : decide (("apart" : Str) = ("mark" : Str)) = false := by decide +kernel
theorem w_apart_tie : decide (("apart" : Str) = ("tie" : Str)) = false := by decide +kernel
theorem w_apart_cases : decide (("apart" : Str) = ("cases" : Str)) = false := by decide +kernel
theorem w_apart_many : decide (("apart" : Str) = ("many" : Str)) = false := by decide +kernel
theorem w_apart_none : decide (("apart" : Str) = ("none" : Str)) = false := by decide +kernel
theorem w_apart_renaming : decide (("apart" : Str) = ("renaming" : Str)) = false := by decide +kernel
theorem w_apart_turn : decide (("apart" : Str) = ("turn" : Str)) = false := by decide +kernel
theorem w_turn_mark : decide (("turn" : Str) = ("mark" : Str)) = false := by decide +kernel
theorem w_turn_tie : decide (("turn" : Str) = ("tie" : Str)) = false := by decide +kernel
theorem w_turn_cases : decide (("turn" : Str) = ("cases" : Str)) = false := by decide +kernel
theorem w_turn_many : decide (("turn" : Str) = ("many" : Str)) = false := by decide +kernel
theorem w_turn_none : decide (("turn" : Str) = ("none" : Str)) = false := by decide +kernel
theorem w_turn_renaming : decide (("turn" : Str) = ("renaming" : Str)) = false := by decide +kernel
theorem w_turn_apart : decide (("turn" : Str) = ("apart" : Str)) = false := by decide +kernel
end Yd

/-! YdQ: what a call just made is cleared. -/
namespace Yd
open PySem L2
def wClrT (e : WE) : WS := fun ρ P => e ρ fun r => match r with
  | .own _ => P.nx ρ
  | _ => False
def clrTK (r : A) (ρ : List A) (P : Po) : Prop := match r with
  | .own _ => P.nx ρ
  | _ => False
theorem e_clrT (e : WE) (ρ : List A) (P : Po) : wClrT e ρ P = e ρ fun r => clrTK r ρ P := by
  unfold wClrT clrTK
  rfl
theorem clrTK_o (xs : List PyData) (ρ : List A) (P : Po) : clrTK (.own xs) ρ P = P.nx ρ := rfl
theorem ss_clrT {Γ : Gm} {K : PySem.W.Frag} {te : TE} {we : WE} (h : SndE Γ te we) : SndS Γ (tDrop (tBM0 K "list" rClear te)) (wClrT we) := fun ρ P F σ H D m hw k =>
  h ρ _ F σ H _ m hw fun F1 H1 v r s q p => by
    split at p
    · obtain ⟨a, vs, rfl, e1, e2, e3, e4⟩ := q
      refine ⟨ty_list e3, a, vs, rfl, rfl, e3, k.nx F1 σ _ ρ s.ff (m.step ?_) p⟩
      have nb : ¬ isBox Γ.G a := fun z => m.gi.box z e1
      exact ⟨s.ff, fun b o z => by rw [upd_ne (ne_of_none z e2)]; exact s.fh b o z, s.gi.upd nb, fun b o z n => by rw [upd_ne (ne_of_none z e1)]; exact s.keep b o z n, s.new, s.box⟩
    · exact p.elim
theorem ps_clrT {X : Cx} {Γ : Gm} {o : Expr} {te : TE} {we : WE} {pos p apos : Pos} {K : PySem.W.Frag} (ho : PD X Γ o te we) (hs : swapsWith (.Call (.Attribute o "clear" apos) [] [] p) none pos.line X.env = pure false := by rfl)
    (hbase : attributeBase o "clear" X.env (eval o X.env) = eval o X.env := by rfl) (hline : (apos.endLine == p.line) = true := by rfl) (hK : X.K = K := by rfl) :
    PDS X Γ (.Expr (.Call (.Attribute o "clear" apos) [] [] p) pos) (tDrop (tBM0 K "list" rClear te)) (wClrT we) := by
  subst hK
  exact ⟨ps_expr (pe_bm0 PySem.F.plainAttrs_list PySem.F.slot_list_clear PySem.F.type_list_clear mt_clear ho.pe hbase hline) hs, ss_clrT ho.sd⟩
/-! ### if t: return False, where t never holds: the rest is asked once -/
def wGuard (wt : WT) : WS := fun ρ P => wt ρ (fun c => c = false) ∧ P.nx ρ
theorem e_guard (wt : WT) (ρ : List A) (P : Po) : wGuard wt ρ P = (wt ρ (fun c => c = false) ∧ P.nx ρ) := rfl
theorem st_false {Γ : Gm} {t : TT} {w : WT} (h : SndT Γ t w) : SndT Γ t (fun ρ Q => w ρ (fun c => c = false) ∧ Q false) := fun ρ Q F σ H K m q k =>
  h ρ (fun c => c = false) F σ H K m q.1 fun F' H' b s hb => k F' H' b s (by rw [hb]; exact q.2)
theorem ps_guard {X : Cx} {Γ : Gm} {c : Expr} {body : List Stmt} {tt : TT} {wt : WT} {ts : TS} {ws : WS} {pos : Pos} (hc : PDT X Γ c tt wt) (ha : PDSs X Γ body ts ws) : PDS X Γ (.If c body [] pos) (tIfS tt ts tNext) (wGuard wt) :=
  ⟨ps_if hc.pt ha.ps pss_nil, fun ρ P F σ H D m h k => ss_if (st_false hc.sd) ha.sd ss_next ρ P F σ H D m ⟨h.1, (fun z => by cases z), fun _ => h.2⟩ k⟩
end Yd

/-! YdI: l.index(x) of data; a range with a step. -/
namespace Yd
open PySem L2
section
variable {Γ : Gm} {K : PySem.W.Frag}
def idxK (ds : List PyData) (d : PyData) (Q : A → Prop) : Prop := SeqAt.shaped (.list ds) = true ∧ SeqAt.shaped d = true ∧ ∃ (j : Nat) (z : PyData), ds[j]? = some z ∧ PyData.eqv z d = true ∧ (∀ (m : Nat) (z' : PyData), m < j → ds[m]? = some z' → PyData.eqv z' d = false) ∧ Q (.d (.int (j : Nat)))
def lxK (a : A) (Q : List PyData → Prop) : Prop := match rdD a with
  | some (.list ds) => Q ds
  | _ => False
def dxK (a : A) (Q : PyData → Prop) : Prop := match rdD a with
  | some d => Q d
  | none => False
def wIndex (wa wb : WE) : WE := fun ρ Q => wa ρ fun a => lxK a fun ds => wb ρ fun b => dxK b fun d => idxK ds d Q
theorem lxK_o (xs : List PyData) (Q : List PyData → Prop) : lxK (.own xs) Q = Q xs := rfl
theorem lxK_b (i : Nat) (xs : List PyData) (Q : List PyData → Prop) : lxK (.bor i xs) Q = Q xs := rfl
theorem lxK_d (xs : List PyData) (Q : List PyData → Prop) : lxK (.d (.list xs)) Q = Q xs := rfl
theorem dxK_o (xs : List PyData) (Q : PyData → Prop) : dxK (.own xs) Q = Q (.list xs) := rfl
theorem dxK_b (i : Nat) (xs : List PyData) (Q : PyData → Prop) : dxK (.bor i xs) Q = Q (.list xs) := rfl
theorem dxK_d (d : PyData) (Q : PyData → Prop) : dxK (.d d) Q = Q d := rfl
theorem e_index (wa wb : WE) (ρ : List A) (Q : A → Prop) : wIndex wa wb ρ Q = wa ρ fun a => lxK a fun ds => wb ρ fun b => dxK b fun d => idxK ds d Q := rfl
theorem rdD_list {a : A} {ds : List PyData} (h : rdD a = some (.list ds)) : asL a = some ds := by
  cases a with
  | own _ => cases h; rfl
  | bor _ _ => cases h; rfl
  | d x => cases h; rfl
  | _ => cases h
theorem sd_index {ta tb : TE} {wa wb : WE} (ha : SndE Γ ta wa) (hb : SndE Γ tb wb) : SndE Γ (tBM K "list" (rIndexD K) ta (tCons tb tNil)) (wIndex wa wb) := fun ρ Q F σ H K0 m h k =>
  ha ρ _ F σ H _ m h fun F1 H1 x a1 s1 r1 h1 => by
    unfold lxK at h1
    split at h1
    · rename_i ds e1
      have m1 := m.step s1
      obtain ⟨p, vs, ep, hp, _⟩ := r1.list m1 (rdD_list e1)
      refine ⟨by rw [ep]; exact ty_list hp, hb ρ _ F1 σ H1 _ m1 h1 fun F2 H2 y b1 s2 r2 h2 => ?_⟩
      unfold dxK at h2
      split at h2
      · rename_i d e2
        obtain ⟨q1, q2, j, z, q3, q4, q5, q6⟩ := h2
        have m2 := m1.step s2
        have r1' := (r1.step m.gi s1 s2).dp (K := K) m2 e1
        have r2' := (r2.back s1).dp (K := K) m2 e2
        subst ep
        exact ⟨p, y, d, ds, j, z, rfl, rfl, r1', r2', q1, q2, q3, q4, q5, k F2 H2 _ (.d (.int (j : Nat))) (s1.trans m.gi s2) (Rp.int _) q6⟩
      · exact h2.elim
    · exact h1.elim
end
theorem pd_index {X : Cx} {Γ : Gm} {K : PySem.W.Frag} {o e : Expr} {to te : TE} {wo we : WE} {pos apos : Pos} {k : Nat} (hr : Room k X.A) (hk : 2 ≤ k) (ho : PD X Γ o to wo) (he : PD X Γ e te we)
    (hbase : attributeBase o "index" X.env (eval o X.env) = eval o X.env := by rfl)
    (hfew : ((backTo pos (starEach [e] X.env)).all (fun x => !x.1) && (backToKw pos (keywordEach [] X.env)).all (fun x => x.1.isSome)
      && decide ([e].length + ([] : List Keyword).length + (if ([] : List Keyword).isEmpty then 0 else 1) < 30)) = true := by rfl)
    (hline : (apos.endLine == pos.line) = true := by rfl) (hs2 : starEach [e] X.env = (false, eval e X.env) :: starEach [] X.env := by rfl) (hplain : (backTo pos (starEach [] X.env)).any (·.1) = false := by rfl) (hK : X.K = K := by rfl) :
    PD X Γ (.Call (.Attribute o "index" apos) [e] [] pos) (tBM K "list" (rIndexD K) to (tCons te tNil)) (wIndex wo we) := by
  subst hK
  exact ⟨pe_bm PySem.F.plainAttrs_list PySem.F.slot_list_index PySem.F.type_list_index (mt_indexD (by have := hr.un; omega)) ho.pe (pa_cons he.pe pa_nil hs2) hbase hfew hline hs2 hplain, sd_index ho.sd he.sd⟩
/-! ### a range with a step -/
def rgC (lo c : Int) (n : Nat) : List PyData := (List.range n).map fun i : Nat => PyData.int (lo + (i : Int) * c)
def rg3K (rs : List A) (Q : List PyData → Prop) : Prop := match rs with
  | [.d (.int i), .d (.int j), .d (.int c)] => ∃ n, RgC i j c n ∧ Q (rgC i c n)
  | _ => False
def wRange3 (a : WA) : WI := fun ρ Q => a ρ fun rs => rg3K rs Q
theorem e_range3 (wa : WA) (ρ : List A) (QI : List PyData → Prop) : wRange3 wa ρ QI = wa ρ fun rs => rg3K rs QI := rfl
theorem rg3K_i (i j c : Int) (Q : List PyData → Prop) : rg3K [.d (.int i), .d (.int j), .d (.int c)] Q = ∃ n, RgC i j c n ∧ Q (rgC i c n) := rfl
theorem itok_rangeC {Γ : Gm} {F : Hp} (lo c : Int) (n : Nat) : ItOk Γ (Itc lo c n) (rgC lo c n) F := fun F' H' s s' gi bx i => by
  refine ⟨fun h => ?_, fun d e => ?_⟩
  · show n ≤ i
    simpa [rgC] using h
  · unfold rgC at e
    rw [List.getElem?_map] at e
    obtain ⟨j, ej, rfl⟩ := Option.map_eq_some_iff.mp e
    obtain ⟨hj, e2⟩ := List.getElem?_eq_some_iff.mp ej
    simp at hj e2
    subst e2
    refine ⟨hj, fun x H'' y => ?_⟩
    obtain ⟨rfl, rfl⟩ := y
    exact ⟨F', Stp.refl s' gi bx, Rp.int _⟩
theorem si_range3 {Γ : Gm} {ta : TA} {wa : WA} (h : SndA Γ ta wa) : SndI Γ (iRng3 ta) (wRange3 wa) := fun ρ Q F σ H R m q k =>
  h ρ _ F σ H _ m q fun F1 H1 vs rs s r p => by
    unfold rg3K at p
    split at p
    · cases r with
      | cons r1 t => cases t with
        | cons r2 t => cases t with
          | cons r3 t => cases t with
            | nil =>
              cases (show Rp F1 _ (.int _) from r1)
              cases (show Rp F1 _ (.int _) from r2)
              cases (show Rp F1 _ (.int _) from r3)
              obtain ⟨n, p1, p2⟩ := p
              exact ⟨_, _, _, n, rfl, p1, k F1 H1 _ _ s (itok_rangeC _ _ _) p2⟩
    · exact p.elim
theorem pi_range3A {X : Cx} {Γ : Gm} {tg a b c : Expr} {tA : TA} {wA : WA} {p pos : Pos} (hm : X.mg "range" = none) (ha : PDA X Γ [a, b, c] tA wA) (hg : Gl X "range" := by rfl) (hs : starEach [a, b, c] X.env = (false, eval a X.env) :: starEach [b, c] X.env := by rfl) (hpl : (backTo pos (starEach [b, c] X.env)).any (·.1) = false := by rfl) :
    PDI X Γ tg (.Call (.Name "range" p) [a, b, c] [] pos) (iRng3 tA) (wRange3 wA) := ⟨pi_range3 hg hm ha.pa hs hpl, si_range3 ha.sd⟩
theorem rgC_down {n i : Nat} {d : PyData} (h : (rgC ((n : Int) - 1) (-1) n)[i]? = some d) : i < n ∧ d = nI (n - 1 - i) := by
  unfold rgC at h
  rw [List.getElem?_map] at h
  obtain ⟨j, ej, rfl⟩ := Option.map_eq_some_iff.mp h
  obtain ⟨hj, e2⟩ := List.getElem?_eq_some_iff.mp ej
  simp at hj e2
  subst e2
  exact ⟨hj, by congr 1; omega⟩
end Yd

/-! YdT: sorted(set(xs)), xs a list of ints of which few differ. -/
namespace Yd
open PySem L2 PySem.Spec PyProof.Rows
theorem nodup_sub : ∀ (D l : List Int), l.Nodup → (∀ x ∈ l, x ∈ D) → l.length ≤ D.length
  | [], l, _, h => by
    cases l with
    | nil => exact Nat.le_refl _
    | cons a l => have := h a List.mem_cons_self; simp at this
  | d :: D, l, nd, h => by
    have e1 := nodup_sub D (l.erase d) (nd.erase d) fun x hx => by
      have h1 := h x (List.mem_of_mem_erase hx)
      have h2 : x ≠ d := ((nd.mem_erase_iff).mp hx).1
      rcases List.mem_cons.mp h1 with z | z
      · exact absurd z h2
      · exact z
    have e2 : l.length ≤ (l.erase d).length + 1 := by
      rw [List.length_erase]
      split <;> omega
    rw [List.length_cons]
    omega
theorem few_of {w : World} {h : Heap} {a : Addr} {S : Int → Bool} {c : Nat} {D : List Int} (R : SetR w h a S c) (sub : ∀ k, S k = true → k ∈ D) : c ≤ D.length := by
  obtain ⟨o, es, ep, t, _, _, _, _, nd, mem, _, _, sz, _⟩ := R
  have := nodup_sub D (es.toList.map keyOf) nd fun x hx => sub x ((mem x).mpr hx)
  rw [List.length_map, Array.length_toList] at this
  omega
/-- a new, empty set -/
abbrev set0 (w : World) : Obj := { cls := .type "set", dict := none, data := .set #[] 0 (.fresh 0 0 (!w.params.followText "set-order")) }
section
variable {prog : Program} {w : World} {B : Around} {Out : Result → Shared → Prop} {it : Addr} {touched moved : List Addr} {Gs : Array GenState → Array GenState → Prop} {m : Nat} {Item : Nat → Value → Prop} {Now : Nat → Shared → Prop}
/-- the set's loop, of whatever length, while few differ -/
theorem loop_few (L : WalksS prog w B.in1 it touched moved Gs m Item Now) (z : Addr) (off : z ∉ touched) (ks D : List Int) (len : m = ks.length) (isInt : ∀ j u, Item j u → ∃ k tk, ks[j]? = some k ∧ u = .int k tk) (sub : ∀ k ∈ ks, k ∈ D) (few : D.length < 64) :
    ∀ (left j : Nat) (t : Shared), m - j = left → j ≤ m → Now j t → (∃ c, SetR w t.heap z (fun y => decide (y ∈ ks.take j)) c) →
      (∀ t' c, Moved (z :: moved) Gs t t' → SetR w t'.heap z (fun y => decide (y ∈ ks)) c → Out (.ok (.ret .none)) t') →
      codeAny (model prog w) B (.builtin "set.update.loop" ⟨[.ref z, .ref it], []⟩) Out t
  | 0, j, t, e, le, now, so, out => by
    have hj : j = m := by omega
    subst hj
    have offM : z ∉ moved := fun h => off (L.sub _ h)
    refine codeAny_builtin PyProof.Rows.F.entry_set_update_loop ?_
    rw [Around.under_plainId PyProof.Rows.F.plain_set_update_loop _]
    show wpAny _ B.in1 (pyNext (.ref it) >>= _) _ _ t
    refine wpAny_bind (L.done t _ _ now fun t' mv => ?_)
    show wpAny _ B.in1 (ret Value.none) _ _ t'
    obtain ⟨c, so⟩ := so
    have all : ks.take j = ks := List.take_of_length_le (by omega)
    rw [all] at so
    exact wpAny_pure (out t' c (mv.mono fun b hb => List.mem_cons_of_mem _ hb) (so.at fun o at_ => mv.heap z o offM at_))
  | left + 1, j, t, e, le, now, so, out => by
    have lt : j < m := by omega
    have offM : z ∉ moved := fun h => off (L.sub _ h)
    refine codeAny_builtin PyProof.Rows.F.entry_set_update_loop ?_
    rw [Around.under_plainId PyProof.Rows.F.plain_set_update_loop _]
    show wpAny _ B.in1 (pyNext (.ref it) >>= _) _ _ t
    refine wpAny_bind (L.item j t _ _ lt now fun u t' hu now' mv => ?_)
    obtain ⟨y, tk, at1, rfl⟩ := isInt j u hu
    obtain ⟨c, so⟩ := so
    have so' : SetR w t'.heap z (fun x => decide (x ∈ ks.take j)) c := so.at fun o at_ => mv.heap z o offM at_
    show wpAny _ B.in1 (holding [Value.int y tk] (setAdd z (.int y tk)) >>= _) _ _ t'
    refine wpAny_bind (wpAny_holding ?_)
    unfold setAdd
    refine wpAny_holding (wpAny_bind ((intKind prog w).pyHash (k := y) (intKind_is _ _ _ _) ?_))
    have room : c + 1 < scanBound := by
      have := few_of so' (D := D) fun k hk => sub k (List.mem_of_mem_take (of_decide_eq_true hk))
      unfold scanBound
      omega
    refine setR_add_hashed (s := { t' with toks := t'.toks + 1 }) so' room fun h2 same so2 => ?_
    have so3 := so2.congr (S' := fun x => decide (x ∈ ks.take (j + 1))) fun x => by
      rw [List.take_add_one, at1]
      simp [List.mem_append]
    refine wpAny_pure ⟨plainId_quiet PyProof.Rows.F.plain_set_update_loop _, loop_few L z off ks D len isInt sub few left (j + 1) _ (by omega) lt (L.frame _ t' _ _ now' (Nat.le_succ _) fun b hb o at_ => ?_) ⟨_, so3⟩ fun t2 c2 mv2 so4 => ?_⟩
    · rw [same.2 b (fun y : b = z => off (by rw [← y]; exact hb))]; exact at_
    · refine out t2 c2 (Moved.trans L.gtrans ((mv.mono fun b hb => List.mem_cons_of_mem _ hb).then_heap (Nat.le_succ _) fun b o hb at_ => ?_) mv2) so4
      rw [same.2 b (fun y : b = z => hb (by rw [y]; exact List.mem_cons_self))]; exact at_
end
section
variable {prog : Program} {w : World} {B : Around} {Ex : Value → Shared → Prop} {t : Shared}
set_option maxHeartbeats 3200000 in
theorem call_few {src : Addr} {its : Array Value} {ks : List Int} {Out : Value → Shared → Prop} (calm : B.handled = none) (lst : t.heap.IsList src its) (ia : IntsAre its.toList ks) (D : List Int) (sub : ∀ k ∈ ks, k ∈ D) (few : D.length < 64)
    (out : ∀ (h2 : Heap) (tk c : Nat), SetR w h2 t.heap.objs.size (fun y => decide (y ∈ ks)) c →
      (∀ b o, b < t.heap.objs.size → t.heap.get? b = some o → h2.get? b = some o) → Out (.ref t.heap.objs.size) { t with heap := h2, toks := tk }) :
    wpAny (model prog w) B (call (.type "set") [.ref src]) Out Ex t := by
  obtain ⟨c, tl, hmro⟩ := PySem.F.called_set.mro
  have q1 := PySem.F.called_set.made
  have q2 := PySem.F.called_set.sub
  refine wpAny_call (codeAny_of_tree ?_)
  show wpAny _ _ (callAny (.type "set") _) _ _ _
  refine wpAny_pure ⟨Code.quiet_builtin _ (by decide +kernel), codeAny_builtin PySem.F.entry_type_call ?_⟩
  rw [Around.under_plain (weight_type_call_type "set" [.ref src] []) rfl]
  have q3 := PySem.F.called_set.notType
  have q4 := PySem.F.called_set.canCreate
  have q5 := PySem.F.typeCall_set_1 (.ref src)
  repeat (any_goals (first | assumption | wp_step))
  refine codeAny_mono (code_set_led1 (.ref src) (E := Ex) (Q₁ := fun made t1 => made = .ref t.heap.objs.size ∧ t1 = { t with heap := t.heap.push (set0 w) }) ⟨rfl, rfl⟩) fun r t1 hr => ?_
  cases r with
  | error _ => exact hr
  | ok fl =>
    cases fl with
    | ret made =>
      obtain ⟨rfl, rfl⟩ := hr
      have at0 : (t.heap.push (set0 w)).get? t.heap.objs.size = some (set0 w) := Heap.get?_push_size _ rfl
      have ty0 : Shared.TypeIs { t with heap := t.heap.push (set0 w) } (.ref t.heap.objs.size) "set" := ⟨_, at0, rfl⟩
      have q6 := PySem.F.called_set.init.lookup
      have q7 := PySem.F.called_set.init.bind (.ref t.heap.objs.size)
      repeat (any_goals (first | assumption | wp_step))
      refine codeAny_mono (codeAny_call_builtin (R := wants (fun v t2 => v = .none ∧ ∃ h2 tk n, t2 = { t with heap := h2, toks := tk } ∧ SetR w h2 t.heap.objs.size (fun y => decide (y ∈ ks)) n ∧
          (∀ c o, c < t.heap.objs.size → t.heap.get? c = some o → h2.get? c = some o)) Ex) PySem.F.called_set.init.plain PySem.F.entry_set_init (check_set_init_1 ty0 ?_)) fun r2 t2 hr2 => ?_
      · obtain ⟨ol, at1, cl, cap, dl⟩ := lst
        obtain ⟨k1, k2, k3, k4⟩ := ol
        simp only at cl dl
        subst cl; subst dl
        have at2 : (t.heap.push (set0 w)).get? src = some { cls := .type "list", dict := k2, data := .seq its cap, slots := k4 } := Heap.get?_push_of_some _ at1
        have s1 := PySem.F.sub_list_set
        have s2 := PySem.F.sub_list_frozenset
        have s3 : (Value.type "list" == Value.type "dict") = false := by decide
        have l1 : (t.heap.push (set0 w)).IsList src its := ⟨_, at2, rfl, cap, rfl⟩
        unfold Builtin.«set.__init__» noKeywords Builtin.Frozenset.updateFrom
        generalize hp : pyIter = pI
        wp_walk
        subst hp
        refine wpAny_pyIter_list l1 (wpAny_bind (wpAny_runValue ?_))
        have lo : src < t.heap.objs.size := Heap.lt_size at1
        have calm3 : B.in1.in1.in1.handled = none := by simp [calm]
        have ne : src ≠ (t.heap.push (set0 w)).objs.size := by rw [Heap.size_push]; exact Nat.ne_of_lt (Nat.lt_succ_of_lt lo)
        have off : t.heap.objs.size ∉ [(t.heap.push (set0 w)).objs.size, src] := by
          rw [Heap.size_push]
          intro y
          rcases List.mem_cons.mp y with y | y
          · exact Nat.ne_of_lt (Nat.lt_succ_self _) y
          · exact Nat.ne_of_gt lo (List.mem_singleton.mp y)
        have szk : its.size = ks.length := by
          have q := IntsAre.length ia
          rw [Array.length_toList] at q
          exact q
        have isInt : ∀ (j : Nat) (u : Value), its[j]? = some u → ∃ k tk, ks[j]? = some k ∧ u = .int k tk := fun j u hu => by
          have hj : j < ks.length := by rw [← szk]; exact (Array.getElem?_eq_some_iff.mp hu).1
          obtain ⟨tk, e⟩ := IntsAre.int_at ia j u (by rw [Array.getElem?_toList]; exact hu)
          refine ⟨ks[j], tk, List.getElem?_eq_getElem hj, ?_⟩
          rw [e, List.getD_eq_getElem?_getD, List.getElem?_eq_getElem hj] <;> rfl
        refine loop_few ((Walks.list calm3 _ src ne its).toS) t.heap.objs.size off ks D szk isInt sub few (its.size - 0) 0 _ (by omega) (Nat.zero_le _) ⟨⟨_, Heap.get?_push_size _ rfl, rfl, rfl⟩, (l1.push _)⟩ ?goal0 ?goalE
        case goal0 =>
          have at3 : ((t.heap.push (set0 w)).push { cls := .type "list_iterator", data := .fields #[.ref src, .int 0 0] }).get? t.heap.objs.size = some (set0 w) := Heap.get?_push_of_some _ at0
          exact ⟨0, setR_new_at at3⟩
        case goalE =>
          intro t' n mv so
          obtain ⟨h2, g2, d2, tk, os2⟩ := t'
          have e1 : g2 = t.gens := mv.gens
          have e2 : d2 = t.drawn := mv.drawn
          have e3 : os2 = t.os := mv.os
          subst e1; subst e2; subst e3
          show wpAny _ _ _ _ _ _
          refine wpAny_pure ?_
          show wpAny _ _ (ret Value.none) _ _ _
          refine wpAny_pure ⟨rfl, h2, tk, n, rfl, so, fun c o hc at4 => mv.heap c o (fun y => ?_) (Heap.get?_push_of_some _ (Heap.get?_push_of_some _ at4))⟩
          rw [Heap.size_push] at y
          rcases List.mem_cons.mp y with y | y
          · exact Nat.ne_of_lt hc y
          · exact Nat.ne_of_lt (Nat.lt_succ_of_lt hc) (List.mem_singleton.mp y)
      · cases r2 with
        | error _ => exact hr2
        | ok fl2 =>
          cases fl2 with
          | ret v =>
            obtain ⟨rfl, h2, tk, n, rfl, so, old⟩ := hr2
            repeat (any_goals (first | assumption | wp_step))
            exact out _ _ _ so old
          | _ => exact hr2.elim
    | _ => exact hr.elim
end
section
variable {X : Cx}
/-- set(xs): a list of ints of which few differ -/
def rSetFew (K : PySem.W.Frag) (w : World) : List V → Hp → VK → Prop := fun xs H Q => ∃ (a : Addr) (ns D : List Int), xs = [.ref a] ∧ SqL K H a (ns.map V.int) ∧ (∀ k ∈ ns, k ∈ D) ∧ D.length < 64 ∧ ∀ p c, H p = none → c < 64 → Q (.ref p) (upd H p (SetO w p (fun j => decide (j ∈ ns)) c))
theorem cr_setFew (hc : X.calm = true) : CallR X (.type "set") (rSetFew X.K X.w) := by
  intro pins s σ H xs us Q I r h
  obtain ⟨a, ns, D, rfl, hl, sub, few, q⟩ := h
  rw [Vals.ref1 r]
  obtain ⟨its, rv, pl, hz⟩ := I.list hl
  refine call_few (I.ok.hd hc) pl.isList (ints_of_vals rv) D sub few fun h2 tk c R k => ?_
  have hn : H s.heap.objs.size = none := I.hok.fresh (Nat.le_refl _)
  have c64 : c < 64 := Nat.lt_of_le_of_lt (few_of R fun x hx => sub x (of_decide_eq_true hx)) few
  exact ⟨.ref s.heap.objs.size, upd H s.heap.objs.size (SetO X.w s.heap.objs.size (fun j => decide (j ∈ ns)) c), I.laid (t' := tk) (fun b o e => k b o (Heap.lt_size e) e) (Nat.le_refl _) (setO_new R), rfl, q _ c hn c64⟩
end
def sortSetA (as : List A) (Q : A → Prop) : Prop := match as with
  | [a] => (match asL a with
    | some xs => ∃ ns D : List Int, xs = ns.map PyData.int ∧ (∀ k ∈ ns, k ∈ D) ∧ D.length < 64 ∧ ∀ ms : List Int, ms.Pairwise (· < ·) → (∀ k, k ∈ ms ↔ k ∈ ns) → Q (.own (ms.map PyData.int))
    | none => False)
  | _ => False
section
variable {Γ : Gm} {K : PySem.W.Frag} {w : World} {tA : TA} {wA : WA}
theorem sd_sortSet (h : SndA Γ tA wA) : SndE Γ (tCB (rSortedSet w) (tCons (tCB (rSetFew K w) tA) tNil)) (wCB sortSetA wA) := fun ρ Q F σ H K0 m q k =>
  h ρ _ F σ H _ m q fun F1 H1 vs rs s r p => by
    unfold sortSetA at p
    split at p
    · split at p
      · rename_i e
        obtain ⟨ns, D, rfl, sub, few, p⟩ := p
        cases r with
        | cons r1 t => cases t with
          | nil =>
            obtain ⟨a, us, rfl, h1, l1⟩ := r1.list (m.step s) e
            have e1 := l1.of_ints
            subst e1
            refine ⟨a, ns, D, rfl, SqL.of h1, sub, few, fun z c hz c64 => ?_⟩
            have s2 := Stp.new0 (o := SetO w z (fun j => decide (j ∈ ns)) c) s.fh s.gi s.box hz
            refine ⟨z, _, c, rfl, upd_same, c64, fun ms y up mem _ hy => ?_⟩
            have s3 := Stp.new0 (o := .lst (ms.map V.int)) s2.fh s2.gi s2.box hy
            have s23 := s2.trans s.gi s3
            refine k F1 _ _ (.own _) (s.trans m.gi s23) ⟨y, _, rfl, s.none_back (s2.none_back hy), s2.fh.free hy, upd_same, RpL.ints ms⟩ (p ms up fun x => ?_)
            rw [mem x, decide_eq_true_iff]
      · exact p.elim
    · exact p.elim
end
theorem boot_set' : bootBuiltins "set" = some (.type "set") := by decide +kernel
theorem pd_sortSet {X : Cx} {Γ : Gm} {e : Expr} {tA : TA} {wA : WA} {pos p pos2 p2 : Pos} {K : PySem.W.Frag} {w : World} (hc : X.calm = true) (hm : X.mg "sorted" = none) (hm2 : X.mg "set" = none) (ha : PDA X Γ [e] tA wA) (hg : Gl X "sorted" := by rfl) (hg2 : Gl X "set" := by rfl)
    (he : starEach [e] X.env = (false, eval e X.env) :: starEach [] X.env := by rfl) (he2 : starEach [.Call (.Name "set" p2) [e] [] pos2] X.env = (false, eval (.Call (.Name "set" p2) [e] [] pos2) X.env) :: starEach [] X.env := by rfl)
    (hpl : (backTo pos2 (starEach [] X.env)).any (·.1) = false := by rfl) (hpl2 : (backTo pos (starEach [] X.env)).any (·.1) = false := by rfl) (hK : X.K = K := by rfl) (hw : X.w = w := by rfl) :
    PD X Γ (.Call (.Name "sorted" p) [.Call (.Name "set" p2) [e] [] pos2] [] pos) (tCB (rSortedSet w) (tCons (tCB (rSetFew K w) tA) tNil)) (wCB sortSetA wA) := by
  subst hK
  subst hw
  exact ⟨pe_callB (cr_sortedSet hc) hg hm boot_sorted' (pa_cons (pe_callTy (cr_setFew hc) hg2 hm2 boot_set' ha.pa (by decide) (by decide) he hpl) pa_nil he2) (by decide) (by decide) he2 hpl2, sd_sortSet ha.sd⟩
def sortSetK (xs : List PyData) (Q : A → Prop) : Prop := ∃ ns D : List Int, xs = ns.map PyData.int ∧ (∀ k ∈ ns, k ∈ D) ∧ D.length < 64 ∧ ∀ ms : List Int, ms.Pairwise (· < ·) → (∀ k, k ∈ ms ↔ k ∈ ns) → Q (.own (ms.map PyData.int))
theorem sortSetA_o (xs : List PyData) (Q : A → Prop) : sortSetA [.own xs] Q = sortSetK xs Q := rfl
theorem sortSetA_d (xs : List PyData) (Q : A → Prop) : sortSetA [.d (.list xs)] Q = sortSetK xs Q := rfl
end Yd

/-! YdV: data that are alike (numbers; tuples and lists of these): <, <=, min of a list. -/
namespace Yd
open PySem L2 PyProof.Rows
theorem minD_mem (d : PyData) (ds : List PyData) : PySem.W.minD d ds ∈ d :: ds := by
  unfold PySem.W.minD
  induction ds generalizing d with
  | nil => exact List.mem_cons_self
  | cons x xs ih =>
    rw [List.foldl_cons]
    rcases List.mem_cons.mp (ih (if PySem.W.dataLt x d then x else d)) with h | h
    · rw [h]
      split
      · exact List.mem_cons_of_mem _ List.mem_cons_self
      · exact List.mem_cons_self
    · exact List.mem_cons_of_mem _ (List.mem_cons_of_mem _ h)
section
variable {X : Cx}
def rLtV (K : PySem.W.Frag) : R2 := fun x y H Q => ∃ d e, Dp K H x d ∧ Dp K H y e ∧ PySem.W.alike d e = true ∧ d ≠ .none ∧ min d.depth e.depth ≤ 64 ∧ Q (.bl (PySem.W.dataLt d e)) H
def rLeV (K : PySem.W.Frag) : R2 := fun x y H Q => ∃ d e, Dp K H x d ∧ Dp K H y e ∧ PySem.W.alike d e = true ∧ d ≠ .none ∧ min d.depth e.depth ≤ 64 ∧ Q (.bl (!PySem.W.dataLt e d)) H
theorem op_ltV (hu : X.A.units + 64 < cLine) : OpR X (compareOp .Lt) (rLtV X.K) := by
  intro pins s σ H x y v u Q I rx ry h
  obtain ⟨d, e, hd, he, al, nn, dp, q⟩ := h
  obtain ⟨as, r1⟩ := Dp.reads I d x v hd rx
  obtain ⟨bs, r2⟩ := Dp.reads I e y u he ry
  exact PySem.W.lt_data r1 r2 al nn (by omega) ⟨.bl _, H, I, rfl, q⟩
theorem op_leV (hu : X.A.units + 64 < cLine) : OpR X (compareOp .LtE) (rLeV X.K) := by
  intro pins s σ H x y v u Q I rx ry h
  obtain ⟨d, e, hd, he, al, nn, dp, q⟩ := h
  obtain ⟨as, r1⟩ := Dp.reads I d x v hd rx
  obtain ⟨bs, r2⟩ := Dp.reads I e y u he ry
  exact PySem.W.le_data r1 r2 al nn (by omega) ⟨.bl _, H, I, rfl, q⟩
/-- min of a list of alike data: one of its items -/
def rMinV (K : PySem.W.Frag) : List V → Hp → VK → Prop := fun vs H Q => ∃ (a : Addr) (xs : List V) (d : PyData) (ds : List PyData), vs = [V.ref a] ∧ SqL K H a xs ∧ DpAll K H xs (d :: ds) ∧ PySem.W.AlikeAll (d :: ds) ∧ PyData.depthAll (d :: ds) ≤ 63 ∧
  ∀ (i : Nat) (v : V), xs[i]? = some v → (d :: ds)[i]? = some (PySem.W.minD d ds) → Q v H
theorem call_minV (hc : X.calm = true) (hu : X.A.units + 64 < cLine) : CallR X (.builtin "min") (rMinV X.K) := by
  intro pins s σ H vs us Q I r h
  obtain ⟨a, xs, d, ds, rfl, hs, hd, al, dp, q⟩ := h
  obtain ⟨u, rfl, ru⟩ := vals1 r
  cases ru
  obtain ⟨its, rv, hl, hlen⟩ := I.list hs
  obtain ⟨as, hr⟩ := Dp.readsAll I (d :: ds) _ its hd rv
  refine PySem.W.min_list_data (vs := its.toArray) (I.ok.hd hc) hl.isList (by simpa using hr) al (by omega) fun i v h' tk bs hv hr' hk => ?_
  have hv' : its[i]? = some v := by simpa using hv
  obtain ⟨y, hy, ry⟩ : ∃ y, xs[i]? = some y ∧ RelV y v := by
    have hxl : xs.length = its.length := rv.length
    have hlt := (List.getElem?_eq_some_iff.mp hv').1
    obtain ⟨u, eu, ru⟩ := Vals.get rv (List.getElem?_eq_getElem (show i < xs.length by omega))
    rw [hv'] at eu; cases eu
    exact ⟨_, List.getElem?_eq_getElem _, ru⟩
  have hn := PySem.SeqAt.ReadsAll.length _ _ _ hr
  have hi : i < its.length := (List.getElem?_eq_some_iff.mp hv').1
  have hid : i < (d :: ds).length := by omega
  obtain ⟨cs, r1, _, _, _⟩ := PySem.W.readsAll_at hr i v hv'
  have e1 : (d :: ds).getD i .none = (d :: ds)[i] := by rw [List.getD_eq_getElem?_getD, List.getElem?_eq_getElem hid]; rfl
  rw [e1] at r1
  have mm : PySem.W.minD d ds ∈ (d :: ds) := minD_mem d ds
  have e2 : (d :: ds)[i] = PySem.W.minD d ds := PySem.W.alike_unique _ _ v cs bs (al.1 _ (List.getElem_mem hid) _ mm) (PyProof.Rows.Reads.keeps hk r1) hr'
  exact ⟨y, H, I.kept hk, ry, q i y hy (by rw [List.getElem?_eq_getElem hid, e2])⟩
/-! min of a list of alike data over abstract values -/
def minVK (xs : List PyData) (Q : A → Prop) : Prop := match xs with
  | [] => False
  | x :: ys => PySem.W.AlikeAll (x :: ys) ∧ PyData.depthAll (x :: ys) ≤ 63 ∧ Q (.d (PySem.W.minD x ys))
def minVA (as : List A) (Q : A → Prop) : Prop := match as with
  | [a] => (match asL a with
    | some xs => minVK xs Q
    | none => False)
  | _ => False
theorem snd_minV {Γ : Gm} {K : PySem.W.Frag} : SndC Γ (rMinV K) minVA := by
  intro ρ σ F H F1 H1 xs as Q K0 m m1 s ra h k
  unfold minVA at h
  split at h
  · rename_i a
    cases ra with
    | cons r1 t =>
    cases t
    split at h
    · rename_i ds e
      cases ds with
      | nil => exact h.elim
      | cons d ds =>
        obtain ⟨al, dp, q⟩ := h
        obtain ⟨p, vs, rfl, h1, h2⟩ := Res.list m1 r1 e
        refine ⟨p, vs, d, ds, rfl, SqL.of h1, RpL.dp m1.fh _ _ h2, al, dp, fun i v hv hi => ?_⟩
        obtain ⟨d2, e2, r2⟩ := h2.get' hv
        rw [hi] at e2; cases e2
        exact k F1 H1 v (.d _) s r2 q
    · exact h.elim
  · exact h.elim
theorem pd_minV {Γ : Gm} {K : PySem.W.Frag} {k : Nat} {e : Expr} {es : List Expr} {tA : TA} {wA : WA} {p pos : Pos} (hr : Room k X.A) (hm : X.mg "min" = none) (ha : PDA X Γ (e :: es) tA wA) (hc : X.calm = true := by rfl) (hg : Gl X "min" := by rfl) (hK : X.K = K := by rfl)
    (he : starEach (e :: es) X.env = (false, eval e X.env) :: starEach es X.env := by rfl) (hpl : (backTo pos (starEach es X.env)).any (·.1) = false := by rfl) : PD X Γ (.Call (.Name "min" p) (e :: es) [] pos) (tCB (rMinV K) tA) (wCB minVA wA) := by
  subst hK
  exact pd_cb (call_minV hc (room64 hr)) snd_minV hm boot_min' ha hg (by decide) (by decide) he hpl
theorem minVA_o {xs : List PyData} {Q : A → Prop} : minVA [.own xs] Q = minVK xs Q := rfl
theorem minVA_d {xs : List PyData} {Q : A → Prop} : minVA [.d (.list xs)] Q = minVK xs Q := rfl
theorem minVA_b {n : Nat} {xs : List PyData} {Q : A → Prop} : minVA [.bor n xs] Q = minVK xs Q := rfl
/-! == of what is read out of yards -/
def eqKA (a b : A) (Q : A → Prop) : Prop := match a, b with
  | .k x, .k y => SeqAt.shaped x = true ∧ SeqAt.shaped y = true ∧ Q (.d (.bool (PyData.eqv x y)))
  | _, _ => False
theorem snd_eqK {Γ : Gm} {K : PySem.W.Frag} : SndR Γ (fun x y H Q => rEqD K x y H Q) eqKA := by
  intro ρ σ F H F1 H1 x y a b Q K0 m m1 s ra rb h k
  unfold eqKA at h
  split at h
  · rename_i d e
    have kS := kn.same m1.fh m1.gi
    exact ⟨d, e, Rp.dp kS _ _ ra, Rp.dp kS _ _ rb, h.1, h.2.1, k F1 H1 _ (.bl _) s (Rp.bl _) h.2.2⟩
  · exact h.elim
theorem pd_eqK {Γ : Gm} {K : PySem.W.Frag} {k : Nat} {a b : Expr} {ta tb : TE} {wa wb : WE} {pos : Pos} (hr : Room k X.A) (ha : PD X Γ a ta wa) (hb : PD X Γ b tb wb) (hK : X.K = K := by rfl) : PD X Γ (.Compare a [.Eq] [b] pos) (tOp (fun x y H Q => rEqD K x y H Q) ta tb) (wOp eqKA wa wb) := by
  subst hK
  exact pd_cmp (op_eqD (room64 hr)) (snd_eqK (K := X.K)) (nomark _) ha hb
theorem eqKA_k {x y : PyData} {Q : A → Prop} : eqKA (.k x) (.k y) Q = (SeqAt.shaped x = true ∧ SeqAt.shaped y = true ∧ Q (.d (.bool (PyData.eqv x y)))) := rfl
/-! rules by K's name, for within comprehensions -/
theorem pe_fldK (K : PySem.W.Frag) {e : Expr} {f : Str} {pos : Pos} {ta : TE} (he : PE X e ta) (hK : X.K = K := by rfl) (hb : attributeBase e f X.env (eval e X.env) = eval e X.env := by rfl) : PE X (.Attribute e f pos) (tFld K ta f) := by
  subst hK; exact pe_fld he hb
theorem pe_ixLK (K : PySem.W.Frag) {a b : Expr} {pos : Pos} {ta tb : TE} (ha : PE X a ta) (hb : PE X b tb) (hK : X.K = K := by rfl) (hs : PlainIx b := by exact fun _ _ => rfl) : PE X (.Subscript a b pos) (tOp (rIxL K) ta tb) := by
  subst hK; exact pe_ix ix_list ha hb hs
theorem pe_ixTK (K : PySem.W.Frag) {a b : Expr} {pos : Pos} {ta tb : TE} (ha : PE X a ta) (hb : PE X b tb) (hK : X.K = K := by rfl) (hs : PlainIx b := by exact fun _ _ => rfl) : PE X (.Subscript a b pos) (tOp (rIxT K) ta tb) := by
  subst hK; exact pe_ix ix_tup ha hb hs
theorem pt_ninK (K : PySem.W.Frag) {k : Nat} {a b : Expr} {pos : Pos} {ta tb : TE} (hr : Room k X.A) (ha : PE X a ta) (hb : PE X b tb) (hK : X.K = K := by rfl) (hm : behindInMarks .NotIn b = false := by rfl) : PT X (.Compare a [.NotIn] [b] pos) (tTest (tOp (rNotInD K) ta tb)) := by
  subst hK; exact pt_cmpR (op_notInD (room65 hr)) ha hb hm
end
end Yd

/-! YdU: sets of nested tuples of whole numbers: set(xs), sorted(set(xs)). -/
namespace Yd
open PySem L2 PySem.Spec PyProof.Rows
mutual
/-- whole numbers and tuples of such alone -/
def numK : NestedKey → Bool
  | .none => false
  | .num _ => true
  | .text _ => false
  | .tup ks => numKs ks
def numKs : List NestedKey → Bool
  | [] => true
  | k :: ks => numK k && numKs ks
end
abbrev hN (w : World) (k : NestedKey) : Int := k.hash w
structure IsN (h : Heap) (k : NestedKey) (a : Addr) : Prop where
  is : NestedIs h k (.ref a)
  dp : k.depth ≤ 8
  nm : numK k = true
theorem IsN.up {h h' : Heap} {k : NestedKey} {a : Addr} (x : IsN h k a) (e : ∀ b o, h.get? b = some o → h'.get? b = some o) : IsN h' k a := ⟨NestedIs.at (fun b o _ _ z _ => e b o z) k _ x.is, x.dp, x.nm⟩
theorem IsN.one {h : Heap} {k k' : NestedKey} {a : Addr} (x : IsN h k a) (y : IsN h k' a) : k = k' := NestedIs.inj _ _ _ x.is y.is
theorem IsN.tup {h : Heap} {k : NestedKey} {a : Addr} (x : IsN h k a) : ∃ o vs n, h.get? a = some o ∧ o.cls = .type "tuple" ∧ o.data = .seq vs n := by
  obtain ⟨i, _, _⟩ := x
  cases i with
  | tup e1 e2 e3 _ => exact ⟨_, _, _, e1, e2, e3⟩
section
variable {P : Program} {w : World} {B : Around} {Ex : Value → Shared → Prop} {t : Shared}
/-- a loop over items that answers nothing -/
theorem quiet_items {its : Array Value} {f : Value → Sem Bool} {want : Bool} (hq : ∀ v ∈ its.toList, ∀ Q : Bool → Shared → Prop, Q want t → wpAny (model P w) B (f v) Q Ex t) {g : Value → Option Bool × PUnit → Sem (ForInStep (Option Bool × PUnit))}
    (hg : ∀ (v : Value) (r : Option Bool × PUnit) (Q : ForInStep (Option Bool × PUnit) → Shared → Prop), (∀ R : Bool → Shared → Prop, R want t → wpAny (model P w) B (f v) R Ex t) → Q (.yield (none, ())) t → wpAny (model P w) B (g v r) Q Ex t) {Q : Option Bool × PUnit → Shared → Prop} (h : Q (none, ()) t) :
    wpAny (model P w) B (forIn its ((none, ()) : Option Bool × PUnit) g) Q Ex t := by
  rw [← Array.forIn_toList]
  refine wpAny_forIn_list _ (fun rest r s2 => r = (none, ()) ∧ s2 = t ∧ ∀ u ∈ rest, u ∈ its.toList) _ ?_ ?_ _ _ ⟨rfl, rfl, fun _ z => z⟩
  · rintro v rest r s2 ⟨_, rfl, all⟩
    exact hg v r _ (fun R hR => hq v (all v List.mem_cons_self) R hR) ⟨rfl, rfl, fun u hu => all u (List.mem_cons_of_mem _ hu)⟩
  · rintro r s2 ⟨rfl, rfl, _⟩
    exact h
theorem nested_mem {h : Heap} : ∀ {ks : List NestedKey} {vs : List Value} {u : Value}, NestedAll h ks vs → u ∈ vs → ∃ k ∈ ks, NestedIs h k u
  | _, _, _, .nil, hu => by cases hu
  | _, _, u, .cons a b, hu => by
    rcases List.mem_cons.mp hu with e | z
    · exact ⟨_, List.mem_cons_self, by rw [e]; exact a⟩
    · obtain ⟨k, hk, y⟩ := nested_mem b z
      exact ⟨k, List.mem_cons_of_mem _ hk, y⟩
theorem depth_memN : ∀ {ks : List NestedKey} {k : NestedKey}, k ∈ ks → k.depth ≤ NestedKey.depthAll ks
  | a :: ks, k, hk => by
    rw [NestedKey.depthAll]
    rcases List.mem_cons.mp hk with e | z
    · rw [e]; exact Nat.le_max_left _ _
    · exact Nat.le_trans (depth_memN z) (Nat.le_max_right _ _)
theorem num_memN : ∀ {ks : List NestedKey} {k : NestedKey}, numKs ks = true → k ∈ ks → numK k = true
  | a :: ks, k, h, hk => by
    rw [numKs, Bool.and_eq_true] at h
    rcases List.mem_cons.mp hk with e | z
    · rw [e]; exact h.1
    · exact num_memN h.2 z
/-- such a tuple hashes by its value alone -/
theorem hash_n : ∀ (n : Nat) (k : NestedKey) (v : Value) (Q : Bool → Shared → Prop), NestedIs t.heap k v → k.depth ≤ n → numK k = true → Q true t → wpAny (model P w) B (hashByValue n v) Q Ex t
  | n, .none, v, Q, x, hd, hn, h => by cases hn
  | n, .text _, v, Q, x, hd, hn, h => by cases hn
  | n, .num i, v, Q, x, hd, hn, h => by
    have e : hashByValue n v = pure true := by
      cases x <;> cases n <;> rfl
    rw [e]
    exact wpAny_pure h
  | 0, .tup ks, v, Q, x, hd, hn, h => by
    rw [NestedKey.depth] at hd
    omega
  | n + 1, .tup ks, v, Q, x, hd, hn, h => by
    rw [NestedKey.depth] at hd
    rw [numK] at hn
    cases x with
    | @tup a ob vs m _ e1 e2 e3 e4 =>
    have ty : t.TypeIs (.ref a) "tuple" := ⟨ob, e1, e2⟩
    unfold hashByValue
    refine wpAny_bind (wpAny_specialOf ty PySem.F.slot_tuple_hash.lookup ?_)
    show wpAny _ B (seqItems? (.ref a) >>= _) _ Ex t
    refine wpAny_bind (wpAny_seqItems e1 e3 (wpAny_bind ?_))
    show wpAny _ B (forIn vs _ _) _ Ex t
    refine quiet_items (want := true) (f := hashByValue n) (fun u hu R hR => ?_) (fun u r R go yl => ?_) ?_
    · obtain ⟨k, hk, y⟩ := nested_mem e4 hu
      exact hash_n n k u R y (by have := depth_memN hk; omega) (num_memN hn hk) hR
    · refine wpAny_bind (go _ ?_)
      simp only [Bool.not_true, Bool.false_eq_true, if_false]
      exact wpAny_pure yl
    · exact wpAny_pure h
/-- such a tuple is of no class of the text -/
theorem class_n : ∀ (n : Nat) (k : NestedKey) (v : Value) (Q : Bool → Shared → Prop), NestedIs t.heap k v → k.depth ≤ n → numK k = true → Q false t → wpAny (model P w) B (ofAClassStatement n v) Q Ex t
  | n, .none, v, Q, x, hd, hn, h => by cases hn
  | n, .text _, v, Q, x, hd, hn, h => by cases hn
  | n, .num i, v, Q, x, hd, hn, h => by
    have e : ofAClassStatement n v = pure false := by
      cases x <;> cases n <;> rfl
    rw [e]
    exact wpAny_pure h
  | 0, .tup ks, v, Q, x, hd, hn, h => by
    rw [NestedKey.depth] at hd
    omega
  | n + 1, .tup ks, v, Q, x, hd, hn, h => by
    rw [NestedKey.depth] at hd
    rw [numK] at hn
    cases x with
    | @tup a ob vs m _ e1 e2 e3 e4 =>
    have ty : t.TypeIs (.ref a) "tuple" := ⟨ob, e1, e2⟩
    have q : (("tuple" : String) == "tuple") = true := by decide
    unfold ofAClassStatement
    refine wpAny_bind (wpAny_typeOf ty ?_)
    simp only [q, if_true, Bool.not_true, Bool.false_eq_true, if_false, pure_bind]
    show wpAny _ B (seqItems? (.ref a) >>= _) _ Ex t
    refine wpAny_bind (wpAny_seqItems e1 e3 (wpAny_bind ?_))
    refine quiet_items (want := false) (f := ofAClassStatement n) (fun u hu R hR => ?_) (fun u r R go yl => ?_) ?_
    · obtain ⟨k, hk, y⟩ := nested_mem e4 hu
      exact class_n n k u R y (by have := depth_memN hk; omega) (num_memN hn hk) hR
    · refine wpAny_bind (go _ ?_)
      simp only [Bool.false_eq_true, if_false]
      exact wpAny_pure yl
    · exact wpAny_pure h
/-- asking among such tuples shows nothing -/
theorem seen_n {x : Addr} {k : NestedKey} (hx : IsN t.heap k x) {ys : List Value} (all : ∀ y ∈ ys, ∃ k2 c, y = Value.ref c ∧ IsN t.heap k2 c) {Q : Bool → Shared → Prop} (h : Q false t) : wpAny (model P w) B (searchCouldBeSeen (.ref x) ys) Q Ex t := by
  unfold searchCouldBeSeen
  refine wpAny_bind (wpAny_forIn_list _ (fun rest r s2 => r = (none, ()) ∧ s2 = t ∧ ∀ y ∈ rest, ∃ k2 c, y = Value.ref c ∧ IsN t.heap k2 c) _ ?_ ?_ _ _ ⟨rfl, rfl, all⟩)
  · rintro v rest r s2 ⟨_, rfl, all⟩
    obtain ⟨k2, c, rfl, hc⟩ := all v List.mem_cons_self
    have tl : ∀ y ∈ rest, ∃ k2 c, y = Value.ref c ∧ IsN s2.heap k2 c := fun y hy => all y (List.mem_cons_of_mem _ hy)
    dsimp only
    by_cases z : (x == c || (carriedByValue (.ref x) && carriedByValue (.ref c))) = true
    · exact wp_if_pos z (wpAny_pure ⟨rfl, rfl, tl⟩)
    · refine wp_if_neg z (wpAny_bind (quiet_key k _ 8 _ hx.is hx.dp _ _ _ ?_))
      simp only [Bool.not_true, Bool.false_eq_true, if_false]
      refine wpAny_bind (quiet_key k2 _ 8 _ hc.is hc.dp _ _ _ ?_)
      simp only [Bool.not_true, Bool.false_eq_true, if_false]
      refine wpAny_bind (class_n 8 k _ _ hx.is hx.dp hx.nm ?_)
      simp only [Bool.false_eq_true, if_false]
      refine wpAny_bind (class_n 8 k2 _ _ hc.is hc.dp hc.nm ?_)
      simp only [Bool.false_eq_true, if_false]
      exact wpAny_pure ⟨rfl, rfl, tl⟩
  · rintro r s2 ⟨rfl, rfl, _⟩
    exact wpAny_pure h
theorem eq_n {x y : Addr} {k k2 : NestedKey} (hu : B.units + 8 < cLine) (hx : IsN t.heap k x) (hy : IsN t.heap k2 y) {Q : Bool → Shared → Prop} (h : Q (decide (k = k2)) t) : wpAny (model P w) B (eqBool (.ref x) (.ref y)) Q Ex t :=
  eqAt_key k k2 B t _ _ hx.is hy.is (by have := hx.dp; omega) _ _ _ _ (by rw [← NestedKey.decide_eq]; exact h)
/-! ### the set -/
def rowsN (w : World) (L : List (Addr × NestedKey)) : List (Int × Value) := L.map fun p => (hN w p.2, Value.ref p.1)
structure SetN (w : World) (h : Heap) (a : Addr) (L : List (Addr × NestedKey)) (es : Array (Int × Value)) (ep : Nat) (tb : SetTable) : Prop where
  at_ : ∃ o, h.get? a = some o ∧ o.ExactSet ∧ o.data = .set es ep tb
  rw_ : es.toList = rowsN w L
  tb_ : TabOk tb (L.map fun p => hN w p.2)
  nd_ : (L.map (·.2)).Nodup
  key : ∀ p ∈ L, IsN h p.2 p.1
  pl_ : tb.plain = true
  ld_ : w.params.followText "set-order" = true ∨ tb.led = true
  rm_ : L.length * 5 < tb.mask * 3
  fw_ : L.length < 64
section
variable {a : Addr} {L : List (Addr × NestedKey)} {es : Array (Int × Value)} {ep : Nat} {tb : SetTable}
theorem rowsN_len (hr : es.toList = rowsN w L) : es.size = L.length := by
  have q := congrArg List.length hr
  simpa [rowsN] using q
theorem fitsN_of (T : TabOk tb (L.map fun p => hN w p.2)) (hs : es.size = L.length) (rm : L.length ≤ tb.mask) : tb.fits es.size = true := by
  have q := T.sz
  rw [List.length_map] at q
  unfold SetTable.fits SetTable.fill
  rw [T.dm, Bool.and_eq_true, beq_iff_eq, decide_eq_true_eq]
  show tb.place.size = es.size ∧ tb.place.size + 0 ≤ tb.mask
  constructor <;> omega
theorem SetN.fit (R : SetN w t.heap a L es ep tb) : tb.fits es.size = true := fitsN_of R.tb_ (rowsN_len R.rw_) (by have := R.rm_; omega)
theorem entryN (hr : es.toList = rowsN w L) {i : Nat} {p : Addr × NestedKey} (e : L[i]? = some p) : es[i]? = some (hN w p.2, Value.ref p.1) := by
  have q : es.toList[i]? = some (hN w p.2, Value.ref p.1) := by
    rw [hr, rowsN, List.getElem?_map, e]
    rfl
  rwa [Array.getElem?_toList] at q
theorem oddN {m : Nat} (h : MaskOk m) : m % 2 = 1 := by
  rcases h with rfl | rfl | rfl <;> rfl
theorem SetN.stay (R : SetN w t.heap a L es ep tb) : ¬ tb.gaveWay = true := by
  unfold SetTable.gaveWay
  rw [oddN R.tb_.mok]
  simp
/-- the state of the c-th step on the way of a key -/
abbrev stp8 (w : World) (tb : SetTable) (k : NestedKey) (c : Nat) : SetTable.Probe := nth tb.mask (runAt tb.mask (SetTable.bits (hN w k) % (tb.mask + 1)) (SetTable.bits (hN w k))) c
abbrev wy (w : World) (tb : SetTable) (k : NestedKey) (c : Nat) : Nat := way tb.mask (hN w k) c
theorem stp8_more (tb : SetTable) (k : NestedKey) (c q : Nat) : nth tb.mask (stp8 w tb k c) q = stp8 w tb k (c + q) := (nth_add tb.mask c _ q).symm
theorem stp8_dummy (tb : SetTable) (k : NestedKey) (c : Nat) : (stp8 w tb k c).dummy = none := by
  have all : ∀ (n : Nat) (p : SetTable.Probe), p.dummy = none → (nth tb.mask p n).dummy = none := by
    intro n
    induction n with
    | zero => exact fun p h => h
    | succ n ih =>
      intro p h
      apply ih
      show (adv tb.mask p).dummy = none
      unfold adv
      split
      · exact h
      · exact h
  exact all c _ rfl
set_option maxHeartbeats 1000000 in
/-- looking for a key, from the c-th step on -/
theorem look_from (R : SetN w t.heap a L es ep tb) {x : Addr} {k : NestedKey} (hx : IsN t.heap k x) (hu : B.units + 8 < cLine) {K : Nat} (kf : K < 10 * SetTable.turns tb.mask) (free : wy w tb k K ∉ tb.place.toList) (taken : ∀ c, c < K → wy w tb k c ∈ tb.place.toList)
    {Q : SetFound → Shared → Prop} (hin : k ∈ L.map (·.2) → Q (.there none) t) (hout : k ∉ L.map (·.2) → Q (.free (wy w tb k K) false) t) :
    ∀ (f c : Nat) (st : Option SetTable.Probe), st.getD (tb.probeStart (hN w k)) = stp8 w tb k c → c ≤ K → K - c < f → (∀ (i : Nat) (p : Addr × NestedKey), L[i]? = some p → p.2 = k → ∃ d, c ≤ d ∧ d < K ∧ tb.place.toList[i]? = some (wy w tb k d)) →
      wpAny (model P w) B (setSearchFrom a (.ref x) (hN w k) true f st) Q Ex t
  | 0, c, st, _, _, hf, _ => absurd hf (Nat.not_lt_zero _)
  | f + 1, c, st, est, hc, hf, ahead => by
    obtain ⟨ob, o1, o2, o3⟩ := R.at_
    rw [setSearchFrom_succ]
    refine wpAny_bind (wpAny_setState_of o1 o3 R.fit ?_)
    dsimp only
    refine wp_if_neg R.stay ?_
    have jq : ∀ q, (nth tb.mask (stp8 w tb k c) q).j = wy w tb k (c + q) := fun q => congrArg SetTable.Probe.j (stp8_more tb k c q)
    have eK : c + (K - c) = K := by omega
    have spec := go_spec tb R.tb_.ris R.tb_.dm (fun i => (es[i]?.map (·.1)).getD 0) (hN w k) (10 * SetTable.turns tb.mask) (K - c) (stp8 w tb k c) (stp8_dummy tb k c) (by omega) (fun q hq => by rw [jq]; exact taken (c + q) (by omega)) (by rw [jq, eK]; exact free)
    have hat : ∀ (i : Nat) (p : Addr × NestedKey), L[i]? = some p → (fun i => (es[i]?.map (·.1)).getD 0) i = hN w p.2 := fun i p e => by
      show (es[i]?.map (·.1)).getD 0 = hN w p.2
      rw [entryN R.rw_ e]
      rfl
    rcases spec with ⟨q, i, hq, hi, hh, hno, hpr⟩ | ⟨hno, hpr⟩
    · have hpr2 : tb.probe (fun i => (es[i]?.map (·.1)).getD 0) (hN w k) (st.getD (tb.probeStart (hN w k))) = some (.candidate (wy w tb k (c + q)) i (stp8 w tb k (c + (q + 1)))) := by
        rw [est, ← jq, ← stp8_more]
        exact hpr
      rw [hpr2]
      dsimp only
      rw [jq] at hi
      have il : i < L.length := by
        have q1 : i < tb.place.toList.length := (List.getElem?_eq_some_iff.mp hi).1
        have q2 := R.tb_.sz
        simp only [List.length_map] at q2
        simp only [Array.length_toList] at q1
        omega
      obtain ⟨p, hp⟩ : ∃ p, L[i]? = some p := ⟨L[i], List.getElem?_eq_getElem il⟩
      have pm := List.mem_of_getElem? hp
      have go : wpAny (model P w) B (searchRest a (.ref x) (hN w k) true f es tb (wy w tb k (c + q)) i (stp8 w tb k (c + (q + 1)))) Q Ex t := by
        unfold searchRest
        rw [entryN R.rw_ hp]
        dsimp only
        refine wpAny_bind (wpAny_holding (eq_n hu (R.key p pm) hx (wpAny_bind (wpAny_setState_of o1 o3 R.fit ?_))))
        dsimp only
        by_cases same : p.2 = k
        · rw [decide_eq_true same]
          exact wp_if_pos rfl (wpAny_pure (hin (List.mem_map.mpr ⟨p, pm, same⟩)))
        · rw [decide_eq_false same]
          refine wp_if_neg (by simp) ?_
          rw [sameMem]
          dsimp only
          have live : tb.slot (wy w tb k (c + q)) = .live i := slot_live R.tb_.ris hi
          simp only [if_true, live, entryN R.rw_ hp]
          refine wpAny_bind (wpAny_isSame_ref_self (wpAny_bind (wpAny_pure ?_)))
          simp only [if_true]
          refine wp_if_neg (by simp) ?_
          refine look_from R hx hu kf free taken hin hout f (c + (q + 1)) (some _) rfl (by omega) (by omega) fun i2 p2 e2 k2 => ?_
          obtain ⟨d, d1, d2, d3⟩ := ahead i2 p2 e2 k2
          refine ⟨d, ?_, d2, d3⟩
          by_cases lt : d < c + q
          · exact absurd ((hat i2 p2 e2).trans (by rw [k2])) (hno (d - c) i2 (by omega) (by rw [jq, show c + (d - c) = d by omega]; exact d3))
          · by_cases eq : d = c + q
            · rw [eq] at d3
              have l2 := slot_live R.tb_.ris d3
              rw [live] at l2
              injection l2 with l2
              rw [← l2, hp] at e2
              rw [Option.some.inj e2] at same
              exact absurd k2 same
            · omega
      by_cases ld : tb.led = true
      · exact wp_if_neg (by simp [ld]) go
      · refine wp_if_pos (by simp [ld]) (wpAny_bind (seen_n hx (fun y hy => ?_) ?_))
        · obtain ⟨e, he, rfl⟩ := List.mem_map.mp hy
          have he : e ∈ es ∧ e.1 = hN w k := by simpa using he
          have he2 : e ∈ rowsN w L := by rw [← R.rw_]; simpa using he.1
          obtain ⟨p2, hp2, rfl⟩ := List.mem_map.mp he2
          exact ⟨p2.2, p2.1, rfl, R.key p2 hp2⟩
        · exact wp_if_neg (by decide) go
    · have hpr2 : tb.probe (fun i => (es[i]?.map (·.1)).getD 0) (hN w k) (st.getD (tb.probeStart (hN w k))) = some (.empty (wy w tb k K) none) := by
        have e2 : (nth tb.mask (stp8 w tb k c) (K - c)).j = wy w tb k K := by rw [jq, eK]
        rw [est, ← e2]
        exact hpr
      rw [hpr2]
      dsimp only
      refine wpAny_pure (hout fun hm => ?_)
      obtain ⟨p, pm, rfl⟩ := List.mem_map.mp hm
      obtain ⟨i, il, rfl⟩ := List.getElem_of_mem pm
      obtain ⟨d, d1, d2, d3⟩ := ahead i _ (List.getElem?_eq_getElem il) rfl
      exact hno (d - c) i (by omega) (by rw [jq, show c + (d - c) = d by omega]; exact d3) (hat i _ (List.getElem?_eq_getElem il))
/-- looking for a key, as adding does -/
theorem look_n (R : SetN w t.heap a L es ep tb) {x : Addr} {k : NestedKey} (hx : IsN t.heap k x) (hu : B.units + 8 < cLine) {Q : SetFound → Shared → Prop} (hin : k ∈ L.map (·.2) → Q (.there none) t)
    (hout : ∀ K, k ∉ L.map (·.2) → wy w tb k K ∉ tb.place.toList → (∀ c, c < K → wy w tb k c ∈ tb.place.toList) → Q (.free (wy w tb k K) false) t) : wpAny (model P w) B (setSearch a (.ref x) (hN w k) true) Q Ex t := by
  have rm := R.rm_
  obtain ⟨K, kf, free, taken⟩ := R.tb_.first (by simp only [List.length_map]; omega) (hN w k)
  have big : K < 100000 := by
    have q : SetTable.turns tb.mask ≤ 142 := by
      unfold SetTable.turns
      rcases R.tb_.mok with e | e | e <;> rw [e] <;> decide
    omega
  unfold setSearch
  refine look_from R hx hu kf free taken hin (fun no => hout K no free taken) 100000 0 none rfl (Nat.zero_le K) (by omega) fun i p e ek => ?_
  have h1 : (L.map fun p => hN w p.2)[i]? = some (hN w k) := by
    rw [List.getElem?_map, e, ← ek]
    rfl
  have h2 : i < tb.place.toList.length := by
    have q1 := (List.getElem?_eq_some_iff.mp e).1
    have q2 := R.tb_.sz
    simp only [List.length_map] at q2
    simp only [Array.length_toList]
    omega
  obtain ⟨c, hc, ec⟩ := R.tb_.before free h1 (List.getElem?_eq_getElem h2)
  exact ⟨c, Nat.zero_le c, hc, (List.getElem?_eq_getElem h2).trans (congrArg some ec.symm)⟩
theorem IsN.but {h h' : Heap} {k : NestedKey} {b : Addr} {o : Obj} (x : IsN h k b) (e : h.get? a = some o) (d : o.data = .set es ep tb) (sb : Heap.SameBut a h h') : IsN h' k b :=
  ⟨NestedIs.at (fun c u vs n e2 d2 => (sb.2 c (fun z => by
    rw [z, e] at e2
    cases e2
    rw [d] at d2
    cases d2)).trans e2) k _ x.is, x.dp, x.nm⟩
/-- the rows in another order -/
theorem orderN (order : Array Nat) (hr : es.toList = rowsN w L) (pm : order.toList.Perm (List.range L.length)) :
    ∃ L2 : List (Addr × NestedKey), (order.filterMap (es[·]?)).toList = rowsN w L2 ∧ L2.Perm L ∧ (L2.map fun p => hN w p.2) = order.toList.map fun i => (es.map (·.1)).getD i 0 := by
  have lt : ∀ i ∈ order.toList, i < L.length := fun i hi => List.mem_range.mp (pm.mem_iff.mp hi)
  have step : ∀ l : List Nat, (∀ i ∈ l, i < L.length) → l.filterMap (fun i => es[i]?) = rowsN w (l.filterMap fun i => L[i]?) ∧ ((l.filterMap fun i => L[i]?).map fun p => hN w p.2) = l.map fun i => (es.map (·.1)).getD i 0 := by
    intro l
    induction l with
    | nil => exact fun _ => ⟨rfl, rfl⟩
    | cons i l ih =>
      intro hl
      have il := hl i List.mem_cons_self
      have e1 := List.getElem?_eq_getElem il
      have e2 := entryN hr e1
      obtain ⟨q1, q2⟩ := ih fun j hj => hl j (List.mem_cons_of_mem _ hj)
      rw [List.filterMap_cons_some e2, List.filterMap_cons_some e1, q1]
      refine ⟨rfl, ?_⟩
      rw [List.map_cons, List.map_cons, q2]
      congr 1
      have e3 : (es.map (·.1))[i]? = some (hN w L[i].2) := by rw [Array.getElem?_map, e2]; rfl
      simp [Array.getD_eq_getD_getElem?, e3]
  obtain ⟨q1, q2⟩ := step order.toList lt
  refine ⟨order.toList.filterMap fun i => L[i]?, by simpa using q1, ?_, q2⟩
  have e4 : (List.range L.length).filterMap (fun i => L[i]?) = L := by
    have upto : ∀ n, n ≤ L.length → (List.range n).filterMap (fun i => L[i]?) = L.take n := by
      intro n
      induction n with
      | zero => exact fun _ => rfl
      | succ n ih =>
        intro hn
        have z : L[n]? = some L[n] := List.getElem?_eq_getElem hn
        rw [List.range_succ, List.filterMap_append, ih (by omega), List.take_succ, z]
        simp [z]
    rw [upto _ (Nat.le_refl _), List.take_length]
  have := pm.filterMap fun i => L[i]?
  rwa [e4] at this
/-- the table is laid anew -/
theorem relay_n {o : Obj} (e : t.heap.get? a = some o) (hx : o.ExactSet) (d : o.data = .set es ep tb) (hr : es.toList = rowsN w L) (T : TabOk tb (L.map fun p => hN w p.2)) (fl : L.length ≤ tb.mask) (nd : (L.map (·.2)).Nodup) (key : ∀ p ∈ L, IsN t.heap p.2 p.1) (pl : tb.plain = true)
    (ld : w.params.followText "set-order" = true ∨ tb.led = true) (fw : L.length < 64) {wanted M : Nat} (hw : SetTable.sizeAbove wanted - 1 = M) (hM : MaskOk M) (w128 : SetTable.sizeAbove wanted ≤ 128) (rm : L.length * 5 < M * 3) {Q : Unit → Shared → Prop}
    (h : ∀ h' L' es' ep' tb', Heap.SameBut a t.heap h' → SetN w h' a L' es' ep' tb' → L'.Perm L → Q () { t with heap := h' }) : wpAny (model P w) B (setRelay a wanted) Q Ex t := by
  have sz := rowsN_len hr
  obtain ⟨tb2, order, r0, r1, r2, r3, r4, r5, r6⟩ := relaid_ok tb (hs := es.map (·.1)) (wanted := wanted) hw hM (by simp only [Array.size_map]; omega)
  rw [Array.size_map, sz] at r1
  obtain ⟨L2, o1, o2, o3⟩ := orderN order hr r1
  rw [← o3] at r2
  have sz2 : (order.filterMap (es[·]?)).size = es.size := by
    rw [rowsN_len o1, o2.length_eq, sz]
  rw [setRelay_eq]
  refine wpAny_bind (wpAny_setState_of e d (fitsN_of T sz fl) ?_)
  dsimp only
  refine wp_if_neg (by rw [sizeLine_eq]; omega) ?_
  rw [r0]
  dsimp only
  refine wpAny_bind (wp_if_neg (by rw [sz2]; simp) (wpAny_pure ?_))
  dsimp only
  refine wpAny_storeSet_of e d ?_ (by rw [sz2, sz, sizeLine_eq]; omega)
  have sb : Heap.SameBut a t.heap (t.heap.update a (Obj.putSet (order.filterMap (es[·]?)) tb2)) := Heap.SameBut.update ..
  exact h _ L2 _ (ep + 1) tb2 sb ⟨⟨_, store_at e d, ⟨hx.1, hx.2.1, hx.2.2⟩, rfl⟩, o1, r2, (o2.map (·.2)).nodup_iff.mpr nd, fun p hp => (key p (o2.mem_iff.mp hp)).but e d sb, by rw [r5]; exact pl, by rw [r4]; exact ld, by rw [o2.length_eq, r3]; exact rm, by rw [o2.length_eq]; exact fw⟩ o2
set_option maxHeartbeats 1000000 in
/-- one more is added -/
theorem add_n (R : SetN w t.heap a L es ep tb) {x : Addr} {k : NestedKey} (hx : IsN t.heap k x) (hu : B.units + 8 < cLine) (fw : L.length + 1 < 64) {Q : Bool → Shared → Prop}
    (h : ∀ b h' L' es' ep' tb', Heap.SameBut a t.heap h' → SetN w h' a L' es' ep' tb' → (k ∈ L.map (·.2) → L' = L) → (k ∉ L.map (·.2) → L'.Perm ((x, k) :: L)) → Q b { t with heap := h' }) : wpAny (model P w) B (setAddHashed a (.ref x) (hN w k)) Q Ex t := by
  obtain ⟨o, o1, o2, o3⟩ := R.at_
  have sz := rowsN_len R.rw_
  have rm := R.rm_
  unfold setAddHashed
  refine wpAny_holding ?_
  rw [show (100000 : Nat) = 99999 + 1 from rfl, setAddHashedIn_succ]
  refine wpAny_bind (wpAny_setState_of o1 o3 R.fit ?_)
  dsimp only
  refine wp_if_neg (by simp [byScan, Value.scannable]) (wpAny_bind (look_n R hx hu (fun hm => ?_) fun K hm free taken => ?_))
  · exact wpAny_pure (h false t.heap L es ep tb (Heap.SameBut.refl a t.heap) R (fun _ => rfl) fun z => absurd hm z)
  dsimp only
  refine wpAny_bind (wpAny_setState_of o1 o3 R.fit ?_)
  dsimp only
  obtain ⟨q1, q2, q3, q4, q5, q6, q7, q8, q9⟩ := R.tb_.put free taken
  have pl1 : (tb.put (wy w tb k K)).1.plain = true := by rw [q6]; exact R.pl_
  have ld1 : w.params.followText "set-order" = true ∨ (tb.put (wy w tb k K)).1.led = true := by rw [q5]; exact R.ld_
  show wpAny _ B (do
    let byValue ← if (tb.put (wy w tb k K)).1.plain then hashByValue 8 (.ref x) else pure true
    let t := if byValue then (tb.put (wy w tb k K)).1 else { (tb.put (wy w tb k K)).1 with plain := false }
    storeSet a (SetTable.insertAt es (tb.put (wy w tb k K)).2 (hN w k, .ref x)) t
    if !false && t.tooFull then setRelay a (SetTable.grown (es.size + 1))
    return true) Q Ex t
  rw [q1]
  generalize SetTable.below tb.place (wy w tb k K) = at_ at q1 q2 q3
  generalize (tb.put (wy w tb k K)).1 = tb1 at q3 q4 q5 q6 q7 q8 q9 pl1 ld1
  have rows1 : (SetTable.insertAt es at_ (hN w k, Value.ref x)).toList = rowsN w (L.take at_ ++ (x, k) :: L.drop at_) := by
    rw [SetTable.toList_insertAt, R.rw_]
    simp [rowsN]
  have pm : (L.take at_ ++ (x, k) :: L.drop at_).Perm ((x, k) :: L) := by
    have z : (L.take at_ ++ (x, k) :: L.drop at_).Perm ((x, k) :: (L.take at_ ++ L.drop at_)) := List.perm_middle
    rwa [List.take_append_drop] at z
  have T1 : TabOk tb1 ((L.take at_ ++ (x, k) :: L.drop at_).map fun p => hN w p.2) := by
    rw [List.map_append, List.map_cons, List.map_take, List.map_drop]
    exact q3
  generalize SetTable.insertAt es at_ (hN w k, Value.ref x) = es1 at rows1
  generalize L.take at_ ++ (x, k) :: L.drop at_ = L1 at rows1 pm T1
  have len1 : L1.length = L.length + 1 := pm.length_eq
  have sz1 := rowsN_len rows1
  have nd1 : (L1.map (·.2)).Nodup := (pm.map (·.2)).nodup_iff.mpr (by rw [List.map_cons]; exact List.nodup_cons.mpr ⟨hm, R.nd_⟩)
  rw [pl1]
  simp only [if_true]
  refine wpAny_bind (hash_n 8 k _ _ hx.is hx.dp hx.nm ?_)
  simp only [if_true]
  refine wpAny_bind (wpAny_storeSet_of o1 o3 ?_ (by rw [sz1, len1, sizeLine_eq]; omega))
  have sb : Heap.SameBut a t.heap (t.heap.update a (Obj.putSet es1 tb1)) := Heap.SameBut.update ..
  have e1 := store_at (es' := es1) (t' := tb1) o1 o3
  generalize t.heap.update a (Obj.putSet es1 tb1) = h1 at sb e1 ⊢
  have key1 : ∀ p ∈ L1, IsN h1 p.2 p.1 := fun p hp => by
    rcases List.mem_cons.mp (pm.mem_iff.mp hp) with z | z
    · rw [z]; exact hx.but o1 o3 sb
    · exact (R.key p z).but o1 o3 sb
  have m1 := q9
  rw [List.length_map] at m1
  by_cases full : tb1.tooFull = true
  · rw [full]
    have fl : (L.length + 1) * 5 ≥ tb1.mask * 3 := by
      unfold SetTable.tooFull at full
      rw [decide_eq_true_eq, m1] at full
      exact full
    simp only [Bool.not_false, Bool.and_self, if_true]
    rw [sz]
    have which : (tb.mask = 7 ∧ L.length = 4) ∨ (tb.mask = 31 ∧ L.length = 18) := by
      rcases R.tb_.mok with e | e | e
      · exact .inl ⟨e, by omega⟩
      · exact .inr ⟨e, by omega⟩
      · omega
    have lay : ∀ M, SetTable.sizeAbove (SetTable.grown (L.length + 1)) - 1 = M → MaskOk M → SetTable.sizeAbove (SetTable.grown (L.length + 1)) ≤ 128 → (L.length + 1) * 5 < M * 3 →
        wpAny (model P w) B (setRelay a (SetTable.grown (L.length + 1)) >>= fun _ => pure true) Q Ex { t with heap := h1 } := fun M a1 a2 a3 a4 =>
      wpAny_bind (relay_n (t := { t with heap := h1 }) e1 ⟨o2.1, o2.2.1, o2.2.2⟩ rfl rows1 T1 (by rw [q4]; rcases which with ⟨u, v⟩ | ⟨u, v⟩ <;> omega) nd1 key1 pl1 ld1 (by rw [len1]; exact fw) a1 a2 a3 (by rw [len1]; exact a4)
        fun h2 L2 es2 ep2 tb2 sb2 R2 pm2 => wpAny_pure (h true h2 L2 es2 ep2 tb2 (sb.trans sb2) R2 (fun z => absurd z hm) fun _ => pm2.trans pm))
    rcases which with ⟨_, v⟩ | ⟨_, v⟩
    · exact lay 31 (by rw [v, size_20]) (.inr (.inl rfl)) (by rw [v, size_20]; decide) (by omega)
    · exact lay 127 (by rw [v, size_76]) (.inr (.inr rfl)) (by rw [v, size_76]; decide) (by omega)
  · have full : tb1.tooFull = false := by simpa using full
    rw [full]
    simp only [Bool.and_false, Bool.false_eq_true, if_false]
    refine wpAny_pure (h true h1 L1 es1 (ep + 1) tb1 sb ⟨⟨_, e1, ⟨o2.1, o2.2.1, o2.2.2⟩, rfl⟩, rows1, T1, nd1, key1, pl1, ld1, ?_, by rw [len1]; exact fw⟩ (fun z => absurd z hm) fun _ => pm)
    unfold SetTable.tooFull at full
    rw [decide_eq_false_iff_not, m1] at full
    rw [len1]
    omega
end
/-! ### set(xs) -/
structure GotN (ks : List (Addr × NestedKey)) (i : Nat) (L : List (Addr × NestedKey)) : Prop where
  sub : ∀ p ∈ L, p ∈ ks.take i
  all : ∀ p ∈ ks.take i, p.2 ∈ L.map (·.2)
  few : L.length ≤ i
theorem GotN.next {ks L L' : List (Addr × NestedKey)} {i : Nat} {x : Addr × NestedKey} (g : GotN ks i L) (e : ks[i]? = some x) (c1 : x.2 ∈ L.map (·.2) → L' = L) (c2 : x.2 ∉ L.map (·.2) → L'.Perm (x :: L)) : GotN ks (i + 1) L' := by
  have et : ks.take (i + 1) = ks.take i ++ [x] := by rw [List.take_succ, e]; rfl
  by_cases z : x.2 ∈ L.map (·.2)
  · rw [c1 z]
    refine ⟨fun p hp => by rw [et]; exact List.mem_append_left _ (g.sub p hp), fun p hp => ?_, Nat.le_succ_of_le g.few⟩
    rw [et] at hp
    rcases List.mem_append.mp hp with y | y
    · exact g.all p y
    · rw [List.mem_singleton.mp y]; exact z
  · have pm := c2 z
    refine ⟨fun p hp => ?_, fun p hp => ?_, ?_⟩
    · rw [et]
      rcases List.mem_cons.mp (pm.mem_iff.mp hp) with y | y
      · exact List.mem_append_right _ (by rw [y]; exact List.mem_singleton.mpr rfl)
      · exact List.mem_append_left _ (g.sub p y)
    · refine (pm.map (·.2)).mem_iff.mpr ?_
      rw [et] at hp
      rcases List.mem_append.mp hp with y | y
      · exact List.mem_cons_of_mem _ (g.all p y)
      · rw [List.mem_singleton.mp y]; exact List.mem_cons_self
    · have := pm.length_eq
      have := g.few
      simp only [List.length_cons] at *
      omega
theorem SetN.move {h h' : Heap} {a : Addr} {L : List (Addr × NestedKey)} {es : Array (Int × Value)} {ep : Nat} {tb : SetTable} (R : SetN w h a L es ep tb) (e : ∀ o, h.get? a = some o → h'.get? a = some o) (k : ∀ p ∈ L, IsN h' p.2 p.1) : SetN w h' a L es ep tb := by
  obtain ⟨o, o1, o2⟩ := R.at_
  exact ⟨⟨o, e o o1, o2⟩, R.rw_, R.tb_, R.nd_, k, R.pl_, R.ld_, R.rm_, R.fw_⟩
theorem SetN.new {h : Heap} {a : Addr} (e : h.get? a = some (set0 w)) : SetN w h a [] #[] 0 (.fresh 0 0 (!w.params.followText "set-order")) := by
  refine ⟨⟨_, e, ⟨rfl, rfl, rfl⟩, rfl⟩, rfl, ⟨.nil, rfl, rfl, .inl rfl, fun x hx => (by cases hx), fun i h j hi => (by simp at hi)⟩, .nil, (fun p hp => by cases hp), rfl, ?_, (by decide : (0 : Nat) * 5 < 7 * 3), (by decide : (0 : Nat) < 64)⟩
  show w.params.followText "set-order" = true ∨ (!w.params.followText "set-order") = true
  cases w.params.followText "set-order" <;> simp
end
section
variable {prog : Program} {w : World} {B : Around} {Out : Result → Shared → Prop} {it : Addr} {touched moved : List Addr} {Gs : Array GenState → Array GenState → Prop} {m : Nat} {Item : Nat → Value → Prop} {Now : Nat → Shared → Prop}
/-- the set's loop over such tuples -/
theorem loop_n (W : WalksS prog w B.in1 it touched moved Gs m Item Now) (z : Addr) (off : z ∉ touched) (ks : List (Addr × NestedKey)) (len : m = ks.length) (few : ks.length < 64) (isN : ∀ j u, Item j u → ∃ p, ks[j]? = some p ∧ u = .ref p.1)
    (h0 : Heap) (hk : ∀ p ∈ ks, IsN h0 p.2 p.1) (z0 : h0.get? z = none) (mv0 : ∀ b ∈ moved, h0.get? b = none) (hu : B.in1.units + 8 < cLine) :
    ∀ (left j : Nat) (t : Shared), m - j = left → j ≤ m → Now j t → (∀ b o, h0.get? b = some o → t.heap.get? b = some o) → (∃ L es ep tb, SetN w t.heap z L es ep tb ∧ GotN ks j L) →
      (∀ t' L es ep tb, Moved (z :: moved) Gs t t' → SetN w t'.heap z L es ep tb → GotN ks m L → (∀ b o, h0.get? b = some o → t'.heap.get? b = some o) → Out (.ok (.ret .none)) t') →
      codeAny (model prog w) B (.builtin "set.update.loop" ⟨[.ref z, .ref it], []⟩) Out t
  | 0, j, t, e, le, now, old, so, out => by
    have hj : j = m := by omega
    subst hj
    obtain ⟨L, es, ep, tb, R, g⟩ := so
    have offM : z ∉ moved := fun q => off (W.sub _ q)
    refine codeAny_builtin PyProof.Rows.F.entry_set_update_loop ?_
    rw [Around.under_plainId PyProof.Rows.F.plain_set_update_loop _]
    show wpAny _ B.in1 (pyNext (.ref it) >>= _) _ _ t
    refine wpAny_bind (W.done t _ _ now fun t' mv => ?_)
    show wpAny _ B.in1 (ret Value.none) _ _ t'
    have old' : ∀ b o, h0.get? b = some o → t'.heap.get? b = some o := fun b o q => mv.heap b o (fun y => by rw [mv0 b y] at q; cases q) (old b o q)
    exact wpAny_pure (out t' L es ep tb (mv.mono fun b hb => List.mem_cons_of_mem _ hb) (R.move (fun o q => mv.heap z o offM q) fun p hp => (hk p (List.mem_of_mem_take (g.sub p hp))).up old') g old')
  | left + 1, j, t, e, le, now, old, so, out => by
    have lt : j < m := by omega
    obtain ⟨L, es, ep, tb, R, g⟩ := so
    have offM : z ∉ moved := fun q => off (W.sub _ q)
    refine codeAny_builtin PyProof.Rows.F.entry_set_update_loop ?_
    rw [Around.under_plainId PyProof.Rows.F.plain_set_update_loop _]
    show wpAny _ B.in1 (pyNext (.ref it) >>= _) _ _ t
    refine wpAny_bind (W.item j t _ _ lt now fun u t' hu' now' mv => ?_)
    obtain ⟨p, ep1, rfl⟩ := isN j u hu'
    have old' : ∀ b o, h0.get? b = some o → t'.heap.get? b = some o := fun b o q => mv.heap b o (fun y => by rw [mv0 b y] at q; cases q) (old b o q)
    have R' : SetN w t'.heap z L es ep tb := R.move (fun o q => mv.heap z o offM q) fun p hp => (hk p (List.mem_of_mem_take (g.sub p hp))).up old'
    have hx : IsN t'.heap p.2 p.1 := (hk p (List.mem_of_getElem? ep1)).up old'
    show wpAny _ B.in1 (holding [Value.ref p.1] (setAdd z (.ref p.1)) >>= _) _ _ t'
    refine wpAny_bind (wpAny_holding ?_)
    unfold setAdd
    refine wpAny_holding (wpAny_bind (pyHash_key p.2 _ _ _ _ hx.is (by have := hx.dp; omega) ?_))
    refine add_n (t := { t' with toks := t'.toks + p.2.draws }) R' hx hu (by have := g.few; omega) fun b h2 L2 es2 ep2 tb2 sb R2 c1 c2 => ?_
    have g2 := g.next ep1 c1 c2
    have old2 : ∀ b o, h0.get? b = some o → h2.get? b = some o := fun b o q => (sb.2 b (fun y => by rw [y, z0] at q; cases q)).trans (old' b o q)
    refine wpAny_pure ⟨plainId_quiet PyProof.Rows.F.plain_set_update_loop _, loop_n W z off ks len few isN h0 hk z0 mv0 hu left (j + 1) _ (by omega) lt (W.frame _ t' _ _ now' (Nat.le_add_right _ _) fun b hb o at_ => ?_) old2 ⟨L2, es2, ep2, tb2, R2, g2⟩ fun t2 L3 es3 ep3 tb3 mv2 R3 g3 old3 => ?_⟩
    · rw [sb.2 b (fun y : b = z => off (by rw [← y]; exact hb))]; exact at_
    · refine out t2 L3 es3 ep3 tb3 (Moved.trans W.gtrans ((mv.mono fun b hb => List.mem_cons_of_mem _ hb).then_heap (Nat.le_add_right _ _) fun b o hb at_ => ?_) mv2) R3 g3 old3
      rw [sb.2 b (fun y : b = z => hb (by rw [y]; exact List.mem_cons_self))]; exact at_
end
section
variable {prog : Program} {w : World} {B : Around} {Ex : Value → Shared → Prop} {t : Shared}
set_option maxHeartbeats 3200000 in
theorem call_n {src : Addr} {its : Array Value} (ks : List (Addr × NestedKey)) {Out : Value → Shared → Prop} (calm : B.handled = none) (lst : t.heap.IsList src its) (ia : its.toList = ks.map fun p => Value.ref p.1) (hk : ∀ p ∈ ks, IsN t.heap p.2 p.1) (few : ks.length < 64) (hu : B.units + 11 < cLine)
    (out : ∀ (h2 : Heap) (tk : Nat) L es ep tb, SetN w h2 t.heap.objs.size L es ep tb → GotN ks ks.length L → (∀ b o, t.heap.get? b = some o → h2.get? b = some o) → Out (.ref t.heap.objs.size) { t with heap := h2, toks := tk }) :
    wpAny (model prog w) B (call (.type "set") [.ref src]) Out Ex t := by
  obtain ⟨c, tl, hmro⟩ := PySem.F.called_set.mro
  have q1 := PySem.F.called_set.made
  have q2 := PySem.F.called_set.sub
  refine wpAny_call (codeAny_of_tree ?_)
  show wpAny _ _ (callAny (.type "set") _) _ _ _
  refine wpAny_pure ⟨Code.quiet_builtin _ (by decide +kernel), codeAny_builtin PySem.F.entry_type_call ?_⟩
  rw [Around.under_plain (weight_type_call_type "set" [.ref src] []) rfl]
  have q3 := PySem.F.called_set.notType
  have q4 := PySem.F.called_set.canCreate
  have q5 := PySem.F.typeCall_set_1 (.ref src)
  repeat (any_goals (first | assumption | wp_step))
  refine codeAny_mono (code_set_led1 (.ref src) (E := Ex) (Q₁ := fun made t1 => made = .ref t.heap.objs.size ∧ t1 = { t with heap := t.heap.push (set0 w) }) ⟨rfl, rfl⟩) fun r t1 hr => ?_
  cases r with
  | error _ => exact hr
  | ok fl =>
    cases fl with
    | ret made =>
      obtain ⟨rfl, rfl⟩ := hr
      have at0 : (t.heap.push (set0 w)).get? t.heap.objs.size = some (set0 w) := Heap.get?_push_size _ rfl
      have ty0 : Shared.TypeIs { t with heap := t.heap.push (set0 w) } (.ref t.heap.objs.size) "set" := ⟨_, at0, rfl⟩
      have q6 := PySem.F.called_set.init.lookup
      have q7 := PySem.F.called_set.init.bind (.ref t.heap.objs.size)
      repeat (any_goals (first | assumption | wp_step))
      refine codeAny_mono (codeAny_call_builtin (R := wants (fun v t2 => v = .none ∧ ∃ h2 tk L es ep tb, t2 = { t with heap := h2, toks := tk } ∧ SetN w h2 t.heap.objs.size L es ep tb ∧ GotN ks ks.length L ∧ (∀ c o, t.heap.get? c = some o → h2.get? c = some o)) Ex)
        PySem.F.called_set.init.plain PySem.F.entry_set_init (check_set_init_1 ty0 ?_)) fun r2 t2 hr2 => ?_
      · obtain ⟨ol, at1, cl, cap, dl⟩ := lst
        obtain ⟨k1, k2, k3, k4⟩ := ol
        simp only at cl dl
        subst cl; subst dl
        have at2 : (t.heap.push (set0 w)).get? src = some { cls := .type "list", dict := k2, data := .seq its cap, slots := k4 } := Heap.get?_push_of_some _ at1
        have s1 := PySem.F.sub_list_set
        have s2 := PySem.F.sub_list_frozenset
        have s3 : (Value.type "list" == Value.type "dict") = false := by decide
        have l1 : (t.heap.push (set0 w)).IsList src its := ⟨_, at2, rfl, cap, rfl⟩
        unfold Builtin.«set.__init__» noKeywords Builtin.Frozenset.updateFrom
        generalize hp : pyIter = pI
        wp_walk
        subst hp
        refine wpAny_pyIter_list l1 (wpAny_bind (wpAny_runValue ?_))
        have lo : src < t.heap.objs.size := Heap.lt_size at1
        have calm3 : B.in1.in1.in1.handled = none := by simp [calm]
        have ne : src ≠ (t.heap.push (set0 w)).objs.size := by rw [Heap.size_push]; exact Nat.ne_of_lt (Nat.lt_succ_of_lt lo)
        have off : t.heap.objs.size ∉ [(t.heap.push (set0 w)).objs.size, src] := by
          rw [Heap.size_push]
          intro y
          rcases List.mem_cons.mp y with y | y
          · exact Nat.ne_of_lt (Nat.lt_succ_self _) y
          · exact Nat.ne_of_gt lo (List.mem_singleton.mp y)
        have szk : its.size = ks.length := by
          have q := congrArg List.length ia
          simpa using q
        have isN : ∀ (j : Nat) (u : Value), its[j]? = some u → ∃ p, ks[j]? = some p ∧ u = .ref p.1 := fun j u hu => by
          have q : its.toList[j]? = some u := by rw [Array.getElem?_toList]; exact hu
          rw [ia, List.getElem?_map] at q
          obtain ⟨p, e1, e2⟩ := Option.map_eq_some_iff.mp q
          exact ⟨p, e1, e2.symm⟩
        have no : ∀ b, t.heap.objs.size ≤ b → t.heap.get? b = none := fun b hb => by
          cases q : t.heap.get? b with
          | none => rfl
          | some o => exact absurd (Heap.lt_size q) (Nat.not_lt.mpr hb)
        refine loop_n ((Walks.list calm3 _ src ne its).toS) t.heap.objs.size off ks szk few isN t.heap hk (no _ (Nat.le_refl _)) (fun b hb => no b ?_) ?_ (its.size - 0) 0 _ (by omega) (Nat.zero_le _) ⟨⟨_, Heap.get?_push_size _ rfl, rfl, rfl⟩, (l1.push _)⟩ (fun b o q => Heap.get?_push_of_some _ (Heap.get?_push_of_some _ q)) ?goal0 ?goalE
        · rw [List.mem_singleton.mp hb, Heap.size_push]; exact Nat.le_succ _
        · show B.units + 1 + 1 + 1 + 8 < cLine
          omega
        case goal0 =>
          have at3 : ((t.heap.push (set0 w)).push { cls := .type "list_iterator", data := .fields #[.ref src, .int 0 0] }).get? t.heap.objs.size = some (set0 w) := Heap.get?_push_of_some _ at0
          exact ⟨[], #[], 0, _, SetN.new at3, ⟨(fun p hp => by cases hp), (fun p hp => by simp at hp), Nat.le_refl _⟩⟩
        case goalE =>
          intro t' L es ep tb mv R g old
          obtain ⟨h2, g2, d2, tk, os2⟩ := t'
          have e1 : g2 = t.gens := mv.gens
          have e2 : d2 = t.drawn := mv.drawn
          have e3 : os2 = t.os := mv.os
          subst e1; subst e2; subst e3
          show wpAny _ _ _ _ _ _
          refine wpAny_pure ?_
          show wpAny _ _ (ret Value.none) _ _ _
          rw [szk] at g
          exact wpAny_pure ⟨rfl, h2, tk, L, es, ep, tb, rfl, R, g, old⟩
      · cases r2 with
        | error _ => exact hr2
        | ok fl2 =>
          cases fl2 with
          | ret v =>
            obtain ⟨rfl, h2, tk, L, es, ep, tb, rfl, R, g, old⟩ := hr2
            repeat (any_goals (first | assumption | wp_step))
            exact out _ _ _ _ _ _ R g old
          | _ => exact hr2.elim
    | _ => exact hr.elim
end
end Yd

/-! YdO: sorted(xs) of alike data; sorted(set(xs)) of nested tuples of whole numbers. -/
namespace Yd
open PySem L2 PySem.Spec PyProof.Rows
abbrev leD (a b : PyData) : Bool := !PySem.W.dataLt b a
theorem dataLe_leD {β : Type} (enc : β → PyData) : PySem.W.dataLe false enc = fun a b => leD (enc a) (enc b) := by
  rw [PySem.W.dataLe_eq]
  rfl
theorem each_vals {γ : Type} {f : γ → V} : ∀ {us : List Value} {bs : List γ}, PySem.W.EachIs (fun u b => RelV (f b) u) us bs → Vals (bs.map f) us
  | _, _, .nil => .nil
  | _, _, .cons a b => .cons a (each_vals b)
/-- values with their data -/
theorem each_of {X : Cx} {pins : List (Addr × Obj)} {σ : L2.St} {H : Hp} {s : Shared} (I : Inv X pins σ H s) : ∀ {vs : List V} {ds : List PyData} {us : List Value}, DpAll X.K H vs ds → Vals vs us → PySem.W.EachIs (fun u (b : V × PyData) => RelV b.1 u ∧ ∃ as, Reads s.heap u b.2 as) us (vs.zip ds)
  | [], _, _, h, r => by
    cases h
    cases r
    exact .nil
  | v :: vs, _, _, h, r => by
    cases h with
    | cons a b => cases r with
      | cons c d => exact .cons ⟨c, Dp.reads I _ _ _ a c⟩ (each_of I b d)
theorem dpall_len {K : PySem.W.Frag} {H : Hp} : ∀ {vs : List V} {ds : List PyData}, DpAll K H vs ds → vs.length = ds.length
  | [], _, h => by cases h; rfl
  | _ :: vs, _, h => by
    cases h with
    | cons _ b => simp [dpall_len b]
/-- sorted(xs), xs a list of alike data -/
def rSortD (K : PySem.W.Frag) : List V → Hp → VK → Prop := fun xs H Q => ∃ (l : Addr) (vs : List V) (ds : List PyData), xs = [.ref l] ∧ SqL K H l vs ∧ DpAll K H vs ds ∧ PySem.W.AllAlike ds ∧ PySem.W.Sortable ds ∧ (∀ d ∈ ds, d.depth ≤ 60) ∧
  ∀ p (bs : List (V × PyData)), bs.Perm (vs.zip ds) → bs.map (·.2) = ds.mergeSort leD → H p = none → Q (.ref p) (upd H p (.lst (bs.map (·.1))))
theorem cr_sortD {X : Cx} (hu : X.A.units + 64 < cLine) : CallR X (.builtin "sorted") (rSortD X.K) := by
  intro pins s σ H xs us Q I r h
  obtain ⟨l, vs, ds, rfl, hl, hd, al, so, dp, q⟩ := h
  rw [Vals.ref1 r]
  obtain ⟨its, rv, pl, hz⟩ := I.list hl
  have lv := dpall_len hd
  have ee := each_of I hd rv
  have e2 : (vs.zip ds).map (·.2) = ds := List.map_snd_zip (by omega)
  have len : (vs.zip ds).length = vs.length := by simp [lv]
  refine PySem.W.sorted_data (R := fun u (b : V × PyData) => RelV b.1 u) (enc := Prod.snd) (vs := its) pl.isList (ee.mono fun _ _ z => z.1) (ee.mono fun _ _ z => z.2) (by rw [e2]; exact al) (by rw [e2]; exact so) (by rw [len]; exact hz)
    (fun b hb => by have := dp b.2 (by rw [← e2]; exact List.mem_map.mpr ⟨b, hb, rfl⟩); omega) fun out lo eo => ?_
  obtain ⟨cap, at_⟩ := sortedAll_at s.heap its out.toArray
  rw [dataLe_leD] at eo
  have pm : ((vs.zip ds).mergeSort fun a b => leD a.2 b.2).Perm (vs.zip ds) := List.mergeSort_perm _ _
  have em : ((vs.zip ds).mergeSort fun a b => leD a.2 b.2).map (·.2) = ds.mergeSort leD := by
    rw [List.map_mergeSort (s := leD) (fun a _ b _ => rfl), e2]
  generalize ((vs.zip ds).mergeSort fun a b => leD a.2 b.2) = bs at eo pm em
  have ln : (bs.map (·.1)).length ≤ sizeLine := by rw [List.length_map, pm.length_eq, len]; exact hz
  refine ⟨.ref (s.heap.objs.size + 1), upd H (s.heap.objs.size + 1) (.lst (bs.map (·.1))), I.laid (t' := s.toks) (fun b o e => sortedAll_old e) (Nat.le_succ _) ⟨ln, out, cap, each_vals eo, at_⟩, rfl, q _ bs pm em (I.hok.fresh (Nat.le_succ _))⟩
/-! ### over abstract values -/
def sortDK (xs : List PyData) (Q : A → Prop) : Prop := PySem.W.AllAlike xs ∧ PySem.W.Sortable xs ∧ (∀ d ∈ xs, d.depth ≤ 60) ∧ Q (.own (xs.mergeSort leD))
def sortDA (as : List A) (Q : A → Prop) : Prop := match as with
  | [a] => (match asL a with
    | some xs => sortDK xs Q
    | none => False)
  | _ => False
theorem sortDA_o (xs : List PyData) (Q : A → Prop) : sortDA [.own xs] Q = sortDK xs Q := rfl
theorem sortDA_d (xs : List PyData) (Q : A → Prop) : sortDA [.d (.list xs)] Q = sortDK xs Q := rfl
theorem sortDA_b (i : Nat) (xs : List PyData) (Q : A → Prop) : sortDA [.bor i xs] Q = sortDK xs Q := rfl
theorem rpl_zip {F : Hp} : ∀ {vs : List V} {ds : List PyData}, RpL F vs ds → ∀ b ∈ vs.zip ds, Rp F b.1 b.2
  | [], _, h, b, hb => by cases h; cases hb
  | v :: vs, _, h, b, hb => by
    cases h with
    | cons h1 h2 =>
      rcases List.mem_cons.mp hb with e | z
      · rw [e]; exact h1
      · exact rpl_zip h2 b z
theorem rpl_of_zip {F : Hp} : ∀ {bs : List (V × PyData)}, (∀ b ∈ bs, Rp F b.1 b.2) → RpL F (bs.map (·.1)) (bs.map (·.2))
  | [], _ => .nil
  | b :: bs, h => .cons (h b List.mem_cons_self) (rpl_of_zip fun c hc => h c (List.mem_cons_of_mem _ hc))
theorem snd_sortD {Γ : Gm} {K : PySem.W.Frag} : SndC Γ (rSortD K) sortDA := by
  intro ρ σ F H F1 H1 xs as Q K0 m m1 s ra h k
  unfold sortDA at h
  split at h
  · split at h
    · rename_i ds e
      obtain ⟨al, so, dp, q⟩ := h
      cases ra with
      | cons r1 t =>
      cases t
      obtain ⟨p, vs, rfl, h1, l1⟩ := r1.list m1 e
      refine ⟨p, vs, ds, rfl, SqL.of h1, RpL.dp m1.fh _ _ l1, al, so, dp, fun t bs pm em ht => ?_⟩
      have s2 := Stp.new0 (o := .lst (bs.map (·.1))) m1.fh m1.gi m1.st.box ht
      have rl := rpl_of_zip fun b hb => rpl_zip l1 b (pm.mem_iff.mp hb)
      rw [em] at rl
      exact k _ _ _ (.own _) (s.trans m.gi s2) ⟨t, _, rfl, s.none_back ht, m1.fh.free ht, upd_same, rl⟩ q
    · exact h.elim
  · exact h.elim
theorem pd_sortD {X : Cx} {Γ : Gm} {K : PySem.W.Frag} {k : Nat} {e : Expr} {es : List Expr} {tA : TA} {wA : WA} {p pos : Pos} (hr : Room k X.A) (hm : X.mg "sorted" = none) (ha : PDA X Γ (e :: es) tA wA) (hg : Gl X "sorted" := by rfl) (hK : X.K = K := by rfl)
    (he : starEach (e :: es) X.env = (false, eval e X.env) :: starEach es X.env := by rfl) (hpl : (backTo pos (starEach es X.env)).any (·.1) = false := by rfl) : PD X Γ (.Call (.Name "sorted" p) (e :: es) [] pos) (tCB (rSortD K) tA) (wCB sortDA wA) := by
  subst hK
  exact pd_cb (cr_sortD (room64 hr)) snd_sortD hm boot_sorted' ha hg (by decide) (by decide) he hpl
/-! ### sorted(set(xs)) of nested tuples -/
mutual
theorem nested_of : ∀ (k : NestedKey) {h : Heap} {v : Value} {as : List Addr}, numK k = true → Reads h v k.data as → NestedIs h k v
  | .none, _, _, _, hn, _ => by cases hn
  | .text _, _, _, _, hn, _ => by cases hn
  | .num i, _, _, _, _, r => by
    rw [NestedKey.data] at r
    cases r
    exact .int _ _
  | .tup ks, _, _, _, hn, r => by
    rw [NestedKey.data] at r
    rw [numK] at hn
    cases r with
    | tuple e1 e2 e3 e4 => exact .tup e1 e2 e3 (nesteds_of ks hn e4)
theorem nesteds_of : ∀ (ks : List NestedKey) {h : Heap} {vs : List Value} {as : List Addr}, numKs ks = true → ReadsAll h vs (NestedKey.datas ks) as → NestedAll h ks vs
  | [], _, _, _, _, r => by
    rw [NestedKey.datas] at r
    cases r
    exact .nil
  | k :: ks, _, _, _, hn, r => by
    rw [NestedKey.datas] at r
    rw [numKs, Bool.and_eq_true] at hn
    cases r with
    | cons a b => exact .cons (nested_of k hn.1 a) (nesteds_of ks hn.2 b)
end
mutual
theorem data_inj : ∀ (a b : NestedKey), a.data = b.data → a = b
  | .none, b, h => by cases b <;> simp_all [NestedKey.data]
  | .num i, b, h => by cases b <;> simp_all [NestedKey.data]
  | .text x, b, h => by cases b <;> simp_all [NestedKey.data]
  | .tup ks, b, h => by
    cases b with
    | tup ls => rw [NestedKey.data, NestedKey.data] at h; rw [datas_inj ks ls (PyData.tuple.inj h)]
    | _ => simp [NestedKey.data] at h
theorem datas_inj : ∀ (a b : List NestedKey), NestedKey.datas a = NestedKey.datas b → a = b
  | [], b, h => by cases b <;> simp_all [NestedKey.datas]
  | x :: xs, b, h => by
    cases b with
    | nil => simp [NestedKey.datas] at h
    | cons y ys =>
      rw [NestedKey.datas, NestedKey.datas] at h
      obtain ⟨h1, h2⟩ := List.cons.inj h
      rw [data_inj x y h1, datas_inj xs ys h2]
end
mutual
theorem reads_flat : ∀ (k : NestedKey) {h : Heap} {v : Value} {as : List Addr}, numK k = true → Reads h v k.data as → as = []
  | .none, _, _, _, hn, _ => by cases hn
  | .text _, _, _, _, hn, _ => by cases hn
  | .num i, _, _, _, _, r => by
    rw [NestedKey.data] at r
    cases r
    rfl
  | .tup ks, _, _, _, hn, r => by
    rw [NestedKey.data] at r
    rw [numK] at hn
    cases r with
    | tuple _ _ _ e4 => exact readss_flat ks hn e4
theorem readss_flat : ∀ (ks : List NestedKey) {h : Heap} {vs : List Value} {as : List Addr}, numKs ks = true → ReadsAll h vs (NestedKey.datas ks) as → as = []
  | [], _, _, _, _, r => by
    rw [NestedKey.datas] at r
    cases r
    rfl
  | k :: ks, _, _, _, hn, r => by
    rw [NestedKey.datas] at r
    rw [numKs, Bool.and_eq_true] at hn
    cases r with
    | cons a b => rw [reads_flat k hn.1 a, readss_flat ks hn.2 b]; rfl
end
abbrev leN (a b : Addr × NestedKey) : Bool := leD a.2.data b.2.data
/-- values that are addresses of rows -/
theorem rows_back {L : List (Addr × NestedKey)} : ∀ {vs : List Value}, (∀ v ∈ vs, ∃ p ∈ L, v = Value.ref p.1) → ∃ L1 : List (Addr × NestedKey), vs = L1.map (fun p => Value.ref p.1) ∧ ∀ p ∈ L1, p ∈ L
  | [], _ => ⟨[], rfl, fun p hp => by cases hp⟩
  | v :: vs, h => by
    obtain ⟨p, hp, e⟩ := h v List.mem_cons_self
    obtain ⟨L1, e1, e2⟩ := rows_back fun u hu => h u (List.mem_cons_of_mem _ hu)
    refine ⟨p :: L1, by rw [List.map_cons, ← e, ← e1], fun r hr => ?_⟩
    rcases List.mem_cons.mp hr with z | z
    · rw [z]; exact hp
    · exact e2 r z
section
variable {P : Program} {w : World} {B : Around} {Ex : Value → Shared → Prop} {t : Shared} {a : Addr} {L : List (Addr × NestedKey)} {es : Array (Int × Value)} {ep : Nat} {tb : SetTable}
theorem refs_perm (R : SetN w t.heap a L es ep tb) {L1 : List (Addr × NestedKey)} (sub : ∀ p ∈ L1, p ∈ L) (pm : (L1.map fun p => Value.ref p.1).Perm (L.map fun p => Value.ref p.1)) : L1.Perm L := by
  have one : ∀ p ∈ L, ∀ r ∈ L, p.1 = r.1 → p = r := fun p hp r hr e => by
    have h1 := R.key p hp
    rw [e] at h1
    exact Prod.ext e (h1.one (R.key r hr))
  have ndL : L.Nodup := List.Pairwise.of_map (·.2) (fun x y h e => h (by rw [e])) R.nd_
  have ndr : (L.map fun p => Value.ref p.1).Nodup := List.pairwise_map.mpr (ndL.imp_of_mem fun {x y} hx hy ne e => ne (one x hx y hy (Value.ref.inj e)))
  have nd1 : L1.Nodup := List.Pairwise.of_map (fun p : Addr × NestedKey => Value.ref p.1) (fun x y h e => h (by rw [e])) (pm.nodup_iff.mpr ndr)
  refine (List.perm_ext_iff_of_nodup nd1 ndL).mpr fun p => ⟨sub p, fun hp => ?_⟩
  obtain ⟨r, hr, e⟩ := List.mem_map.mp (pm.mem_iff.mpr (List.mem_map.mpr ⟨p, hp, rfl⟩))
  rw [← one r (sub r hr) p hp (Value.ref.inj e)]
  exact hr
theorem each_map {R : Value → Addr × NestedKey → Prop} : ∀ (L1 : List (Addr × NestedKey)), (∀ p ∈ L1, R (.ref p.1) p) → PySem.W.EachIs R (L1.map fun p => Value.ref p.1) L1
  | [], _ => .nil
  | p :: L1, h => .cons (h p List.mem_cons_self) (each_map L1 fun q hq => h q (List.mem_cons_of_mem _ hq))
theorem each_refs : ∀ {out : List Value} {L1 : List (Addr × NestedKey)}, PySem.W.EachIs (fun u (p : Addr × NestedKey) => u = Value.ref p.1) out L1 → out = L1.map fun p => Value.ref p.1
  | _, _, .nil => rfl
  | _, _, .cons a b => by rw [List.map_cons, ← a, ← each_refs b]
theorem sorted_n (R : SetN w t.heap a L es ep tb) (calm : B.handled = none) (hu : B.units + 64 < cLine) (rd : ∀ p ∈ L, Reads t.heap (.ref p.1) p.2.data []) (al : PySem.W.AllAlike (L.map fun p => p.2.data)) (so : PySem.W.Sortable (L.map fun p => p.2.data)) (dp : ∀ p ∈ L, p.2.data.depth ≤ 60) {Q : Value → Shared → Prop}
    (h : ∀ t' p (out : Array Value) (cap : Nat) (L0 : List (Addr × NestedKey)), (∀ b o, t.heap.get? b = some o → t'.heap.get? b = some o) → t'.gens = t.gens → t'.os = t.os → t.heap.objs.size ≤ p → t'.heap.get? p = some (seqObj "list" out cap) → L0.Perm L → out.toList = (L0.mergeSort leN).map (fun p => Value.ref p.1) → Q (.ref p) t') :
    wpAny (model P w) B (call (.builtin "sorted") [.ref a]) Q Ex t := by
  obtain ⟨o, o1, o2, o3⟩ := R.at_
  have sz := rowsN_len R.rw_
  have fw := R.fw_
  refine Calls.call_function_entry kind_sorted plain_sorted entry_sorted (args_sorted1 _) ?_
  unfold Builtin.«sorted»
  refine wpAny_bind (m := checkCount "sorted" 1 1 _) (wpAny_pure ?_)
  refine wpAny_bind (collect_set (A := B.in1) calm ⟨o, o1, o2.1, o3⟩ R.fit (by unfold scanBound; omega) R.tb_.ris R.ld_ fun t1 vs old sz1 g1 os1 pm => ?_)
  have em : es.toList.map (·.2) = L.map fun p => Value.ref p.1 := by
    rw [R.rw_, rowsN, List.map_map]
    rfl
  rw [em] at pm
  obtain ⟨L0, rfl, sub⟩ := rows_back fun v hv => by
    obtain ⟨p, hp, e⟩ := List.mem_map.mp (pm.mem_iff.mp hv)
    exact ⟨p, hp, e.symm⟩
  have pL : L0.Perm L := refs_perm R sub pm
  have len0 : (L0.map fun p => Value.ref p.1).length = L.length := by rw [List.length_map, pL.length_eq]
  refine wpAny_bind (wpAny_newList ?_ (by rw [sizeLine_eq]; omega))
  have atL : (t1.heap.push (seqObj "list" (L0.map fun p => Value.ref p.1).toArray 0)).get? t1.heap.objs.size = some (seqObj "list" (L0.map fun p => Value.ref p.1).toArray 0) := Heap.get?_push_size _ rfl
  have aa : PySem.W.AllAlike (L0.map fun p => p.2.data) := fun d hd d' hd' => al d ((pL.map _).mem_iff.mp hd) d' ((pL.map _).mem_iff.mp hd')
  have ss : PySem.W.Sortable (L0.map fun p => p.2.data) := by
    rcases so with z | z
    · exact .inl fun d hd => z d ((pL.map _).mem_iff.mp hd)
    · exact .inr fun d hd => z d ((pL.map _).mem_iff.mp hd)
  refine wpAny_bind (wpAny_holding (PySem.W.list_sort_data (s := { t1 with heap := t1.heap.push (seqObj "list" (L0.map fun p => Value.ref p.1).toArray 0) }) (R := fun u (p : Addr × NestedKey) => u = Value.ref p.1) (enc := fun p : Addr × NestedKey => p.2.data) atL (each_map L0 fun _ _ => rfl)
    (each_map L0 fun p hp => ⟨[], PyProof.Rows.Reads.keeps (fun b u e => Heap.get?_push_of_some _ (old b u e)) (rd p (sub p hp)), by simp⟩) aa ss (by rw [pL.length_eq, sizeLine_eq]; omega) (fun p hp => by
      have := dp p (sub p hp)
      show B.units + 1 + 1 + _ < cLine
      omega) fun out lo eo => ?_))
  obtain ⟨cap, at_⟩ := sortedHeap_at (vs := L0.map fun p => Value.ref p.1) (out := out.toArray) atL
  rw [dataLe_leD] at eo
  refine wpAny_pure ⟨_, rfl, h _ t1.heap.objs.size out.toArray cap L0 (fun b u e => ?_) g1 os1 sz1 at_ pL (by simpa using each_refs eo)⟩
  have e2 := old b u e
  have lt := Heap.lt_size e2
  show (sortedHeap (t1.heap.push _) t1.heap.objs.size _ _).get? b = some u
  rw [sortedHeap_old (Nat.ne_of_lt lt) (by rw [size_push']; exact Nat.lt_succ_of_lt lt)]
  exact Heap.get?_push_of_some _ e2
end
end Yd

/-! YdJ: numbers of data among all unlike ones; sorted(set(xs)) as a rule. -/
namespace Yd
open PySem L2 PySem.Spec PyProof.Rows
/-! ### ranks -/
abbrev Tk := List (Int ⊕ List Nat)
instance sgDec : DecidableEq (Int ⊕ List Nat)
  | .inl a, .inl b => if h : a = b then isTrue (by rw [h]) else isFalse fun e => h (Sum.inl.inj e)
  | .inr a, .inr b => if h : a = b then isTrue (by rw [h]) else isFalse fun e => h (Sum.inr.inj e)
  | .inl _, .inr _ => isFalse nofun
  | .inr _, .inl _ => isFalse nofun
instance (priority := 20000) tkDec : DecidableEq (List (Int ⊕ List Nat)) := inferInstance
instance (priority := 20000) tkBEq : BEq (List (Int ⊕ List Nat)) := instBEqOfDecidableEq
instance (priority := 20000) tkLaw : @LawfulBEq (List (Int ⊕ List Nat)) tkBEq := inferInstanceAs (@LawfulBEq _ instBEqOfDecidableEq)
abbrev tLt (a b : Tk) : Bool := lexLt itemOrd a b
def dd : List Tk → List Tk
  | [] => []
  | x :: xs => if x ∈ xs then dd xs else x :: dd xs
theorem mem_dd (k : Tk) : ∀ xs : List Tk, k ∈ dd xs ↔ k ∈ xs
  | [] => Iff.rfl
  | x :: xs => by
    rw [dd]
    have ih := mem_dd k xs
    split
    · rename_i h
      rw [ih, List.mem_cons]
      exact ⟨.inr, fun z => z.elim (fun e => e ▸ h) id⟩
    · rw [List.mem_cons, List.mem_cons, ih]
theorem nd_dd : ∀ xs : List Tk, (dd xs).Nodup
  | [] => .nil
  | x :: xs => by
    rw [dd]
    split
    · exact nd_dd xs
    · rename_i h
      exact List.nodup_cons.mpr ⟨fun z => h ((mem_dd x xs).mp z), nd_dd xs⟩
theorem dd_len : ∀ xs : List Tk, (dd xs).length ≤ xs.length
  | [] => Nat.le_refl _
  | x :: xs => by
    have := dd_len xs
    rw [dd, List.length_cons]
    split
    · omega
    · rw [List.length_cons]; omega
/-- how many unlike ones are less -/
def rkT (xs : List Tk) (k : Tk) : Nat := (dd xs).countP fun u => tLt u k
theorem rk_set {xs us : List Tk} (nd : us.Nodup) (me : ∀ k, k ∈ us ↔ k ∈ xs) (k : Tk) : us.countP (fun u => tLt u k) = rkT xs k := by
  have : us.Perm (dd xs) := (List.perm_ext_iff_of_nodup nd (nd_dd xs)).mpr fun k => by rw [me, mem_dd]
  exact this.countP_eq _
theorem rkT_congr {xs ys : List Tk} (me : ∀ k, k ∈ xs ↔ k ∈ ys) (k : Tk) : rkT xs k = rkT ys k := rk_set (nd_dd xs) (fun k => by rw [mem_dd, me]) k
theorem idx_rk : ∀ {us : List Tk} {k : Tk}, us.Pairwise (fun a b => tLt b a = false) → k ∈ us → us.idxOf k = us.countP fun u => tLt u k
  | [], k, _, h => by cases h
  | a :: us, k, so, h => by
    obtain ⟨s1, s2⟩ := List.pairwise_cons.mp so
    by_cases e : a = k
    · subst e
      rw [List.idxOf_cons_self]
      symm
      refine List.countP_eq_zero.mpr fun u hu => ?_
      rcases List.mem_cons.mp hu with z | z
      · rw [z]; simp [tLt, lex_irrefl]
      · rw [s1 u z]; simp
    · have hk : k ∈ us := (List.mem_cons.mp h).resolve_left fun z => e z.symm
      have lt : tLt a k = true := by
        cases q : tLt a k with
        | true => rfl
        | false => exact absurd (lex_total (O := itemOrd) a k q (s1 k hk)) e
      rw [List.idxOf_cons, List.countP_cons_of_pos (p := fun u => tLt u k) lt, idx_rk s2 hk]
      have : (a == k) = false := by simpa using e
      rw [this]
      rfl
theorem rkT_lt {xs : List Tk} {k : Tk} (h : k ∈ xs) : rkT xs k < (dd xs).length := by
  have e1 : (dd xs).Perm (k :: (dd xs).erase k) := List.perm_cons_erase ((mem_dd k xs).mpr h)
  have a1 := e1.countP_eq fun u => tLt u k
  rw [List.countP_cons_of_neg (p := fun u => tLt u k) (by simp [tLt, lex_irrefl])] at a1
  have := List.countP_le_length (p := fun u => tLt u k) (l := (dd xs).erase k)
  have := e1.length_eq
  rw [List.length_cons] at this
  unfold rkT
  omega
theorem rkT_mono {xs : List Tk} {j k : Tk} (hj : j ∈ xs) (h : tLt j k = true) : rkT xs j < rkT xs k := by
  have nd := nd_dd xs
  have hj' := (mem_dd j xs).mpr hj
  have e1 : (dd xs).Perm (j :: (dd xs).erase j) := List.perm_cons_erase hj'
  have a1 := e1.countP_eq fun u => tLt u j
  have a2 := e1.countP_eq fun u => tLt u k
  rw [List.countP_cons_of_neg (p := fun u => tLt u j) (by simp [tLt, lex_irrefl])] at a1
  rw [List.countP_cons_of_pos (p := fun u => tLt u k) h] at a2
  have le : ((dd xs).erase j).countP (fun u => tLt u j) ≤ ((dd xs).erase j).countP (fun u => tLt u k) := List.countP_mono_left fun u _ z => lex_trans (O := itemOrd) u j k z h
  unfold rkT
  omega
/-- numbers of data among all -/
def rkD (xs : List PyData) (d : PyData) : Nat := rkT (xs.map PySem.W.keyToks) (PySem.W.keyToks d)
def rks (xs : List PyData) : List Nat := xs.map (rkD xs)
/-- all unlike ones, rising -/
structure EvD (us xs : List PyData) : Prop where
  nd : (us.map PySem.W.keyToks).Nodup
  sub : ∀ u ∈ us, u ∈ xs
  all : ∀ x ∈ xs, PySem.W.keyToks x ∈ us.map PySem.W.keyToks
  so : us.Pairwise fun a b => leD a b = true
theorem toks_iff {x y : PyData} (h : PySem.W.alike x y = true) : PyData.eqv x y = decide (PySem.W.keyToks x = PySem.W.keyToks y) := by
  obtain ⟨h1, h2⟩ := PySem.W.toks_eqv x y h
  cases e : PyData.eqv x y with
  | true => rw [decide_eq_true (h1 e)]
  | false =>
    symm
    refine decide_eq_false fun z => ?_
    have q1 := h2 e [] [.inl 0]
    rw [z, PySem.W.lex_pre, lex_irrefl] at q1
    exact absurd q1 (by decide)
theorem leD_iff (a b : PyData) : leD a b = true ↔ tLt (PySem.W.keyToks b) (PySem.W.keyToks a) = false := by
  show (!tLt (PySem.W.keyToks b) (PySem.W.keyToks a)) = true ↔ _
  simp
theorem EvD.mem {us xs : List PyData} (h : EvD us xs) (k : Tk) : k ∈ us.map PySem.W.keyToks ↔ k ∈ xs.map PySem.W.keyToks := by
  constructor
  · intro z
    obtain ⟨u, hu, rfl⟩ := List.mem_map.mp z
    exact List.mem_map.mpr ⟨u, h.sub u hu, rfl⟩
  · intro z
    obtain ⟨x, hx, rfl⟩ := List.mem_map.mp z
    exact h.all x hx
theorem EvD.idx {us xs : List PyData} (h : EvD us xs) (al : PySem.W.AllAlike xs) {x : PyData} (hx : x ∈ xs) :
    ∃ z, us[rkD xs x]? = some z ∧ PyData.eqv z x = true ∧ ∀ (m : Nat) (z' : PyData), m < rkD xs x → us[m]? = some z' → PyData.eqv z' x = false := by
  have so : (us.map PySem.W.keyToks).Pairwise fun a b => tLt b a = false := List.pairwise_map.mpr (h.so.imp fun {a b} z => (leD_iff a b).mp z)
  have hk := h.all x hx
  have e : rkD xs x = (us.map PySem.W.keyToks).idxOf (PySem.W.keyToks x) := by
    rw [idx_rk so hk, rk_set h.nd h.mem]
    rfl
  have lt := List.idxOf_lt_length_of_mem hk
  rw [e]
  generalize ej : (us.map PySem.W.keyToks).idxOf (PySem.W.keyToks x) = j at lt
  have ljs : j < us.length := by rwa [List.length_map] at lt
  have ez : PySem.W.keyToks us[j] = PySem.W.keyToks x := by
    have := List.getElem_idxOf (xs := us.map PySem.W.keyToks) (x := PySem.W.keyToks x) (by rw [ej]; exact lt)
    simp only [ej, List.getElem_map] at this
    exact this
  refine ⟨us[j], List.getElem?_eq_getElem ljs, ?_, fun m z' hm hz => ?_⟩
  · rw [toks_iff (al _ (h.sub _ (List.getElem_mem ljs)) _ hx), ez]
    simp
  · obtain ⟨lm, rfl⟩ := List.getElem?_eq_some_iff.mp hz
    rw [toks_iff (al _ (h.sub _ (List.getElem_mem lm)) _ hx)]
    refine decide_eq_false fun z => ?_
    rw [← ej] at hm
    have := List.not_of_lt_findIdx (p := fun k => k == PySem.W.keyToks x) (xs := us.map PySem.W.keyToks) (i := m) hm
    simp [z] at this
theorem EvD.nil : EvD [] [] := ⟨List.Pairwise.nil, (fun _ h => by cases h), (fun _ h => by cases h), List.Pairwise.nil⟩
/-- one more, not less than all ahead -/
theorem EvD.more {us ss : List PyData} (h : EvD us ss) {d : PyData} (le : ∀ s ∈ ss, leD s d = true) : (PySem.W.keyToks d ∈ us.map PySem.W.keyToks → EvD us (ss ++ [d])) ∧ (PySem.W.keyToks d ∉ us.map PySem.W.keyToks → EvD (us ++ [d]) (ss ++ [d])) := by
  refine ⟨fun hm => ⟨h.nd, fun u hu => List.mem_append_left _ (h.sub u hu), fun x hx => ?_, h.so⟩, fun hm => ⟨?_, fun u hu => ?_, fun x hx => ?_, ?_⟩⟩
  · rcases List.mem_append.mp hx with z | z
    · exact h.all x z
    · rw [List.mem_singleton.mp z]; exact hm
  · rw [List.map_append, List.nodup_append]
    refine ⟨h.nd, by simp, fun a ha b hb e => ?_⟩
    rw [List.map_singleton, List.mem_singleton] at hb
    rw [← hb, ← e] at hm
    exact hm ha
  · rcases List.mem_append.mp hu with z | z
    · exact List.mem_append_left _ (h.sub u z)
    · exact List.mem_append_right _ z
  · rw [List.map_append]
    rcases List.mem_append.mp hx with z | z
    · exact List.mem_append_left _ (h.all x z)
    · rw [List.mem_singleton.mp z]; simp
  · rw [List.pairwise_append]
    refine ⟨h.so, by simp, fun a ha b hb => ?_⟩
    rw [List.mem_singleton.mp hb]
    exact le a (h.sub a ha)
theorem leD_trans (a b c : PyData) (h1 : leD a b = true) (h2 : leD b c = true) : leD a c = true := by
  rw [leD_iff] at h1 h2 ⊢
  cases e : tLt (PySem.W.keyToks c) (PySem.W.keyToks a) with
  | false => rfl
  | true =>
    rcases lex_negTrans (O := itemOrd) _ (PySem.W.keyToks b) _ e with z | z
    · exact absurd z (by rw [show lexLt itemOrd _ _ = false from h2]; decide)
    · exact absurd z (by rw [show lexLt itemOrd _ _ = false from h1]; decide)
theorem leD_total (a b : PyData) : (leD a b || leD b a) = true := by
  cases e : leD a b with
  | true => rfl
  | false =>
    cases e2 : leD b a with
    | true => rfl
    | false =>
      have h1 : tLt (PySem.W.keyToks b) (PySem.W.keyToks a) = true := by simpa [leD, PySem.W.dataLt] using e
      have h2 : tLt (PySem.W.keyToks a) (PySem.W.keyToks b) = true := by simpa [leD, PySem.W.dataLt] using e2
      have := lex_trans _ _ _ h1 h2
      rw [lex_irrefl] at this
      cases this
theorem sorted_leD (xs : List PyData) : (xs.mergeSort leD).Pairwise fun a b => leD a b = true := List.pairwise_mergeSort leD_trans leD_total xs
/-! ### sorted(set(xs)) of nested tuples -/
structure TupK (k : NestedKey) : Prop where
  tu : ∃ l, k = .tup l
  nm : numK k = true
  dp : k.depth ≤ 8
  dd : k.data.depth ≤ 60
section
variable {X : Cx} {pins : List (Addr × Obj)} {σ : L2.St} {H : Hp} {s : Shared}
theorem rowN_of (I : Inv X pins σ H s) {v : V} {k : NestedKey} {u : Value} (h : Dp X.K H v k.data) (r : RelV v u) (t : TupK k) : ∃ a, u = .ref a ∧ v = .ref a ∧ IsN s.heap k a ∧ Reads s.heap (.ref a) k.data [] := by
  obtain ⟨as, rd⟩ := Dp.reads I _ _ _ h r
  have e0 := reads_flat k t.nm rd
  subst e0
  have nis := nested_of k t.nm rd
  obtain ⟨l, rfl⟩ := t.tu
  rw [NestedKey.data] at h
  cases h with
  | tup h1 h2 =>
    rename_i a xs
    have e : u = .ref a := r
    subst e
    exact ⟨a, rfl, rfl, ⟨nis, t.dp, t.nm⟩, rd⟩
theorem rowsN_of (I : Inv X pins σ H s) : ∀ {vs : List V} {ks : List NestedKey} {us : List Value}, DpAll X.K H vs (NestedKey.datas ks) → Vals vs us → (∀ k ∈ ks, TupK k) →
    ∃ L : List (Addr × NestedKey), us = L.map (fun p => Value.ref p.1) ∧ vs = L.map (fun p => V.ref p.1) ∧ L.map (·.2) = ks ∧ ∀ p ∈ L, IsN s.heap p.2 p.1 ∧ Reads s.heap (.ref p.1) p.2.data []
  | _, [], _, h, r, _ => by
    rw [NestedKey.datas] at h
    cases h
    cases r
    exact ⟨[], rfl, rfl, rfl, fun p hp => by cases hp⟩
  | _, k :: ks, _, h, r, t => by
    rw [NestedKey.datas] at h
    cases h with
    | cons h1 h2 => cases r with
      | cons r1 r2 =>
        obtain ⟨a, rfl, rfl, i1, i2⟩ := rowN_of I h1 r1 (t k List.mem_cons_self)
        obtain ⟨L, rfl, rfl, e3, hL⟩ := rowsN_of I h2 r2 fun k hk => t k (List.mem_cons_of_mem _ hk)
        refine ⟨(a, k) :: L, rfl, rfl, by rw [List.map_cons, e3], fun p hp => ?_⟩
        rcases List.mem_cons.mp hp with e | z
        · rw [e]; exact ⟨i1, i2⟩
        · exact hL p z
theorem datas_map : ∀ ks : List NestedKey, NestedKey.datas ks = ks.map NestedKey.data
  | [] => by rw [NestedKey.datas]; rfl
  | k :: ks => by rw [NestedKey.datas, datas_map ks]; rfl
mutual
theorem plain_num : ∀ k : NestedKey, numK k = true → plainD k.data = true
  | .none, h => by cases h
  | .text _, h => by cases h
  | .num _, _ => by rw [NestedKey.data, plainD]
  | .tup ks, h => by
    rw [numK] at h
    rw [NestedKey.data, plainD]
    exact plain_nums ks h
theorem plain_nums : ∀ ks : List NestedKey, numKs ks = true → plainAll (NestedKey.datas ks) = true
  | [], _ => by rw [NestedKey.datas, plainAll]
  | k :: ks, h => by
    rw [numKs, Bool.and_eq_true] at h
    rw [NestedKey.datas, plainAll, plain_num k h.1, plain_nums ks h.2]
    rfl
end
/-- unlike keys have unlike signs -/
theorem toks_num {a b : NestedKey} (ha : numK a = true) (hb : numK b = true) (al : PySem.W.alike a.data b.data = true) (e : PySem.W.keyToks a.data = PySem.W.keyToks b.data) : a = b := by
  have h := toks_iff al
  rw [decide_eq_true e] at h
  exact data_inj _ _ ((eqv_iff _ _ (plain_num a ha) (plain_num b hb)).mp h)
def tSortSetN (K : PySem.W.Frag) (ta : TE) : TE := fun σ H Q => ta σ H fun x H1 => ∃ (l : Addr) (vs : List V) (ks : List NestedKey), x = V.ref l ∧ SqL K H1 l vs ∧ DpAll K H1 vs (NestedKey.datas ks) ∧ (∀ k ∈ ks, TupK k) ∧ ks.length < 64 ∧ PySem.W.AllAlike (ks.map NestedKey.data) ∧ PySem.W.Sortable (ks.map NestedKey.data) ∧
  ∀ p (bs : List (V × PyData)), (∀ b ∈ bs, b ∈ vs.zip (ks.map NestedKey.data)) → EvD (bs.map (·.2)) (ks.map NestedKey.data) → H1 p = none → Q (.ref p) (upd H1 p (.lst (bs.map (·.1))))
theorem zip_rows : ∀ {L : List (Addr × NestedKey)} {p : Addr × NestedKey}, p ∈ L → (V.ref p.1, p.2.data) ∈ (L.map fun p => V.ref p.1).zip ((L.map (·.2)).map NestedKey.data)
  | q :: L, p, h => by
    rw [List.map_cons, List.map_cons, List.map_cons, List.zip_cons_cons]
    rcases List.mem_cons.mp h with e | z
    · rw [e]; exact List.mem_cons_self
    · exact List.mem_cons_of_mem _ (zip_rows z)
theorem sorted_inv {Q : VK} {a : Addr} {L : List (Addr × NestedKey)} {es : Array (Int × Value)} {ep : Nat} {tb : SetTable} (I : Inv X pins σ H s) (R : SetN X.w s.heap a L es ep tb) (hc : X.calm = true) (hu : X.A.units + 64 < cLine) (rd : ∀ p ∈ L, Reads s.heap (.ref p.1) p.2.data []) (al : PySem.W.AllAlike (L.map fun p => p.2.data)) (so : PySem.W.Sortable (L.map fun p => p.2.data)) (dp : ∀ p ∈ L, p.2.data.depth ≤ 60)
    (q : ∀ p (L0 : List (Addr × NestedKey)), L0.Perm L → H p = none → Q (.ref p) (upd H p (.lst (((L0.mergeSort leN).map fun p => (V.ref p.1, p.2.data)).map (·.1))))) : wpAny (model X.prog X.w) X.A (call (.builtin "sorted") [.ref a]) (EP X pins σ Q) X.xe s := by
  refine sorted_n R (I.ok.hd hc) hu rd al so dp fun t' p out cap L0 old2 g2 os2 sz at_ pm eo => ?_
  have hn : H p = none := I.hok.fresh sz
  have lz : (L0.mergeSort leN).length ≤ sizeLine := by have := R.fw_; rw [((List.mergeSort_perm _ _).trans pm).length_eq, sizeLine_eq]; omega
  have vr : ∀ M : List (Addr × NestedKey), Vals ((M.map fun p => (V.ref p.1, p.2.data)).map (·.1)) (M.map fun p => Value.ref p.1) := fun M => by
    induction M with
    | nil => exact .nil
    | cons q M ih => exact .cons rfl ih
  have J : Inv X pins σ (upd H p (.lst (((L0.mergeSort leN).map fun p => (V.ref p.1, p.2.data)).map (·.1)))) { s with heap := t'.heap, gens := t'.gens, drawn := t'.drawn, toks := t'.toks } :=
    I.call (ch := []) (Un.laid old2 sz hn) (I.hok.laid old2 sz ⟨by rw [List.length_map, List.length_map]; exact lz, out.toList, cap, by rw [eo]; exact vr _, at_⟩) (by rw [g2]; exact I.bare) (fun _ z => nomatch z)
  have e : t' = { s with heap := t'.heap, gens := t'.gens, drawn := t'.drawn, toks := t'.toks } := by
    cases t'
    cases s
    cases os2
    rfl
  rw [e]
  exact ⟨.ref p, _, J, rfl, q p L0 pm hn⟩
theorem pe_sortSetN {a : Expr} {ta : TE} {p p2 q pos : Pos} (hc : X.calm = true) (hu : X.A.units + 64 < cLine) (hg : Gl X "sorted") (hm : X.mg "sorted" = none) (hg2 : Gl X "set") (hm2 : X.mg "set" = none) (ha : PE X a ta)
    (na : starEach [a] X.env = (false, eval a X.env) :: starEach [] X.env := by rfl) : PE X (.Call (.Name "sorted" p) [.Call (.Name "set" p2) [a] [] q] [] pos) (tSortSetN X.K ta) := by
  refine ⟨fun pins s σ H Q I h => ?_⟩
  refine Call_ (ld_blt I hg hm boot_sorted' ?_)
  refine PyProof.Rows.callWith_builtin1 (PyProof.Rows.args_cons ?_ rfl) rfl rfl
  refine Call_ (ld_blt I hg2 hm2 boot_set' ?_)
  refine PyProof.Rows.callWith_type1 (PyProof.Rows.args_cons (thn (ha.run pins s σ H _ I h) fun v s1 ⟨x, H1, I1, r1, q1⟩ => PyProof.Rows.args_nil ?_) na) na rfl
  obtain ⟨l, vs, ks, rfl, hq, hd, tk, few, al, so, q1⟩ := q1
  cases r1
  obtain ⟨its, r, pl, hz⟩ := I1.list hq
  obtain ⟨L, eL, ev, ek, hL⟩ := rowsN_of I1 hd r tk
  have lk : L.length = ks.length := by rw [← ek, List.length_map]
  refine call_n L (I1.ok.hd hc) pl.isList (by simpa using eL) (fun p hp => (hL p hp).1) (by omega) (by omega) fun h' tk' L1 es ep tb R g old => ?_
  refine PyProof.Rows.args_nil ?_
  have I2 : Inv X pins σ H1 { s1 with heap := h', toks := tk' } := I1.kept old
  have gs : ∀ p ∈ L1, p ∈ L := fun p hp => by have := g.sub p hp; rwa [List.take_length] at this
  have ga : ∀ p ∈ L, p.2 ∈ L1.map (·.2) := fun p hp => g.all p (by rw [List.take_length]; exact hp)
  have dk : ∀ p ∈ L1, p.2 ∈ ks := fun p hp => by rw [← ek]; exact List.mem_map.mpr ⟨p, gs p hp, rfl⟩
  have dm : ∀ d ∈ L1.map (fun p => p.2.data), d ∈ ks.map NestedKey.data := fun d hd => by
    obtain ⟨p, hp, rfl⟩ := List.mem_map.mp hd
    exact List.mem_map.mpr ⟨_, dk p hp, rfl⟩
  refine sorted_inv I2 R hc hu (fun p hp => Reads.keeps (fun b o e => old b o e) (hL p (gs p hp)).2) (fun d hd d' hd' => al d (dm d hd) d' (dm d' hd')) (so.elim (fun z => .inl fun d hd => z d (dm d hd)) fun z => .inr fun d hd => z d (dm d hd)) (fun p hp => (tk _ (dk p hp)).dd) fun p L0 pm hn => ?_
  have pm2 : (L0.mergeSort leN).Perm L1 := (List.mergeSort_perm _ _).trans pm
  refine q1 p ((L0.mergeSort leN).map fun p => (V.ref p.1, p.2.data)) (fun b hb => ?_) ⟨?_, fun u hu => ?_, fun x hx => ?_, ?_⟩ hn
  · obtain ⟨r, hr, rfl⟩ := List.mem_map.mp hb
    rw [ev, ← ek]
    exact zip_rows (gs r (pm2.mem_iff.mp hr))
  · have nd2 : ((L0.mergeSort leN).map (·.2)).Nodup := (pm2.map _).nodup_iff.mpr R.nd_
    rw [List.map_map, List.map_map]
    have nd3 : (L0.mergeSort leN).Pairwise fun a b => a.2 ≠ b.2 := List.pairwise_map.mp nd2
    refine List.pairwise_map.mpr (nd3.imp_of_mem fun {x y} hx hy ne e => ne ?_)
    have kx := dk x (pm2.mem_iff.mp hx)
    have ky := dk y (pm2.mem_iff.mp hy)
    exact toks_num (tk _ kx).nm (tk _ ky).nm (al _ (List.mem_map.mpr ⟨_, kx, rfl⟩) _ (List.mem_map.mpr ⟨_, ky, rfl⟩)) e
  · rw [List.map_map] at hu
    obtain ⟨r, hr, rfl⟩ := List.mem_map.mp hu
    exact List.mem_map.mpr ⟨_, dk r (pm2.mem_iff.mp hr), rfl⟩
  · obtain ⟨k, hk, rfl⟩ := List.mem_map.mp hx
    rw [← ek] at hk
    obtain ⟨r, hr, rfl⟩ := List.mem_map.mp hk
    obtain ⟨r2, hr2, e2⟩ := List.mem_map.mp (ga r hr)
    rw [List.map_map, List.map_map]
    exact List.mem_map.mpr ⟨r2, pm2.mem_iff.mpr hr2, by show PySem.W.keyToks r2.2.data = _; rw [e2]⟩
  · rw [List.map_map]
    refine List.pairwise_map.mpr ?_
    exact List.pairwise_mergeSort (le := leN) (fun a b c => leD_trans _ _ _) (fun a b => leD_total _ _) L0
end
/-! ### over abstract values -/
def sortSetNK (xs : List PyData) (Q : A → Prop) : Prop := ∃ ks : List NestedKey, xs = ks.map NestedKey.data ∧ (∀ k ∈ ks, TupK k) ∧ ks.length < 64 ∧ PySem.W.AllAlike xs ∧ PySem.W.Sortable xs ∧ ∀ us, EvD us xs → Q (.own us)
def sortSetN (a : A) (Q : A → Prop) : Prop := match asL a with
  | some xs => sortSetNK xs Q
  | none => False
def wSortSetN (wa : WE) : WE := fun ρ Q => wa ρ fun a => sortSetN a Q
theorem sd_sortSetN {Γ : Gm} {K : PySem.W.Frag} {ta : TE} {wa : WE} (h : SndE Γ ta wa) : SndE Γ (tSortSetN K ta) (wSortSetN wa) := fun ρ Q F σ H K0 m q k =>
  h ρ _ F σ H _ m q fun F1 H1 v r s ra p => by
    unfold sortSetN at p
    split at p
    · rename_i xs e
      obtain ⟨ks, rfl, tk, few, al, so, p⟩ := p
      have m1 := m.step s
      obtain ⟨a, vs, rfl, h1, l1⟩ := ra.list m1 e
      refine ⟨a, vs, ks, rfl, SqL.of h1, by rw [datas_map]; exact RpL.dp m1.fh _ _ l1, tk, few, al, so, fun t bs sub ev ht => ?_⟩
      have s2 := Stp.new0 (o := .lst (bs.map (·.1))) m1.fh m1.gi m1.st.box ht
      have rl := rpl_of_zip fun b hb => rpl_zip l1 b (sub b hb)
      exact k _ _ _ (.own _) (s.trans m.gi s2) ⟨t, _, rfl, s.none_back ht, m1.fh.free ht, upd_same, rl⟩ (p _ ev)
    · exact p.elim
/-- either way -/
def tEi (t1 t2 : TE) : TE := fun σ H Q => t1 σ H Q ∨ t2 σ H Q
def wEi (w1 w2 : WE) : WE := fun ρ Q => w1 ρ Q ∨ w2 ρ Q
theorem pd_ei {X : Cx} {Γ : Gm} {e : Expr} {t1 t2 : TE} {w1 w2 : WE} (h1 : PD X Γ e t1 w1) (h2 : PD X Γ e t2 w2) : PD X Γ e (tEi t1 t2) (wEi w1 w2) :=
  ⟨⟨fun pins s σ H Q I h => h.elim (h1.pe.run pins s σ H Q I) (h2.pe.run pins s σ H Q I)⟩, fun ρ Q F σ H K m h k => h.elim (fun z => .inl (h1.sd ρ Q F σ H K m z k)) fun z => .inr (h2.sd ρ Q F σ H K m z k)⟩
theorem pd_sortSetN {X : Cx} {Γ : Gm} {K : PySem.W.Frag} {w : World} {k : Nat} {e : Expr} {ta : TE} {wa : WE} {p p2 pos2 pos : Pos} (hr : Room k X.A) (hc : X.calm = true) (hm : X.mg "sorted" = none) (hm2 : X.mg "set" = none) (ha : PD X Γ e ta wa) (hg : Gl X "sorted" := by rfl) (hg2 : Gl X "set" := by rfl)
    (he : starEach [e] X.env = (false, eval e X.env) :: starEach [] X.env := by rfl) (he2 : starEach [.Call (.Name "set" p2) [e] [] pos2] X.env = (false, eval (.Call (.Name "set" p2) [e] [] pos2) X.env) :: starEach [] X.env := by rfl)
    (hpl : (backTo pos2 (starEach [] X.env)).any (·.1) = false := by rfl) (hpl2 : (backTo pos (starEach [] X.env)).any (·.1) = false := by rfl) (hK : X.K = K := by rfl) (hw : X.w = w := by rfl) :
    PD X Γ (.Call (.Name "sorted" p) [.Call (.Name "set" p2) [e] [] pos2] [] pos) (tEi (tCB (rSortedSet w) (tCons (tCB (rSetFew K w) (tCons ta tNil)) tNil)) (tSortSetN K ta)) (wEi (wCB sortSetA (wCons wa wNil)) (wSortSetN wa)) := by
  subst hK
  exact pd_ei (pd_sortSet hc hm hm2 (pda_cons ha pda_nil he) hg hg2 he he2 hpl hpl2 rfl hw) ⟨pe_sortSetN hc (room64 hr) hg hm hg2 hm2 ha.pe he, sd_sortSetN ha.sd⟩
end Yd

/-! YdK: dicts by ints; lists within lists that are cleared one by one. -/
namespace Yd
open PySem L2
/-! ### dicts by ints -/
section
variable {X : Cx} {Γ : Gm} {pos : Pos}
def wDnew : WE := fun _ Q => Q (.dct [] [])
theorem sd_dnew : SndE Γ tDNewK wDnew := fun ρ Q F σ H K m q k p hp =>
  k F (upd H p (.dK [])) (.ref p) (.dct [] []) (Stp.new0 m.fh m.gi m.st.box hp) ⟨p, [], rfl, hp, m.fh.free hp, upd_same, rfl, .nil⟩ q
theorem pd_dnew : PD X Γ (.Dict [] [] pos) tDNewK wDnew := ⟨pe_dnewK, sd_dnew⟩
end
theorem M.dct {Γ : Gm} {F : Hp} {ρ : List A} {σ : St} {H : Hp} (m : M Γ F ρ σ H) {i : Nat} {ks : List Int} {ds : List PyData} (e : ρ[i]? = some (.dct ks ds)) : ∃ p kvs, σ[i]? = some (some (.ref p)) ∧ H p = some (.dK kvs) ∧ kvs.map (·.1) = ks.map Sum.inl ∧ RpL F (kvs.map (·.2)) ds ∧ F p = none ∧ Γ.H p = none ∧ ¬ isBox Γ.G p := by
  obtain ⟨o, e2, q⟩ := m.slot e
  obtain ⟨p, kvs, rfl, q⟩ := q
  exact ⟨p, kvs, e2, q⟩
theorem dct_val {kvs : List (Key × V)} {ks : List Int} (h : kvs.map (·.1) = ks.map Sum.inl) (k : Int) : (valV kvs (Sum.inl k)).isSome = decide (k ∈ ks) := by
  rw [← valV_any]
  induction kvs generalizing ks with
  | nil => cases ks with
    | nil => rfl
    | cons a b => cases h
  | cons x xs ih => cases ks with
    | nil => cases h
    | cons a b =>
      rw [List.map_cons, List.map_cons] at h
      obtain ⟨h1, h2⟩ := List.cons.inj h
      rw [List.any_cons, ih h2, h1]
      by_cases z : a = k
      · subst z; simp
      · have : ¬ (Sum.inl a : Key) = Sum.inl k := fun q => z (by cases q; rfl)
        have z2 : ¬ k = a := fun q => z q.symm
        simp [z, z2]
theorem dct_get {F : Hp} {kvs : List (Key × V)} {ks : List Int} {ds : List PyData} (h : kvs.map (·.1) = ks.map Sum.inl) (l : RpL F (kvs.map (·.2)) ds) (nd : ks.Nodup) {j : Nat} {k : Int} {d : PyData} (e1 : ks[j]? = some k) (e2 : ds[j]? = some d) : ∃ v, valV kvs (Sum.inl k) = some v ∧ Rp F v d := by
  induction kvs generalizing ks ds j with
  | nil => cases ks with
    | nil => simp at e1
    | cons a b => cases h
  | cons x xs ih => cases ks with
    | nil => cases h
    | cons a b =>
      rw [List.map_cons, List.map_cons] at h
      obtain ⟨h1, h2⟩ := List.cons.inj h
      rw [List.map_cons] at l
      cases l with
      | cons l1 l2 =>
      cases j with
      | zero =>
        simp at e1 e2
        subst e1 e2
        exact ⟨_, valV_pos h1, l1⟩
      | succ j =>
        simp at e1 e2
        have ne : a ≠ k := fun z => (List.nodup_cons.mp nd).1 (by rw [z]; exact List.mem_of_getElem? e1)
        obtain ⟨v, q1, q2⟩ := ih h2 l2 (List.nodup_cons.mp nd).2 e1 e2
        exact ⟨v, by rw [valV_neg (by rw [h1]; intro z; cases z; exact ne rfl)]; exact q1, q2⟩
def wDnin (i : Nat) (we : WE) : WT := fun ρ Q => we ρ fun y => match ρ[i]?, y with
  | some (.dct ks _), .d (.int k) => Q (!decide (k ∈ ks))
  | _, _ => False
def wDget (i : Nat) (we : WE) : WE := fun ρ Q => match ρ[i]? with
  | some (.dct ks ds) => we ρ fun y => match y with
    | .d (.int k) => ks.Nodup ∧ ∃ (j : Nat) (d : PyData), ks[j]? = some k ∧ ds[j]? = some d ∧ Q (.d d)
    | _ => False
  | _ => False
def wDsort (i : Nat) : WE := fun ρ Q => match ρ[i]? with
  | some (.dct ks _) => ks.length < 64 ∧ ∀ ms : List Int, ms.Perm ks → ms.Pairwise (· ≤ ·) → Q (.own (ms.map PyData.int))
  | _ => False
def wDput (i : Nat) (wk wv : WE) : WS := fun ρ P => match ρ[i]? with
  | some (.dct ks ds) => wv ρ fun x => wk ρ fun y => match y, x with
    | .d (.int k), .d d => ks.length < sizeLine ∧ k ∉ ks ∧ P.nx ((unfr ρ).set i (.dct (ks ++ [k]) (ds ++ [d])))
    | _, _ => False
  | _ => False
section
variable {Γ : Gm} {te tk tv : TE} {we wk wv : WE}
theorem sd_dnin (i : Nat) (h : SndE Γ te we) : SndT Γ (tB (tDNotIn te (tVar i))) (wDnin i we) := fun ρ Q F σ H K m q k =>
  h ρ _ F σ H _ m q fun F1 H1 v r s rr p => by
    split at p
    · rename_i ks ds kk e1
      obtain ⟨a, kvs, ev, e2, hk, hl, _⟩ := (m.step s).dct e1
      cases (show Rp F1 v (.int kk) from rr)
      refine ⟨_, ev, a, _, rfl, DGet.k (k := Sum.inl kk) e2, _, rfl, ?_⟩
      rw [dct_val hk]
      exact k F1 H1 _ s p
    · exact p.elim
theorem sd_dget (i : Nat) (h : SndE Γ te we) : SndE Γ (tDGet (tVar i) te) (wDget i we) := fun ρ Q F σ H K m q k => by
  unfold wDget at q
  split at q
  · rename_i ks ds e1
    obtain ⟨a, kvs, ev, _⟩ := m.dct e1
    refine ⟨_, ev, h ρ _ F σ H _ m q fun F1 H1 v r s rr p => ?_⟩
    split at p
    · rename_i kk
      obtain ⟨nd, j, d, g1, g2, p⟩ := p
      obtain ⟨a2, kvs2, ev2, e2, hk, hl, _⟩ := (m.step s).dct e1
      rw [ev] at ev2
      cases ev2
      cases (show Rp F1 v (.int kk) from rr)
      obtain ⟨u, g3, g4⟩ := dct_get hk hl nd g1 g2
      refine ⟨a, u, rfl, ?_, k F1 H1 u (.d d) s g4 p⟩
      rw [← g3]
      exact DGet.k (k := Sum.inl kk) e2
    · exact p.elim
  · exact q.elim
theorem sd_dsort (i : Nat) : SndE Γ (tCB (fun xs H Q => ∃ (a : Addr) (kvs : List (Key × V)) (ks : List Int), xs = [.ref a] ∧ Rd H a (.dK kvs) ∧ kvs.map (·.1) = ks.map Sum.inl ∧ ks.length < 64 ∧
    ∀ (ys : List Int) (p : Addr), ys.Perm ks → ys.Pairwise (· ≤ ·) → H p = none → Q (.ref p) (upd H p (.lst (ys.map V.int)))) (tCons (tVar i) tNil)) (wDsort i) := fun ρ Q F σ H K m q k => by
  unfold wDsort at q
  split at q
  · rename_i ks ds e1
    obtain ⟨l64, q⟩ := q
    obtain ⟨a, kvs, ev, e2, hk, hl, _⟩ := m.dct e1
    refine ⟨_, ev, a, kvs, ks, rfl, .of e2, hk, l64, fun ys p hp hs h0 => ?_⟩
    exact k F _ _ (.own _) (Stp.new0 m.fh m.gi m.st.box h0) ⟨p, _, rfl, h0, m.fh.free h0, upd_same, RpL.ints ys⟩ (q ys hp hs)
  · exact q.elim
/-- an entry more -/
theorem M.dput {F : Hp} {ρ : List A} {σ : St} {H : Hp} (m : M Γ F ρ σ H) {i : Nat} {ks : List Int} {ds : List PyData} (e : ρ[i]? = some (.dct ks ds)) {p : Addr} {kvs : List (Key × V)} (ev : σ[i]? = some (some (.ref p))) {ks2 : List Int} {ds2 : List PyData} (hk : kvs.map (·.1) = ks2.map Sum.inl) (hl : RpL F (kvs.map (·.2)) ds2) :
    M Γ F ((Yd.unfr ρ).set i (.dct ks2 ds2)) σ (upd H p (.dK kvs)) := by
  obtain ⟨p', kvs0, ev0, h1, _, _, h3, h4, h5⟩ := m.dct e
  rw [ev] at ev0
  cases ev0
  have m1 := m.unfr
  have own : ∀ {j : Nat} {q : Addr}, ownAt ((Yd.unfr ρ).set i (.dct ks2 ds2)) σ j q → ownAt (Yd.unfr ρ) σ j q := fun {j q} ⟨⟨xs, q1⟩, q2⟩ => by
    by_cases hj : i = j
    · subst hj
      obtain ⟨z1, e1⟩ := List.getElem?_eq_some_iff.mp q1
      rw [List.getElem_set_self] at e1
      cases e1
    · rw [List.getElem?_set_ne hj] at q1
      exact ⟨⟨xs, q1⟩, q2⟩
  refine ⟨⟨m.st.ff, fun b u q => ?_, m.gi.upd h5, fun b u q nb => ?_, m.st.new, m.st.box⟩, m.gi0, by simp [m1.len], fun j a o g1 g2 => ?_, fun j k q g1 g2 => m1.dj j k q (own g1) (own g2), fun j x g1 => ?_⟩
  · rw [upd_ne (ne_of_none q h3)]; exact m.fh b u q
  · rw [upd_ne (ne_of_none q h4)]; exact m.st.keep b u q nb
  · by_cases hj : i = j
    · subst hj
      obtain ⟨z1, e1⟩ := List.getElem?_eq_some_iff.mp g1
      rw [List.getElem_set_self] at e1
      subst e1
      rw [ev] at g2
      cases g2
      exact ⟨p, kvs, rfl, upd_same, hk, hl, h3, h4, h5⟩
    · rw [List.getElem?_set_ne hj] at g1
      have q := m1.sl j a o g1 g2
      cases a with
      | own zs =>
        obtain ⟨p2, us, rfl, q1, q2, q3⟩ := q
        have n : p2 ≠ p := fun z => by
          subst z
          rw [h1] at q1
          cases q1
        exact ⟨p2, us, rfl, by rw [upd_ne n]; exact q1, q2, q3⟩
      | dct ks ds =>
        obtain ⟨b, _, e2⟩ := unfr_get g1
        cases b <;> cases e2
      | _ => exact q
  · by_cases hj : i = j
    · subst hj
      obtain ⟨z1, e1⟩ := List.getElem?_eq_some_iff.mp g1
      rw [List.getElem_set_self] at e1
      cases e1
    · rw [List.getElem?_set_ne hj] at g1
      obtain ⟨b, e, e2⟩ := unfr_get g1
      cases b <;> cases e2
theorem ss_dput (i : Nat) (hk : SndE Γ tk wk) (hv : SndE Γ tv wv) : SndS Γ (sDPut (tVar i) tk tv) (wDput i wk wv) := fun ρ P F σ H D m q kk => by
  unfold wDput at q
  split at q
  · rename_i ks ds e1
    refine hv ρ _ F σ H _ m q fun F1 H1 v r s rr p => ?_
    have m1 := m.step s
    obtain ⟨a, kvs, ev, _⟩ := m1.dct e1
    refine ⟨_, ev, hk ρ _ F1 σ H1 _ m1 p fun F2 H2 y ry s2 rry p2 => ?_⟩
    split at p2
    · rename_i kk2 d
      obtain ⟨l1, nm, p2⟩ := p2
      have m2 := m1.step s2
      obtain ⟨a2, kvs2, ev2, e2, hks, hl, _⟩ := m2.dct e1
      rw [ev] at ev2
      cases ev2
      cases (show Rp F2 y (.int kk2) from rry)
      have r2 : Rp F2 v d := Rp.up (show Rp F1 v d from rr) s2.ff
      have ln : kvs2.length = ks.length := by
        have := congrArg List.length hks
        simpa using this
      have hn : valV kvs2 (Sum.inl kk2) = none := by
        have := dct_val hks kk2
        rw [decide_eq_false nm] at this
        simpa using this
      refine ⟨a, _, rfl, DPut.k (k := Sum.inl kk2) e2 (by omega), kk.nx F2 σ _ _ (s.ff.trans s2.ff) ?_ p2⟩
      rw [putK_new v hn]
      refine m2.dput e1 ev ?_ ?_
      · rw [List.map_append, List.map_append, hks]; rfl
      · rw [List.map_append]
        exact hl.append (RpL.one r2)
    · exact p2.elim
  · exact q.elim
end
section
variable {X : Cx} {Γ : Gm} {e o v : Expr} {te tk tv : TE} {we wk wv : WE} {pos pos' p : Pos} {i k : Nat}
theorem pt_dnin (hr : Room k X.A) (h : PD X Γ e te we) (ho : PD X Γ o (tVar i) (wName i)) (hb : behindInMarks .NotIn o = false := by rfl) : PDT X Γ (.Compare e [.NotIn] [o] pos) (tB (tDNotIn te (tVar i))) (wDnin i we) := ⟨pt_cmp (pc_dnotin (hu_of hr) h.pe ho.pe) hb, sd_dnin i h.sd⟩
theorem pd_dget (hr : Room k X.A) (ho : PD X Γ o (tVar i) (wName i)) (h : PD X Γ e te we) (hs : NoSl e := by exact fun _ _ => rfl) : PD X Γ (.Subscript o e pos) (tDGet (tVar i) te) (wDget i we) := ⟨pe_dget (hu_of hr) ho.pe h.pe hs, sd_dget i h.sd⟩
theorem pd_dsort (hm : X.mg "sorted" = none) (ho : PD X Γ o (tVar i) (wName i)) (hc : X.calm = true := by rfl) (hg : Gl X "sorted" := by rfl) (he : starEach [o] X.env = (false, eval o X.env) :: starEach [] X.env := by rfl) (hpl : (backTo pos (starEach [] X.env)).any (·.1) = false := by rfl) :
    PD X Γ (.Call (.Name "sorted" p) [o] [] pos) (tCB (fun xs H Q => ∃ (a : Addr) (kvs : List (Key × V)) (ks : List Int), xs = [.ref a] ∧ Rd H a (.dK kvs) ∧ kvs.map (·.1) = ks.map Sum.inl ∧ ks.length < 64 ∧
    ∀ (ys : List Int) (p : Addr), ys.Perm ks → ys.Pairwise (· ≤ ·) → H p = none → Q (.ref p) (upd H p (.lst (ys.map V.int)))) (tCons (tVar i) tNil)) (wDsort i) :=
  ⟨pe_callB (call_sortedDI hc) hg hm boot_sorted' (pa_cons ho.pe pa_nil he) (by decide) (by decide) he hpl, sd_dsort i⟩
theorem ps_dputA (hr : Room k X.A) (ho : PD X Γ o (tVar i) (wName i)) (hk : PD X Γ e tk wk) (hv : PD X Γ v tv wv) (hs : swapsWith v (some (.Subscript o e pos')) pos.line X.env = pure false := by rfl) : PDS X Γ (.Assign [.Subscript o e pos'] v pos) (sDPut (tVar i) tk tv) (wDput i wk wv) := ⟨ps_dput (hu_of hr) ho.pe hk.pe hv.pe hs, ss_dput i hk.sd hv.sd⟩
end

/-! ### lists within what stands by itself, cleared one by one -/
mutual
theorem Rp.det {F : Hp} : ∀ (d : PyData) {v : V} {d2 : PyData}, Rp F v d → Rp F v d2 → d = d2
  | .none, _, _, h, k => by cases h; cases k; rfl
  | .bool b, _, _, h, k => by cases h; cases k; rfl
  | .int i, _, _, h, k => by cases h; cases k; rfl
  | .str x, _, _, h, k => by cases h; cases k; rfl
  | .list ds, _, _, h, k => by
    cases h with
    | lst f1 l1 => cases k with
      | lst f2 l2 => rw [f1] at f2; cases f2; rw [RpL.det ds l1 l2]
      | tup f2 l2 => rw [f1] at f2; cases f2
  | .tuple ds, _, _, h, k => by
    cases h with
    | tup f1 l1 => cases k with
      | tup f2 l2 => rw [f1] at f2; cases f2; rw [RpL.det ds l1 l2]
      | lst f2 l2 => rw [f1] at f2; cases f2
  | .dict _, _, _, h, _ => by cases h
theorem RpL.det {F : Hp} : ∀ (ds : List PyData) {vs : List V} {d2 : List PyData}, RpL F vs ds → RpL F vs d2 → ds = d2
  | [], _, _, h, k => by cases h; cases k; rfl
  | d :: ds, _, _, h, k => by
    cases h with
    | cons h1 h2 => cases k with
      | cons k1 k2 => rw [Rp.det d h1 k1, RpL.det ds h2 k2]
end
theorem Rp.ne {F : Hp} {a b : Addr} {d e : PyData} (h : Rp F (.ref a) d) (k : Rp F (.ref b) e) (n : d ≠ e) : a ≠ b := fun z => by
  subst z
  exact n (h.det d k)
/-- a list without lists in it; a list of such, not empty -/
def turnP (xs : List PyData) : Prop := ∀ x ∈ xs, ∀ ys, x ≠ .list ys
def rowP (es : List PyData) : Prop := es ≠ [] ∧ ∀ e ∈ es, ∃ xs, e = .list xs ∧ turnP xs
def un3 (ρ : List A) (i r t : Nat) : List A := (((unfr ρ).set i .un).set r .un).set t .un
theorem un3_nofr {ρ : List A} {i r t : Nat} : unfr (un3 ρ i r t) = un3 ρ i r t := by
  unfold un3 unfr
  rw [List.map_set, List.map_set, List.map_set, List.map_map]
  have : (unfrA ∘ unfrA) = unfrA := by
    funext a
    cases a <;> rfl
  rw [this]
  rfl
theorem un3_get {ρ : List A} {i r t j : Nat} {a : A} (h : (un3 ρ i r t)[j]? = some a) : a = .un ∨ (j ≠ r ∧ j ≠ t ∧ (unfr ρ)[j]? = some a) := by
  unfold un3 at h
  by_cases h1 : t = j
  · subst h1
    obtain ⟨z1, e1⟩ := List.getElem?_eq_some_iff.mp h
    rw [List.getElem_set_self] at e1
    exact .inl e1.symm
  · rw [List.getElem?_set_ne h1] at h
    by_cases h2 : r = j
    · subst h2
      obtain ⟨z1, e1⟩ := List.getElem?_eq_some_iff.mp h
      rw [List.getElem_set_self] at e1
      exact .inl e1.symm
    · rw [List.getElem?_set_ne h2] at h
      by_cases h3 : i = j
      · subst h3
        obtain ⟨z1, e1⟩ := List.getElem?_eq_some_iff.mp h
        rw [List.getElem_set_self] at e1
        exact .inl e1.symm
      · rw [List.getElem?_set_ne h3] at h
        exact .inr ⟨fun z => h2 z.symm, fun z => h1 z.symm, h⟩
/-- the state while lists of Fs are cleared -/
structure Scr (Γ : Gm) (F : Hp) (ρ : List A) (σ0 : St) (i r t : Nat) (Fs : Hp) (a : Addr) (vs : List V) (σ : St) (H : Hp) : Prop where
  m : M Γ F (un3 ρ i r t) σ H
  len : σ.length = σ0.length
  at_ : ∀ j, j ≠ r → j ≠ t → σ[j]? = σ0[j]?
  top : H a = some (.lst vs)
  row : ∀ b es, rowP es → Rp Fs (.ref b) (.list es) → H b = Fs b ∨ H b = some (.lst [])
  trn : ∀ b xs, turnP xs → Rp Fs (.ref b) (.list xs) → ∃ ws, H b = some (.lst ws)
section
variable {Γ : Gm} {F : Hp} {ρ : List A} {σ0 : St} {i r t : Nat} {Fs : Hp} {a : Addr} {vs : List V} {σ : St} {H : Hp}
theorem Scr.set (h : Scr Γ F ρ σ0 i r t Fs a vs σ H) {j : Nat} (hj : j = r ∨ j = t) (hl : j < ρ.length) (v : V) : Scr Γ F ρ σ0 i r t Fs a vs (σ.set j (some v)) H := by
  have e0 : (un3 ρ i r t)[j]? = some .un := by
    have l3 : j < (un3 ρ i r t).length := by simp [un3, Yd.unfr]; exact hl
    rcases un3_get (List.getElem?_eq_getElem l3) with z | z
    · rw [List.getElem?_eq_getElem l3, z]
    · rcases hj with q | q
      · exact absurd q z.1
      · exact absurd q z.2.1
  refine ⟨?_, by rw [List.length_set]; exact h.len, fun k k1 k2 => ?_, h.top, h.row, h.trn⟩
  · obtain ⟨l, e⟩ := List.getElem?_eq_some_iff.mp e0
    refine ⟨h.m.st, h.m.gi0, by rw [List.length_set]; exact h.m.len, fun k x o h1 h2 => ?_, fun k k2 p h1 h2 => ?_, fun k x h1 => ?_⟩
    · by_cases hk : j = k
      · subst hk
        rw [e0] at h1
        cases h1
        trivial
      · rw [List.getElem?_set_ne hk] at h2
        exact h.m.sl k x o h1 h2
    · have back : ∀ {k : Nat}, ownAt (un3 ρ i r t) (σ.set j (some v)) k p → ownAt (un3 ρ i r t) σ k p := fun {k} ⟨⟨xs, q1⟩, q2⟩ => by
        by_cases hk : j = k
        · subst hk
          rw [e0] at q1
          cases q1
        · rw [List.getElem?_set_ne hk] at q2
          exact ⟨⟨xs, q1⟩, q2⟩
      exact h.m.dj k k2 p (back h1) (back h2)
    · rcases un3_get h1 with z | z
      · cases z
      · obtain ⟨b, _, e2⟩ := unfr_get z.2.2
        cases b <;> cases e2
  · have : j ≠ k := fun z => by
      subst z
      rcases hj with q | q
      · exact k1 q
      · exact k2 q
    rw [List.getElem?_set_ne this]
    exact h.at_ k k1 k2
theorem Scr.clr (h : Scr Γ F ρ σ0 i r t Fs a vs σ H) (n : ∀ b, Fs b ≠ none → F b = none ∧ Γ.H b = none ∧ ¬ isBox Γ.G b ∧ ∀ j, ¬ ownAt ρ σ0 j b) {b : Addr} {d : PyData} (hb : Rp Fs (.ref b) d) (ha : b ≠ a) : Scr Γ F ρ σ0 i r t Fs a vs σ (upd H b (.lst [])) := by
  have fb : Fs b ≠ none := by
    cases hb with
    | lst f _ => rw [f]; simp
    | tup f _ => rw [f]; simp
  obtain ⟨n1, n2, n3, n4⟩ := n b fb
  have m2 := h.m.forget (.lst []) n1 n2 n3 (a := b) fun j ⟨⟨xs, q1⟩, q2⟩ => by
    rcases un3_get q1 with z | ⟨z1, z2, z3⟩
    · cases z
    · rw [h.at_ j z1 z2] at q2
      exact n4 j (unfr_own ⟨⟨xs, z3⟩, q2⟩)
  rw [un3_nofr] at m2
  refine ⟨m2, h.len, h.at_, by rw [upd_ne (fun z => ha z.symm)]; exact h.top, fun c es h1 h2 => ?_, fun c xs h1 h2 => ?_⟩
  · by_cases z : c = b
    · subst z; exact .inr upd_same
    · rw [upd_ne z]; exact h.row c es h1 h2
  · by_cases z : c = b
    · subst z; exact ⟨_, upd_same⟩
    · rw [upd_ne z]; exact h.trn c xs h1 h2
end
def wClr2 (i r t : Nat) : WS := fun ρ P => match ρ[i]? with
  | some (.fr (.list ds)) => i ≠ r ∧ i ≠ t ∧ r ≠ t ∧ r < ρ.length ∧ t < ρ.length ∧ (∀ d ∈ ds, ∃ es, d = .list es ∧ rowP es) ∧ P.nx (un3 ρ i r t)
  | _ => False
theorem list_mem_ne {ds : List PyData} {d : PyData} (h : d ∈ ds) : d ≠ .list ds := fun z => by
  have := List.sizeOf_lt_of_mem h
  rw [z] at this
  simp at this
  omega
theorem ss_clr2 {Γ : Gm} {K : PySem.W.Frag} (i r t : Nat) : SndS Γ (tFor (iList K (tVar i)) (gName r) (tSeq (tFor (iList K (tVar r)) (gName t) (tDrop (tBM0 K "list" rClear (tVar t)))) (tDrop (tBM0 K "list" rClear (tVar r))))) (wClr2 i r t) := fun ρ P F σ H D m h kk => by
  unfold wClr2 at h
  split at h
  · rename_i ds e
    obtain ⟨nir, nit, nrt, hr, ht, hd, hP⟩ := h
    obtain ⟨v, Fs, ev, rv, ss, n⟩ := m.fr i _ e
    cases rv with
    | @lst a vs _ f1 l1 =>
    have hσ : σ.length = ρ.length := m.len
    have start : Scr Γ F ρ σ i r t Fs a vs σ H := by
      have nofr : ∀ (j : Nat) (x : PyData), (unfr ρ)[j]? ≠ some (.fr x) := fun j x hx => by
        obtain ⟨b, _, e2⟩ := unfr_get hx
        cases b <;> cases e2
      have nofr2 : ∀ (k j : Nat) (x : PyData), ((unfr ρ).set k .un)[j]? ≠ some (.fr x) := fun k j x hx => by
        by_cases hk : k = j
        · subst hk
          obtain ⟨z1, e1⟩ := List.getElem?_eq_some_iff.mp hx
          rw [List.getElem_set_self] at e1
          cases e1
        · rw [List.getElem?_set_ne hk] at hx
          exact nofr j x hx
      have nofr3 : ∀ (k l j : Nat) (x : PyData), (((unfr ρ).set k .un).set l .un)[j]? ≠ some (.fr x) := fun k l j x hx => by
        by_cases hk : l = j
        · subst hk
          obtain ⟨z1, e1⟩ := List.getElem?_eq_some_iff.mp hx
          rw [List.getElem_set_self] at e1
          cases e1
        · rw [List.getElem?_set_ne hk] at hx
          exact nofr2 k j x hx
      refine ⟨((m.unfr.drop i nofr).drop r (nofr2 i)).drop t (nofr3 i r), rfl, fun _ _ _ => rfl, ss _ _ f1, fun b es h1 h2 => ?_, fun b xs h1 h2 => ?_⟩
      · cases h2 with
        | lst f2 _ => exact .inl (by rw [ss _ _ f2, f2])
      · cases h2 with
        | lst f2 _ => exact ⟨_, ss _ _ f2⟩
    have ra : Rp Fs (.ref a) (.list ds) := .lst f1 l1
    refine ⟨_, ev, a, rfl, ⟨_, SqL.of (ss _ _ f1)⟩, for_list (K := K) (a := a) (xs := vs) (fun _ σ' H' => Scr Γ F ρ σ i r t Fs a vs σ' H') start (fun _ _ _ _ q => SqL.of q.top) ?_ ?_⟩
    · intro j x σ' H' hx sc
      obtain ⟨d, hd1, rd⟩ := l1.get' hx
      have hm := List.mem_of_getElem? hd1
      obtain ⟨es, rfl, hrow⟩ := hd d hm
      have sc1 := sc.set (.inl rfl) hr x
      have er : (σ'.set r (some x))[r]? = some (some x) := by
        rw [List.getElem?_set_self (by rw [sc.len, hσ]; exact hr)]
      cases rd with
      | @lst b ws _ f2 l2 =>
      have rb : Rp Fs (.ref b) (.list es) := .lst f2 l2
      have nab : b ≠ a := rb.ne ra (list_mem_ne hm)
      show tSeq _ _ _ (σ'.set r (some (.ref b))) H'
      obtain ⟨wsb, hb, sub⟩ : ∃ wsb, H' b = some (.lst wsb) ∧ ∀ y ∈ wsb, ∃ xs, turnP xs ∧ Rp Fs y (.list xs) := by
        rcases sc.row b es hrow rb with z | z
        · rw [f2] at z
          refine ⟨ws, z, fun y hy => ?_⟩
          obtain ⟨k, hk⟩ := List.mem_iff_getElem?.mp hy
          obtain ⟨d2, e2, r2⟩ := l2.get' hk
          obtain ⟨xs, rfl, hxs⟩ := hrow.2 d2 (List.mem_of_getElem? e2)
          exact ⟨xs, hxs, r2⟩
        · exact ⟨[], z, fun y hy => by simp at hy⟩
      refine ⟨_, er, b, rfl, ⟨_, SqL.of hb⟩, for_list (K := K) (a := b) (xs := wsb) (fun _ σ2 H2 => Scr Γ F ρ σ i r t Fs a vs σ2 H2 ∧ H2 b = some (.lst wsb) ∧ σ2[r]? = some (some (.ref b))) ⟨sc1, hb, er⟩ (fun _ _ _ _ q => SqL.of q.2.1) ?_ ?_⟩
      · rintro k y σ2 H2 hy ⟨sc2, hb2, er2⟩
        obtain ⟨xs, hxs, ry⟩ := sub y (List.mem_of_getElem? hy)
        have sc3 := sc2.set (.inr rfl) ht y
        have et : (σ2.set t (some y))[t]? = some (some y) := by
          rw [List.getElem?_set_self (by rw [sc2.len, hσ]; exact ht)]
        have er3 : (σ2.set t (some y))[r]? = some (some (.ref b)) := by
          rw [List.getElem?_set_ne (fun z => nrt z.symm)]; exact er2
        cases ry with
        | @lst c ws2 _ f3 l3 =>
        have rc : Rp Fs (.ref c) (.list xs) := .lst f3 l3
        obtain ⟨ws3, hc⟩ := sc3.trn c xs hxs rc
        have nca : c ≠ a := rc.ne ra fun z => by
          cases z
          exact hxs _ hm es rfl
        have ncb : c ≠ b := rc.ne rb fun z => by
          cases z
          cases hes : es with
          | nil => exact hrow.1 hes
          | cons e1 e2 =>
            obtain ⟨ys, rfl, _⟩ := hrow.2 e1 (by rw [hes]; exact List.mem_cons_self)
            exact hxs (.list ys) (by rw [hes]; exact List.mem_cons_self) ys rfl
        refine ⟨_, et, ty_list hc, c, ws3, rfl, rfl, hc, sc3.clr n rc nca, ?_, er3⟩
        rw [upd_ne (fun z => ncb z.symm)]
        exact hb2
      · rintro σ2 H2 ⟨sc2, hb2, er2⟩
        exact ⟨_, er2, ty_list hb2, b, wsb, rfl, rfl, hb2, sc2.clr n rb nab⟩
    · intro σ' H' sc
      exact kk.nx F σ' H' _ (Same.refl _) sc.m hP
  · exact h.elim
section
variable {X : Cx} {Γ : Gm} {K : PySem.W.Frag} {tg tg2 e e2 e3 e4 : Expr} {i r t : Nat} {pos p apos pos2 pos3 p3 apos3 pos4 : Pos} {wg wg2 : WG}
theorem ps_clr2 (hv : PD X Γ e (tVar i) (wName i)) (hg : PDG X Γ tg (gName r) wg) (hv2 : PD X Γ e2 (tVar r) (wName r)) (hg2 : PDG X Γ tg2 (gName t) wg2) (hv3 : PD X Γ e3 (tVar t) (wName t)) (hv4 : PD X Γ e4 (tVar r) (wName r)) (hp : PassesOwn (model X.prog X.w) X.A X.env X.xe) (hc : X.calm = true := by rfl)
    (hs : ∀ x, foldedSetIterable e X.env x = pure x := by intro _; rfl) (hs2 : ∀ x, foldedSetIterable e2 X.env x = pure x := by intro _; rfl)
    (hs3 : swapsWith (.Call (.Attribute e3 "clear" apos) [] [] p) none pos3.line X.env = pure false := by rfl) (hs4 : swapsWith (.Call (.Attribute e4 "clear" apos3) [] [] p3) none pos4.line X.env = pure false := by rfl)
    (hb3 : attributeBase e3 "clear" X.env (eval e3 X.env) = eval e3 X.env := by rfl) (hb4 : attributeBase e4 "clear" X.env (eval e4 X.env) = eval e4 X.env := by rfl)
    (hl3 : (apos.endLine == p.line) = true := by rfl) (hl4 : (apos3.endLine == p3.line) = true := by rfl) (hK : X.K = K := by rfl) :
    PDS X Γ (.For tg e [.For tg2 e2 [.Expr (.Call (.Attribute e3 "clear" apos) [] [] p) pos3] [] pos2, .Expr (.Call (.Attribute e4 "clear" apos3) [] [] p3) pos4] [] pos) (tFor (iList K (tVar i)) (gName r) (tSeq (tFor (iList K (tVar r)) (gName t) (tDrop (tBM0 K "list" rClear (tVar t)))) (tDrop (tBM0 K "list" rClear (tVar r))))) (wClr2 i r t) := by
  subst hK
  exact ⟨ps_for hp hc (pi_list hv.pe) hg.pg (pss_cons (ps_for hp hc (pi_list hv2.pe) hg2.pg (pss_one (ps_expr (pe_bm0 PySem.F.plainAttrs_list PySem.F.slot_list_clear PySem.F.type_list_clear mt_clear hv3.pe hb3 hl3) hs3)) hs2)
    (pss_one (ps_expr (pe_bm0 PySem.F.plainAttrs_list PySem.F.slot_list_clear PySem.F.type_list_clear mt_clear hv4.pe hb4 hl4) hs4))) hs, ss_clr2 i r t⟩
end

/-! ### for the walk -/
def dctK (o : Option A) (K : List Int → List PyData → Prop) : Prop := match o with
  | some (.dct ks ds) => K ks ds
  | _ => False
def datK (r : A) (K : PyData → Prop) : Prop := match r with
  | .d x => K x
  | _ => False
theorem dctK_d (ks : List Int) (ds : List PyData) (K : List Int → List PyData → Prop) : dctK (some (.dct ks ds)) K = K ks ds := rfl
theorem datK_d (x : PyData) (K : PyData → Prop) : datK (.d x) K = K x := rfl
theorem frK_dct (ks : List Int) (ds : List PyData) (K : A → Prop) : frK (.dct ks ds) K = K (.dct ks ds) := rfl
theorem unfrA_dct (ks : List Int) (ds : List PyData) : unfrA (.dct ks ds) = .un := rfl
theorem e_dnew (ρ : List A) (Q : A → Prop) : wDnew ρ Q = Q (.dct [] []) := rfl
theorem e_dnin (i : Nat) (we : WE) (ρ : List A) (Q : Bool → Prop) : wDnin i we ρ Q = we ρ fun y => dctK (ρ[i]?) fun ks _ => intK y fun k => Q (!decide (k ∈ ks)) := by
  unfold wDnin dctK intK
  congr 1
  funext y
  cases ρ[i]? with
  | none => rfl
  | some a => cases a with
    | dct ks ds => cases y with
      | d x => cases x <;> rfl
      | _ => rfl
    | _ => rfl
theorem e_dget (i : Nat) (we : WE) (ρ : List A) (Q : A → Prop) : wDget i we ρ Q = dctK (ρ[i]?) fun ks ds => we ρ fun y => intK y fun k => ks.Nodup ∧ ∃ (j : Nat) (d : PyData), ks[j]? = some k ∧ ds[j]? = some d ∧ Q (.d d) := by
  unfold wDget dctK intK
  cases ρ[i]? with
  | none => rfl
  | some a => cases a with
    | dct ks ds =>
      show we ρ _ = we ρ _
      congr 1
      all_goals
        funext y
        cases y with
        | d x => cases x <;> rfl
        | _ => rfl
    | _ => rfl
theorem e_dsort (i : Nat) (ρ : List A) (Q : A → Prop) : wDsort i ρ Q = dctK (ρ[i]?) fun ks _ => ks.length < 64 ∧ ∀ ms : List Int, ms.Perm ks → ms.Pairwise (· ≤ ·) → Q (.own (ms.map PyData.int)) := by
  unfold wDsort dctK
  all_goals rfl
theorem e_dput (i : Nat) (wk wv : WE) (ρ : List A) (P : Po) : wDput i wk wv ρ P = dctK (ρ[i]?) fun ks ds => wv ρ fun x => wk ρ fun y => intK y fun k => datK x fun d => ks.length < sizeLine ∧ k ∉ ks ∧ P.nx ((unfr ρ).set i (.dct (ks ++ [k]) (ds ++ [d]))) := by
  unfold wDput dctK intK datK
  cases ρ[i]? with
  | none => rfl
  | some a => cases a with
    | dct ks ds =>
      show wv ρ _ = wv ρ _
      congr 1
      all_goals
        funext x
        congr 1
        all_goals
          funext y
          cases y with
          | d z => cases z <;> cases x <;> rfl
          | _ => rfl
    | _ => rfl
def frlK (o : Option A) (K : List PyData → Prop) : Prop := match o with
  | some (.fr (.list ds)) => K ds
  | _ => False
theorem frlK_l (ds : List PyData) (K : List PyData → Prop) : frlK (some (.fr (.list ds))) K = K ds := rfl
theorem e_clr2 (i r t : Nat) (ρ : List A) (P : Po) : wClr2 i r t ρ P = frlK (ρ[i]?) fun ds => i ≠ r ∧ i ≠ t ∧ r ≠ t ∧ r < ρ.length ∧ t < ρ.length ∧ (∀ d ∈ ds, ∃ es, d = .list es ∧ rowP es) ∧ P.nx ((((unfr ρ).set i .un).set r .un).set t .un) := by
  unfold wClr2 frlK un3
  all_goals rfl
end Yd

/-! YdY: what a call made is cleared, list by list. -/
namespace Yd
open PySem L2
def clrFK (r : A) (ρ : List A) (P : Po) : Prop := match r with
  | .fr (.list _) => P.nx ρ
  | _ => False
def wClrF (e : WE) : WS := fun ρ P => e ρ fun r => clrFK r ρ P
theorem e_clrF (e : WE) (ρ : List A) (P : Po) : wClrF e ρ P = e ρ fun r => clrFK r ρ P := rfl
theorem clrFK_l (xs : List PyData) (ρ : List A) (P : Po) : clrFK (.fr (.list xs)) ρ P = P.nx ρ := rfl
theorem ss_clrF {Γ : Gm} {K : PySem.W.Frag} {te : TE} {we : WE} (h : SndE Γ te we) : SndS Γ (tDrop (tBM0 K "list" rClear te)) (wClrF we) := fun ρ P F σ H D m hw k =>
  h ρ _ F σ H _ m hw fun F1 H1 v r s q p => by
    unfold clrFK at p
    split at p
    · obtain ⟨Fs, q1, q2, q3⟩ := q
      cases q1 with
      | @lst a vs _ f1 _ =>
      obtain ⟨e2, e1⟩ := q3 a (by rw [f1]; simp)
      have e3 := q2 _ _ f1
      refine ⟨ty_list e3, a, vs, rfl, rfl, e3, k.nx F1 σ _ ρ s.ff (m.step ?_) p⟩
      have nb : ¬ isBox Γ.G a := fun z => m.gi.box z e1
      exact ⟨s.ff, fun b o z => by rw [upd_ne (ne_of_none z e2)]; exact s.fh b o z, s.gi.upd nb, fun b o z n => by rw [upd_ne (ne_of_none z e1)]; exact s.keep b o z n, s.new, s.box⟩
    · exact p.elim
theorem ps_clrF {X : Cx} {Γ : Gm} {o : Expr} {te : TE} {we : WE} {pos p apos : Pos} {K : PySem.W.Frag} (ho : PD X Γ o te we) (hs : swapsWith (.Call (.Attribute o "clear" apos) [] [] p) none pos.line X.env = pure false := by rfl)
    (hbase : attributeBase o "clear" X.env (eval o X.env) = eval o X.env := by rfl) (hline : (apos.endLine == p.line) = true := by rfl) (hK : X.K = K := by rfl) :
    PDS X Γ (.Expr (.Call (.Attribute o "clear" apos) [] [] p) pos) (tDrop (tBM0 K "list" rClear te)) (wClrF we) := by
  subst hK
  exact ⟨ps_expr (pe_bm0 PySem.F.plainAttrs_list PySem.F.slot_list_clear PySem.F.type_list_clear mt_clear ho.pe hbase hline) hs, ss_clrF ho.sd⟩
/-! ### for r in x: r.clear(); x.clear() -/
def clr1K (i r : Nat) (o : Option A) (ρ : List A) (P : Po) : Prop := match o with
  | some (.fr (.list ds)) => i ≠ r ∧ r < ρ.length ∧ (∀ d ∈ ds, ∃ es, d = .list es ∧ turnP es) ∧ P.nx ((((unfr ρ).set i .un).set r .un).set r .un)
  | _ => False
def wClr1 (i r : Nat) : WS := fun ρ P => clr1K i r (ρ[i]?) ρ P
theorem e_clr1 (i r : Nat) (ρ : List A) (P : Po) : wClr1 i r ρ P = clr1K i r (ρ[i]?) ρ P := rfl
theorem clr1K_l (i r : Nat) (ds : List PyData) (ρ : List A) (P : Po) : clr1K i r (some (.fr (.list ds))) ρ P = (i ≠ r ∧ r < ρ.length ∧ (∀ d ∈ ds, ∃ es, d = .list es ∧ turnP es) ∧ P.nx ((((unfr ρ).set i .un).set r .un).set r .un)) := rfl
theorem ss_clr1 {Γ : Gm} {K : PySem.W.Frag} (i r : Nat) : SndS Γ (tSeq (tFor (iList K (tVar i)) (gName r) (tDrop (tBM0 K "list" rClear (tVar r)))) (tDrop (tBM0 K "list" rClear (tVar i)))) (wClr1 i r) := fun ρ P F σ H D m h kk => by
  unfold wClr1 clr1K at h
  split at h
  · rename_i ds e
    obtain ⟨nir, hr, hd, hP⟩ := h
    obtain ⟨v, Fs, ev, rv, ss, n⟩ := m.fr i _ e
    cases rv with
    | @lst a vs _ f1 l1 =>
    have hσ : σ.length = ρ.length := m.len
    have start : Scr Γ F ρ σ i r r Fs a vs σ H := by
      have nofr : ∀ (j : Nat) (x : PyData), (unfr ρ)[j]? ≠ some (.fr x) := fun j x hx => by
        obtain ⟨b, _, e2⟩ := unfr_get hx
        cases b <;> cases e2
      have nofr2 : ∀ (k j : Nat) (x : PyData), ((unfr ρ).set k .un)[j]? ≠ some (.fr x) := fun k j x hx => by
        by_cases hk : k = j
        · subst hk
          obtain ⟨z1, e1⟩ := List.getElem?_eq_some_iff.mp hx
          rw [List.getElem_set_self] at e1
          cases e1
        · rw [List.getElem?_set_ne hk] at hx
          exact nofr j x hx
      have nofr3 : ∀ (k l j : Nat) (x : PyData), (((unfr ρ).set k .un).set l .un)[j]? ≠ some (.fr x) := fun k l j x hx => by
        by_cases hk : l = j
        · subst hk
          obtain ⟨z1, e1⟩ := List.getElem?_eq_some_iff.mp hx
          rw [List.getElem_set_self] at e1
          cases e1
        · rw [List.getElem?_set_ne hk] at hx
          exact nofr2 k j x hx
      refine ⟨((m.unfr.drop i nofr).drop r (nofr2 i)).drop r (nofr3 i r), rfl, fun _ _ _ => rfl, ss _ _ f1, fun b es h1 h2 => ?_, fun b xs h1 h2 => ?_⟩
      · cases h2 with
        | lst f2 _ => exact .inl (by rw [ss _ _ f2, f2])
      · cases h2 with
        | lst f2 _ => exact ⟨_, ss _ _ f2⟩
    have ra : Rp Fs (.ref a) (.list ds) := .lst f1 l1
    refine ⟨_, ev, a, rfl, ⟨_, SqL.of (ss _ _ f1)⟩, for_list (K := K) (a := a) (xs := vs) (fun _ σ' H' => Scr Γ F ρ σ i r r Fs a vs σ' H') start (fun _ _ _ _ q => SqL.of q.top) ?_ ?_⟩
    · intro j x σ' H' hx sc
      obtain ⟨d, hd1, rd⟩ := l1.get' hx
      have hm := List.mem_of_getElem? hd1
      obtain ⟨es, rfl, hrow⟩ := hd d hm
      have sc1 := sc.set (.inl rfl) hr x
      have er : (σ'.set r (some x))[r]? = some (some x) := by
        rw [List.getElem?_set_self (by rw [sc.len, hσ]; exact hr)]
      cases rd with
      | @lst b ws _ f2 l2 =>
      have rb : Rp Fs (.ref b) (.list es) := .lst f2 l2
      have nab : b ≠ a := rb.ne ra (list_mem_ne hm)
      obtain ⟨wsb, hb⟩ := sc1.trn b es hrow rb
      exact ⟨_, er, ty_list hb, b, wsb, rfl, rfl, hb, sc1.clr n rb nab⟩
    · intro σ' H' sc
      have ei : σ'[i]? = some (some (.ref a)) := by rw [sc.at_ i nir nir]; exact ev
      obtain ⟨n1, n2, n3, n4⟩ := n a (by rw [f1]; simp)
      have m2 := sc.m.forget (.lst []) n1 n2 n3 (a := a) fun j ⟨⟨xs, q1⟩, q2⟩ => by
        rcases un3_get q1 with z | ⟨z1, z2, z3⟩
        · cases z
        · rw [sc.at_ j z1 z2] at q2
          exact n4 j (unfr_own ⟨⟨xs, z3⟩, q2⟩)
      rw [un3_nofr] at m2
      exact ⟨_, ei, ty_list sc.top, a, vs, rfl, rfl, sc.top, kk.nx F σ' _ _ (Same.refl _) m2 hP⟩
  · exact h.elim
theorem pss_clr1 {X : Cx} {Γ : Gm} {K : PySem.W.Frag} {tg e e4 e5 : Expr} {i r : Nat} {pos p4 apos4 pos4 p5 apos5 pos5 : Pos} {wg : WG} {ss : List Stmt} {ts : TS} {ws : WS} (hv : PD X Γ e (tVar i) (wName i)) (hg : PDG X Γ tg (gName r) wg) (hv4 : PD X Γ e4 (tVar r) (wName r)) (hv5 : PD X Γ e5 (tVar i) (wName i)) (hp : PassesOwn (model X.prog X.w) X.A X.env X.xe) (hss : PDSs X Γ ss ts ws) (hc : X.calm = true := by rfl)
    (hs : ∀ x, foldedSetIterable e X.env x = pure x := by intro _; rfl)
    (hs4 : swapsWith (.Call (.Attribute e4 "clear" apos4) [] [] p4) none pos4.line X.env = pure false := by rfl) (hs5 : swapsWith (.Call (.Attribute e5 "clear" apos5) [] [] p5) none pos5.line X.env = pure false := by rfl)
    (hb4 : attributeBase e4 "clear" X.env (eval e4 X.env) = eval e4 X.env := by rfl) (hb5 : attributeBase e5 "clear" X.env (eval e5 X.env) = eval e5 X.env := by rfl)
    (hl4 : (apos4.endLine == p4.line) = true := by rfl) (hl5 : (apos5.endLine == p5.line) = true := by rfl) (hK : X.K = K := by rfl) :
    PDSs X Γ (.For tg e [.Expr (.Call (.Attribute e4 "clear" apos4) [] [] p4) pos4] [] pos :: .Expr (.Call (.Attribute e5 "clear" apos5) [] [] p5) pos5 :: ss) (tSeq (tFor (iList K (tVar i)) (gName r) (tDrop (tBM0 K "list" rClear (tVar r)))) (tSeq (tDrop (tBM0 K "list" rClear (tVar i))) ts)) (wSeq (wClr1 i r) ws) := by
  subst hK
  exact ⟨pss_cons (ps_for hp hc (pi_list hv.pe) hg.pg (pss_one (ps_expr (pe_bm0 PySem.F.plainAttrs_list PySem.F.slot_list_clear PySem.F.type_list_clear mt_clear hv4.pe hb4 hl4) hs4)) hs)
    (pss_cons (ps_expr (pe_bm0 PySem.F.plainAttrs_list PySem.F.slot_list_clear PySem.F.type_list_clear mt_clear hv5.pe hb5 hl5) hs5) hss.ps), (ss_seq (ss_clr1 i r) hss.sd : SndS Γ (tSeq (tSeq (tFor (iList X.K (tVar i)) (gName r) (tDrop (tBM0 X.K "list" rClear (tVar r)))) (tDrop (tBM0 X.K "list" rClear (tVar i)))) ts) (wSeq (wClr1 i r) ws))⟩
theorem e_ei (w1 w2 : WE) (ρ : List A) (Q : A → Prop) : wEi w1 w2 ρ Q = (w1 ρ Q ∨ w2 ρ Q) := rfl
theorem e_ssN (wa : WE) (ρ : List A) (Q : A → Prop) : wSortSetN wa ρ Q = wa ρ fun a => sortSetN a Q := rfl
theorem ssN_o (xs : List PyData) (Q : A → Prop) : sortSetN (.own xs) Q = sortSetNK xs Q := rfl
theorem ssN_d (xs : List PyData) (Q : A → Prop) : sortSetN (.d (.list xs)) Q = sortSetNK xs Q := rfl
/-! ### either kind of looks -/
structure NumbOk (xs : List PyData) : Prop where
  al : PySem.W.AllAlike xs
  few : xs.length ≤ 7
  lay : ∀ x ∈ xs, PyData.canLay0 x = true ∧ PyData.depth x ≤ 10
  kd : (∃ ns : List Int, xs = ns.map PyData.int) ∨ ((∃ ks : List NestedKey, xs = ks.map NestedKey.data ∧ ∀ k ∈ ks, TupK k) ∧ PySem.W.Sortable xs)
theorem toks_int (n : Int) : PySem.W.keyToks (.int n) = [.inl n] := by rw [PySem.W.keyToks]
theorem numb_ev {xs : List PyData} {Q : A → Prop} (ok : NumbOk xs) (h : ∀ us, EvD us xs → Q (.own us)) : sortSetK xs Q ∨ sortSetNK xs Q := by
  rcases ok.kd with ⟨ns, rfl⟩ | ⟨⟨ks, rfl, tk⟩, so⟩
  · have few := ok.few
    rw [List.length_map] at few
    refine .inl ⟨ns, ns, rfl, fun k hk => hk, by omega, fun ms up me => h _ ⟨?_, fun u hu => ?_, fun x hx => ?_, ?_⟩⟩
    · rw [List.map_map]
      refine List.pairwise_map.mpr (up.imp fun {a b} lt e => ?_)
      have e2 : PySem.W.keyToks (.int a) = PySem.W.keyToks (.int b) := e
      rw [toks_int, toks_int] at e2
      have : a = b := Sum.inl.inj (List.cons.inj e2).1
      omega
    · obtain ⟨k, hk, rfl⟩ := List.mem_map.mp hu
      exact List.mem_map.mpr ⟨k, (me k).mp hk, rfl⟩
    · obtain ⟨k, hk, rfl⟩ := List.mem_map.mp hx
      exact List.mem_map.mpr ⟨_, List.mem_map.mpr ⟨k, (me k).mpr hk, rfl⟩, rfl⟩
    · refine List.pairwise_map.mpr (up.imp fun {a b} lt => ?_)
      show (!PySem.W.dataLt (.int b) (.int a)) = true
      rw [PySem.W.dataLt_int, decide_eq_false (by omega)]
      rfl
  · have few := ok.few
    rw [List.length_map] at few
    exact .inr ⟨ks, rfl, tk, by omega, ok.al, so, h⟩
theorem shaped_all {us : List PyData} (h : ∀ x ∈ us, PyData.canLay0 x = true ∧ PyData.depth x ≤ 10) : SeqAt.shaped (.list us) = true := by
  have h1 : PyData.canLayAll0 us = true := by
    induction us with
    | nil => simp [PyData.canLayAll0]
    | cons a us ih => rw [PyData.canLayAll0, (h a List.mem_cons_self).1, ih fun x hx => h x (List.mem_cons_of_mem _ hx)]; rfl
  have h2 : PyData.depthAll us ≤ 11 := by
    clear h1
    induction us with
    | nil => simp [PyData.depthAll]
    | cons a us ih =>
      have h1 := (h a List.mem_cons_self).2
      have h2 := ih fun x hx => h x (List.mem_cons_of_mem _ hx)
      rw [PyData.depthAll]
      omega
  show (PyData.canLay0 (.list us) && decide (PyData.depth (.list us) ≤ 64)) = true
  rw [PyData.canLay0, h1, Bool.true_and]
  refine decide_eq_true ?_
  rw [PyData.depth]
  omega
theorem shaped_one {x : PyData} (h : PyData.canLay0 x = true ∧ PyData.depth x ≤ 10) : SeqAt.shaped x = true := by
  show (PyData.canLay0 x && decide (PyData.depth x ≤ 64)) = true
  rw [h.1, decide_eq_true (by omega)]
  rfl
end Yd

/-! Yd2: len(set(xs)) of ints that are the same. -/
namespace Yd
open PySem L2 PySem.Spec PyProof.Rows
theorem met_one (c : Int) : ∀ n : Nat, firstMet (fun _ => c) (n + 1) = [c]
  | 0 => by rw [firstMet_succ, firstMet_zero]; rfl
  | n + 1 => by rw [firstMet_succ, met_one c n]; unfold step_dedup; simp
theorem met_same {c : Int} : ∀ (n i : Nat), i ≤ n → firstMet (fun i => (List.replicate n c).getD i 0) i = firstMet (fun _ => c) i
  | _, 0, _ => rfl
  | n, i + 1, h => by
    rw [firstMet_succ, firstMet_succ, met_same n i (by omega)]
    congr 1
    rw [List.getD_eq_getElem?_getD, List.getElem?_replicate, if_pos (by omega)]
    rfl
section
variable {X : Cx}
def tLenSet (K : PySem.W.Frag) (ta : TE) : TE := fun σ H Q => ta σ H fun x H1 => ∃ (l : Addr) (c : Int) (n : Nat), x = V.ref l ∧ SqL K H1 l ((List.replicate (n + 1) c).map V.int) ∧ n < 60 ∧ Q (.int 1) H1
theorem pe_lenSet1 {a : Expr} {ta : TE} {p p2 q pos : Pos} (hc : X.calm = true) (hg : Gl X "len") (hm : X.mg "len" = none) (hg2 : Gl X "set") (hm2 : X.mg "set" = none) (ha : PE X a ta)
    (na : starEach [a] X.env = (false, eval a X.env) :: starEach [] X.env := by rfl) : PE X (.Call (.Name "len" p) [.Call (.Name "set" p2) [a] [] q] [] pos) (tLenSet X.K ta) := by
  refine ⟨fun pins s σ H Q I h => ?_⟩
  refine Call_ (ld_blt I hg hm PySem.boot_len ?_)
  refine PyProof.Rows.callWith_builtin1 (PyProof.Rows.args_cons ?_ rfl) rfl rfl
  refine Call_ (ld_blt I hg2 hm2 PyProof.Rows.boot_set ?_)
  refine PyProof.Rows.callWith_type1 (PyProof.Rows.args_cons (thn (ha.run pins s σ H _ I h) fun v s1 ⟨x, H1, I1, r1, q1⟩ => PyProof.Rows.args_nil ?_) na) na rfl
  obtain ⟨l, c, n, rfl, hq, h1, q1⟩ := q1
  cases r1
  obtain ⟨its, r, pl, hz⟩ := I1.list hq
  have hl : its.toArray.size = n + 1 := by rw [List.size_toArray, ← r.length, List.length_map, List.length_replicate]
  refine call_set_list (I1.ok.hd hc) pl.isList (ns := List.replicate (n + 1) c) (by simpa using r.ints) (by unfold scanBound; omega) fun h' tk hS hk => ?_
  rw [hl, met_same (n + 1) (n + 1) (Nat.le_refl _), met_one] at hS
  refine PyProof.Rows.args_nil ?_
  obtain ⟨o, es, ep, t, ho, hex, hd, _, _, _, hf, hn⟩ := hS
  have I2 : Inv X pins σ H1 { s1 with heap := h', toks := tk } := I1.kept fun b o e => hk b o (Heap.lt_size e) e
  refine call_len_set ho hex hd hf (by rw [hn, List.length_singleton]; decide) ⟨.int 1, H1, I2.tok _, ⟨_, by rw [hn]; rfl⟩, q1⟩
end
def lenSetK (xs : List PyData) (Q : A → Prop) : Prop := ∃ (c : Int) (n : Nat), xs = List.replicate (n + 1) (PyData.int c) ∧ n < 60 ∧ Q (.int 1)
def lenSetA (a : A) (Q : A → Prop) : Prop := match asL a with
  | some xs => lenSetK xs Q
  | none => False
def wLenSet (wa : WE) : WE := fun ρ Q => wa ρ fun a => lenSetA a Q
theorem e_lenSet (wa : WE) (ρ : List A) (Q : A → Prop) : wLenSet wa ρ Q = wa ρ fun a => lenSetA a Q := rfl
theorem lenSetA_o (xs : List PyData) (Q : A → Prop) : lenSetA (.own xs) Q = lenSetK xs Q := rfl
theorem sd_lenSet {Γ : Gm} {K : PySem.W.Frag} {ta : TE} {wa : WE} (h : SndE Γ ta wa) : SndE Γ (tLenSet K ta) (wLenSet wa) := fun ρ Q F σ H K0 m q k =>
  h ρ _ F σ H _ m q fun F1 H1 v r s ra p => by
    unfold lenSetA at p
    split at p
    · rename_i xs e
      obtain ⟨c, n, rfl, hn, p⟩ := p
      have m1 := m.step s
      obtain ⟨a, vs, rfl, h1, l1⟩ := ra.list m1 e
      have l1 : RpL F1 vs ((List.replicate (n + 1) c).map PyData.int) := by rw [List.map_replicate]; exact l1
      have e1 := l1.of_ints
      subst e1
      exact ⟨a, c, n, rfl, SqL.of h1, hn, k F1 H1 _ (.int 1) s (.int 1) p⟩
    · exact p.elim
theorem pd_lenSet {X : Cx} {Γ : Gm} {K : PySem.W.Frag} {e : Expr} {ta : TE} {wa : WE} {p p2 q pos : Pos} (hc : X.calm = true) (hm : X.mg "len" = none) (hm2 : X.mg "set" = none) (ha : PD X Γ e ta wa) (hg : Gl X "len" := by rfl) (hg2 : Gl X "set" := by rfl)
    (na : starEach [e] X.env = (false, eval e X.env) :: starEach [] X.env := by rfl) (hK : X.K = K := by rfl) : PD X Γ (.Call (.Name "len" p) [.Call (.Name "set" p2) [e] [] q] [] pos) (tLenSet K ta) (wLenSet wa) := by
  subst hK
  exact ⟨pe_lenSet1 hc hg hm hg2 hm2 ha.pe na, sd_lenSet ha.sd⟩
end Yd

namespace Yd
open PySem L2
def topS (i : Nat) : Stmt := PySem.Challenge.pw_sameyard_k09_whole_shades_go_along.main.body.getD i (.Pass ⟨0, 0, 0, 0⟩)
abbrev s_numbered : Stmt := topS 1
abbrev n_numbered : List Str := ["looks", "every", "look"]
abbrev p_numbered : List Str := ["looks"]
theorem sc_numbered : FnScope n_numbered p_numbered (defScope s_numbered) := ⟨rfl, rfl, rfl, by decide +kernel, rfl, by decide +kernel, by decide +kernel⟩
abbrev s_looks_of : Stmt := topS 2
abbrev n_looks_of : List Str := ["yard", "shade", "found", "place", "ties", "other"]
abbrev p_looks_of : List Str := ["yard", "shade"]
theorem sc_looks_of : FnScope n_looks_of p_looks_of (defScope s_looks_of) := ⟨rfl, rfl, rfl, by decide +kernel, rfl, by decide +kernel, by decide +kernel⟩
abbrev s_rounds : Stmt := topS 3
abbrev n_rounds : List Str := ["yard", "found", "more"]
abbrev p_rounds : List Str := ["yard"]
theorem sc_rounds : FnScope n_rounds p_rounds (defScope s_rounds) := ⟨rfl, rfl, rfl, by decide +kernel, rfl, by decide +kernel, by decide +kernel⟩
abbrev s_shades : Stmt := topS 4
abbrev n_shades : List Str := ["yard"]
abbrev p_shades : List Str := ["yard"]
theorem sc_shades : FnScope n_shades p_shades (defScope s_shades) := ⟨rfl, rfl, rfl, by decide +kernel, rfl, by decide +kernel, by decide +kernel⟩
abbrev s_BadYard_init : Stmt := inClass (topS 7) 0
abbrev n_BadYard_init : List Str := ["self", "word", "number"]
abbrev p_BadYard_init : List Str := ["self", "word", "number"]
theorem sc_BadYard_init : FnScope n_BadYard_init p_BadYard_init (defScope s_BadYard_init) := ⟨rfl, rfl, rfl, by decide +kernel, rfl, by decide +kernel, by decide +kernel⟩
abbrev s_must_be : Stmt := topS 12
abbrev n_must_be : List Str := ["good", "word", "number"]
abbrev p_must_be : List Str := ["good", "word", "number"]
theorem sc_must_be : FnScope n_must_be p_must_be (defScope s_must_be) := ⟨rfl, rfl, rfl, by decide +kernel, rfl, by decide +kernel, by decide +kernel⟩
abbrev s_Yard_init : Stmt := inClass (topS 13) 0
abbrev n_Yard_init : List Str := ["self", "marks", "ties", "many", "place", "other", "number", "one", "kind"]
abbrev p_Yard_init : List Str := ["self", "marks", "ties"]
theorem sc_Yard_init : FnScope n_Yard_init p_Yard_init (defScope s_Yard_init) := ⟨rfl, rfl, rfl, by decide +kernel, rfl, by decide +kernel, by decide +kernel⟩
abbrev s_Yard_many : Stmt := inClass (topS 13) 1
abbrev n_Yard_many : List Str := ["self"]
abbrev p_Yard_many : List Str := ["self"]
theorem sc_Yard_many : FnScope n_Yard_many p_Yard_many (defScope s_Yard_many) := ⟨rfl, rfl, rfl, by decide +kernel, rfl, by decide +kernel, by decide +kernel⟩
abbrev s_Yard_marks : Stmt := inClass (topS 13) 2
abbrev n_Yard_marks : List Str := ["self"]
abbrev p_Yard_marks : List Str := ["self"]
theorem sc_Yard_marks : FnScope n_Yard_marks p_Yard_marks (defScope s_Yard_marks) := ⟨rfl, rfl, rfl, by decide +kernel, rfl, by decide +kernel, by decide +kernel⟩
abbrev s_Yard_ties : Stmt := inClass (topS 13) 3
abbrev n_Yard_ties : List Str := ["self", "found", "one", "other"]
abbrev p_Yard_ties : List Str := ["self"]
theorem sc_Yard_ties : FnScope n_Yard_ties p_Yard_ties (defScope s_Yard_ties) := ⟨rfl, rfl, rfl, by decide +kernel, rfl, by decide +kernel, by decide +kernel⟩
abbrev s_Yard_need_place : Stmt := inClass (topS 13) 4
abbrev n_Yard_need_place : List Str := ["self", "place"]
abbrev p_Yard_need_place : List Str := ["self", "place"]
theorem sc_Yard_need_place : FnScope n_Yard_need_place p_Yard_need_place (defScope s_Yard_need_place) := ⟨rfl, rfl, rfl, by decide +kernel, rfl, by decide +kernel, by decide +kernel⟩
abbrev s_clash : Stmt := topS 15
abbrev n_clash : List Str := ["one", "other", "names", "place", "name", "elder"]
abbrev p_clash : List Str := ["one", "other", "names", "place", "name"]
theorem sc_clash : FnScope n_clash p_clash (defScope s_clash) := ⟨rfl, rfl, rfl, by decide +kernel, rfl, by decide +kernel, by decide +kernel⟩
abbrev s_first : Stmt := topS 16
abbrev n_first : List Str := ["one", "other", "given", "names", "place"]
abbrev p_first : List Str := ["one", "other", "given"]
theorem sc_first : FnScope n_first p_first (defScope s_first) := ⟨rfl, rfl, rfl, by decide +kernel, rfl, by decide +kernel, by decide +kernel⟩
abbrev s_led_on : Stmt := topS 17
abbrev n_led_on : List Str := ["one", "other", "names", "name", "found"]
abbrev p_led_on : List Str := ["one", "other", "names"]
theorem sc_led_on : FnScope n_led_on p_led_on (defScope s_led_on) := ⟨rfl, rfl, rfl, by decide +kernel, rfl, by decide +kernel, by decide +kernel⟩
abbrev s_cases : Stmt := topS 19
abbrev n_cases : List Str := ["one", "other", "names", "rows", "name", "why"]
abbrev p_cases : List Str := ["one", "other", "names"]
theorem sc_cases : FnScope n_cases p_cases (defScope s_cases) := ⟨rfl, rfl, rfl, by decide +kernel, rfl, by decide +kernel, by decide +kernel⟩
abbrev s_moved_ahead : Stmt := topS 21
abbrev n_moved_ahead : List Str := ["yard", "place", "other", "names", "marks", "one", "kind"]
abbrev p_moved_ahead : List Str := ["yard", "place"]
theorem sc_moved_ahead : FnScope n_moved_ahead p_moved_ahead (defScope s_moved_ahead) := ⟨rfl, rfl, rfl, by decide +kernel, rfl, by decide +kernel, by decide +kernel⟩
abbrev s_lead : Stmt := topS 22
abbrev n_lead : List Str := ["yard", "one", "other", "ahead", "found", "why"]
abbrev p_lead : List Str := ["yard", "one", "other"]
theorem sc_lead : FnScope n_lead p_lead (defScope s_lead) := ⟨rfl, rfl, rfl, by decide +kernel, rfl, by decide +kernel, by decide +kernel⟩
abbrev s_kin : Stmt := topS 23
abbrev n_kin : List Str := ["yard", "found", "place", "mine", "group"]
abbrev p_kin : List Str := ["yard"]
theorem sc_kin : FnScope n_kin p_kin (defScope s_kin) := ⟨rfl, rfl, rfl, by decide +kernel, rfl, by decide +kernel, by decide +kernel⟩
abbrev s_law_box : Stmt := topS 25
abbrev n_law_box : List Str := ["_law_script", "_law_mixed", "_law_cell"]
abbrev p_law_box : List Str := ["_law_script"]
theorem sc_law_box : FnScope n_law_box p_law_box (defScope s_law_box) := ⟨rfl, rfl, rfl, by decide +kernel, rfl, by decide +kernel, by decide +kernel⟩
abbrev s_law_take : Stmt := topS 26
abbrev n_law_take : List Str := ["_law_box_here", "_law_many", "_law_number"]
abbrev p_law_take : List Str := ["_law_box_here", "_law_many"]
theorem sc_law_take : FnScope n_law_take p_law_take (defScope s_law_take) := ⟨rfl, rfl, rfl, by decide +kernel, rfl, by decide +kernel, by decide +kernel⟩
abbrev s_law_yard : Stmt := topS 28
abbrev n_law_yard : List Str := ["_law_box_here", "_law_most", "_law_many", "_law_marks", "_law_kinds_here", "_law_ties", "_law_one", "_law_other", "_law_kind_here", "_law_place"]
abbrev p_law_yard : List Str := ["_law_box_here", "_law_most"]
theorem sc_law_yard : FnScope n_law_yard p_law_yard (defScope s_law_yard) := ⟨rfl, rfl, rfl, by decide +kernel, rfl, by decide +kernel, by decide +kernel⟩
abbrev s_law_even : Stmt := topS 29
abbrev n_law_even : List Str := ["_law_box_here", "_law_many", "_law_gaps", "_law_ties", "_law_one", "_law_other", "_law_k"]
abbrev p_law_even : List Str := ["_law_box_here"]
theorem sc_law_even : FnScope n_law_even p_law_even (defScope s_law_even) := ⟨rfl, rfl, rfl, by decide +kernel, rfl, by decide +kernel, by decide +kernel⟩
abbrev s_law_drawn : Stmt := topS 30
abbrev n_law_drawn : List Str := ["_law_box_here", "_law_most", "_law_rows"]
abbrev p_law_drawn : List Str := ["_law_box_here", "_law_most"]
theorem sc_law_drawn : FnScope n_law_drawn p_law_drawn (defScope s_law_drawn) := ⟨rfl, rfl, rfl, by decide +kernel, rfl, by decide +kernel, by decide +kernel⟩
abbrev s_law_names : Stmt := topS 31
abbrev n_law_names : List Str := ["_law_box_here", "_law_many", "_law_left", "_law_names_here", "_law_place"]
abbrev p_law_names : List Str := ["_law_box_here", "_law_many"]
theorem sc_law_names : FnScope n_law_names p_law_names (defScope s_law_names) := ⟨rfl, rfl, rfl, by decide +kernel, rfl, by decide +kernel, by decide +kernel⟩
abbrev s_law_renamed : Stmt := topS 32
abbrev n_law_renamed : List Str := ["_law_rows", "_law_names_here", "_law_marks", "_law_place", "_law_ties", "_law_one", "_law_other", "_law_kind_here", "_law_ends"]
abbrev p_law_renamed : List Str := ["_law_rows", "_law_names_here"]
theorem sc_law_renamed : FnScope n_law_renamed p_law_renamed (defScope s_law_renamed) := ⟨rfl, rfl, rfl, by decide +kernel, rfl, by decide +kernel, by decide +kernel⟩
abbrev s_law_kind : Stmt := topS 33
abbrev n_law_kind : List Str := ["_law_rows", "_law_one", "_law_other", "_law_tie"]
abbrev p_law_kind : List Str := ["_law_rows", "_law_one", "_law_other"]
theorem sc_law_kind : FnScope n_law_kind p_law_kind (defScope s_law_kind) := ⟨rfl, rfl, rfl, by decide +kernel, rfl, by decide +kernel, by decide +kernel⟩
abbrev s_law_kinds : Stmt := topS 34
abbrev n_law_kinds : List Str := ["_law_rows", "_law_many", "_law_found", "_law_one", "_law_other"]
abbrev p_law_kinds : List Str := ["_law_rows"]
theorem sc_law_kinds : FnScope n_law_kinds p_law_kinds (defScope s_law_kinds) := ⟨rfl, rfl, rfl, by decide +kernel, rfl, by decide +kernel, by decide +kernel⟩
abbrev s_law_all : Stmt := topS 35
abbrev n_law_all : List Str := ["_law_one", "_law_other", "_law_given", "_law_mine", "_law_theirs", "_law_found", "_law_place", "_law_longer", "_law_names_here", "_law_some", "_law_name", "_law_good", "_law_k"]
abbrev p_law_all : List Str := ["_law_one", "_law_other", "_law_given"]
theorem sc_law_all : FnScope n_law_all p_law_all (defScope s_law_all) := ⟨rfl, rfl, rfl, by decide +kernel, rfl, by decide +kernel, by decide +kernel⟩
abbrev s_law : Stmt := topS 36
abbrev n_law : List Str := ["_law_script", "_law_box_here", "_law_rows", "_law_names_here", "_law_other", "_law_yard_here", "_law_mine", "_law_theirs", "_law_k", "_law_place", "_law_last", "_law_group", "_law_turn"]
abbrev p_law : List Str := ["_law_script"]
theorem sc_law : FnScope n_law p_law (defScope s_law) := ⟨rfl, rfl, rfl, by decide +kernel, rfl, by decide +kernel, by decide +kernel⟩
/-- what the walk asks of the text's names as the top has left them -/
structure Txt (K : PySem.W.Frag) (mg : Str → Option Value) (C : Addr) : Prop where
  int : mg "int" = none
  len : mg "len" = none
  list : mg "list" = none
  max : mg "max" = none
  min : mg "min" = none
  range : mg "range" = none
  set : mg "set" = none
  sorted : mg "sorted" = none
  tuple : mg "tuple" = none
  cY : Cls K C
  n_marked : NoAttr K C "marked"
  n_kinds : NoAttr K C "kinds"
  mg_Yard : mg "Yard" = some (.ref C)
  mkY : PySem.W.makesIn K C = true
  kpY : PySem.W.keepIn K (.ref C) = true
  mg_MOST_PLACES : ∃ tk, mg "MOST_PLACES" = some (.int 7 tk)
  mg_MOST_NUMBER : ∃ tk, mg "MOST_NUMBER" = some (.int 9 tk)
  d_numbered : Dfn K mg "numbered" s_numbered p_numbered
  d_looks_of : Dfn K mg "looks_of" s_looks_of p_looks_of
  d_rounds : Dfn K mg "rounds" s_rounds p_rounds
  d_shades : Dfn K mg "shades" s_shades p_shades
  d_must_be : Dfn K mg "must_be" s_must_be p_must_be
  d_Yard_init : Mfn K C "__init__" "Yard.__init__" s_Yard_init p_Yard_init
  d_Yard_many : Mfn K C "many" "Yard.many" s_Yard_many p_Yard_many
  d_Yard_marks : Mfn K C "marks" "Yard.marks" s_Yard_marks p_Yard_marks
  d_Yard_ties : Mfn K C "ties" "Yard.ties" s_Yard_ties p_Yard_ties
  d_Yard_need_place : Mfn K C "need_place" "Yard.need_place" s_Yard_need_place p_Yard_need_place
  d_clash : Dfn K mg "clash" s_clash p_clash
  d_first : Dfn K mg "first" s_first p_first
  d_led_on : Dfn K mg "led_on" s_led_on p_led_on
  d_cases : Dfn K mg "cases" s_cases p_cases
  d_moved_ahead : Dfn K mg "moved_ahead" s_moved_ahead p_moved_ahead
  d_lead : Dfn K mg "lead" s_lead p_lead
  d_kin : Dfn K mg "kin" s_kin p_kin
  d_law_box : Dfn K mg "_law_box" s_law_box p_law_box
  d_law_take : Dfn K mg "_law_take" s_law_take p_law_take
  d_law_yard : Dfn K mg "_law_yard" s_law_yard p_law_yard
  d_law_even : Dfn K mg "_law_even" s_law_even p_law_even
  d_law_drawn : Dfn K mg "_law_drawn" s_law_drawn p_law_drawn
  d_law_names : Dfn K mg "_law_names" s_law_names p_law_names
  d_law_renamed : Dfn K mg "_law_renamed" s_law_renamed p_law_renamed
  d_law_kind : Dfn K mg "_law_kind" s_law_kind p_law_kind
  d_law_kinds : Dfn K mg "_law_kinds" s_law_kinds p_law_kinds
  d_law_all : Dfn K mg "_law_all" s_law_all p_law_all
  d_law : Dfn K mg "law" s_law p_law

local macro_rules | `(tactic| walk_at "wp") => `(tactic| (try simp only [e_startA, List.length_cons, List.length_nil, List.replicate, List.cons_append, List.nil_append, List.append_nil, Nat.reduceAdd, Nat.reduceSub, List.set_cons_zero, List.set_cons_succ, List.getElem?_cons_zero, List.getElem?_cons_succ, optK_some, ownK_own, nameK_own, nameK_d, nameK_yard, nameK_box, nameK_raw, nameK_k, frK_k, frK_fr, fzK_fr, fzK_yard, fzK_box, fzK_raw, fzK_k, e_unfr, unfrA_un, unfrA_d, unfrA_own, unfrA_yard, unfrA_box, unfrA_raw, unfrA_k, unfrA_fr, ixA_kt, ixA_kl, lenA_k, listA_k, kA_i, kA_l, kA_t, e_callF, frR_d, frR_o, frOk_y, frOk_i, List.all_cons, List.all_nil, Bool.and_self, e_name, blK_bl, intK_int, ydK_y, frK_d, frK_own, frK_yard, frK_raw, frK_box, rtK_d, rtK_own, rtK_bor, rtK_yard, lsK_d, lsK_own, tpK_d, fzK_own, fzK_d, fzK_un, e_next, e_do, e_doT, e_seq, e_break, e_cont, e_drop, e_ret, e_retN, e_if, e_set, e_fz, e_app, e_put, e_clear, e_popSet, e_appPop, e_ext, e_for, e_while, e_asg, e_gN, e_gT, e_gNil, e_gCons, e_c, e_op, e_un, e_test, e_and, e_or, e_not, e_andV, e_orV, e_notV, e_ifE, e_nil, e_cons, e_tup, e_lst, e_cb, e_chain, e_marked, e_kinds, e_meth, e_make, e_call, e_lc, e_wipe0, e_wipe, e_yes, e_range1, e_range2, e_list, e_tupI, e_enum, e_rev, e_noPart, e_part, e_sl, e_lstRg, e_rg1, e_rg2, e_borT, e_bor, addA_int, addA_str, addA_tup, addA_dd, addA_do, addA_od, addA_oo, addA_bo, addA_ob, subA_int, mulA_int, mulA_own, fdivA_int, modA_int, negA_int, cmpA_int, eqA_int, eqA_str, neA_int, neA_str, eqA_dd, eqA_tt, eqA_do, eqA_od, eqA_oo, eqA_bo, eqA_ob, eqA_bd, eqA_db, eqA_bb, neA_dd, neA_tt, neA_do, neA_od, neA_oo, neA_bo, neA_ob, neA_bd, neA_db, neA_bb, isA_n, notA_n, isN_none, isN_int, isN_str, isN_bool, isN_list, isN_tup, isN_own, isN_bor, inA_dd, inA_do, inA_db, inA_od, inA_bd, inA_bb, inA_tup, ixA_d, ixA_t, ixA_o, ixA_b, slA_d, slA_o, slA_b, slA_t, lenA_d, lenA_t, lenA_o, lenA_b, lenA_s, listA_d, listA_t, listA_o, listA_b, tupleA_d, tupleA_t, tupleA_o, tupleA_b, intA_i, intA_b, minA_i, maxA_i, sortA_d, sortA_o, sortA_b, eqA_bl, neA_bl, isBA_bl, e_clrIx, clrK_fr, isi_nonetype_bool, isi_nonetype_int, isi_nonetype_str, isi_nonetype_tuple, isi_nonetype_list, isi_bool_bool, isi_bool_int, isi_bool_str, isi_bool_tuple, isi_bool_list, isi_int_bool, isi_int_int, isi_int_str, isi_int_tuple, isi_int_list, isi_str_bool, isi_str_int, isi_str_str, isi_str_tuple, isi_str_list, isi_list_bool, isi_list_int, isi_list_str, isi_list_tuple, isi_list_list, isi_tuple_bool, isi_tuple_int, isi_tuple_str, isi_tuple_tuple, isi_tuple_list, sortTA_d, sortTA_o, sortTA_b, toD_d, toD_o, consO_s, allD_nil, allD_cons, fzs_nil, fzs_cons, fz_d, fz_o, fz_y, fz_x, fz_r, scal_i, scal_b, scal_n, scal_s, List.length_map, List.length_range, List.map_cons, List.map_nil, Int.toNat_natCast, rgD_length]))
local macro_rules | `(tactic| walk_at "wy") => `(tactic| (try simp only [w_mark_tie, w_mark_cases, w_mark_many, w_mark_none, w_mark_renaming, w_mark_apart, w_mark_turn, w_tie_mark, w_tie_cases, w_tie_many, w_tie_none, w_tie_renaming, w_tie_apart, w_tie_turn, w_cases_mark, w_cases_tie, w_cases_many, w_cases_none, w_cases_renaming, w_cases_apart, w_cases_turn, w_many_mark, w_many_tie, w_many_cases, w_many_none, w_many_renaming, w_many_apart, w_many_turn, w_none_mark, w_none_tie, w_none_cases, w_none_many, w_none_renaming, w_none_apart, w_none_turn, w_renaming_mark, w_renaming_tie, w_renaming_cases, w_renaming_many, w_renaming_none, w_renaming_apart, w_renaming_turn, w_apart_mark, w_apart_tie, w_apart_cases, w_apart_many, w_apart_none, w_apart_renaming, w_apart_turn, w_turn_mark, w_turn_tie, w_turn_cases, w_turn_many, w_turn_none, w_turn_renaming, w_turn_apart, decide_true, decide_false, Bool.false_eq_true, Bool.true_eq_false, reduceCtorEq, false_implies, true_implies, and_true, true_and, Bool.not_false, Bool.not_true, Bool.true_and, Bool.and_true, Bool.false_and, Bool.and_false, Bool.or_true, Bool.true_or, Bool.false_or, Bool.or_false, if_true, if_false]))
local macro_rules | `(tactic| walk_at "wx") => `(tactic| ((walk_at "wp"); (walk_at "wy"); (walk_at "wp"); (walk_at "wy"); (walk_at "wp"); (walk_at "wy")))
local macro_rules | `(tactic| walk_at "wk") => `(tactic| ((walk_at "wp"); (try simp only [dctK_d, datK_d, frK_dct, unfrA_dct, e_dnew, e_dnin, e_dget, e_dsort, e_dput, frlK_l, e_clr2]); (walk_at "wp"); (try simp only [dctK_d, datK_d, frK_dct, unfrA_dct, e_dnew, e_dnin, e_dget, e_dsort, e_dput, frlK_l, e_clr2]); (walk_at "wp"); (try simp only [dctK_d, datK_d, frK_dct, unfrA_dct, e_dnew, e_dnin, e_dget, e_dsort, e_dput, frlK_l, e_clr2]); (walk_at "wp")))
local macro_rules | `(tactic| walk_at "wt") => `(tactic| ((walk_at "wp"); (try simp only [strK_s, e_m1, splitA_s, joinA_o, joinA_d, joinA_b, tostrA_i, intSA_s, ninSA_s, leTA_t, e_lrev, lrK_o, lrK_d, lrK_b]); (walk_at "wp"); (try simp only [strK_s, e_m1, splitA_s, joinA_o, joinA_d, joinA_b, tostrA_i, intSA_s, ninSA_s, leTA_t, e_lrev, lrK_o, lrK_d, lrK_b]); (walk_at "wp"); (try simp only [strK_s, e_m1, splitA_s, joinA_o, joinA_d, joinA_b, tostrA_i, intSA_s, ninSA_s, leTA_t, e_lrev, lrK_o, lrK_d, lrK_b]); (walk_at "wp")))
variable {P : Program} {w : World} {K : PySem.W.Frag} {mg : Str → Option Value} {base : Heap} {C : Addr}

/-! ### ties, as a list -/
abbrev Tie := Nat × Nat × Int
abbrev tieD (t : Tie) : PyData := .tuple [nI t.1, nI t.2.1, .int t.2.2]
/-- the ties of place i to later ones, up to (not with) i + 1 + t -/
def rowT (k : Nat → Nat → Int) (i t : Nat) : List Tie := (List.range' (i + 1) t).filterMap fun j => if 0 < k i j then some (i, j, k i j) else none
def tiesOf (k : Nat → Nat → Int) (n i : Nat) : List Tie := (List.range i).flatMap fun a => rowT k a (n - (a + 1))
def Y.ties (y : Y) : List Tie := tiesOf y.k y.n y.n
abbrev rowsD (y : Y) : PyData := .tuple [.list (y.ml.map PyData.int), .list (y.ties.map tieD)]
structure Y.Ok (y : Y) : Prop where
  n1 : 1 ≤ y.n
  n7 : y.n ≤ 7
  m0 : ∀ i, i < y.n → 0 ≤ y.m i ∧ y.m i ≤ 9
  sy : ∀ i j, y.k i j = y.k j i
  dg : ∀ i, y.k i i = 0
  k0 : ∀ i j, 0 ≤ y.k i j ∧ y.k i j ≤ 9
theorem rowT_succ (k : Nat → Nat → Int) (i t : Nat) : rowT k i (t + 1) = rowT k i t ++ (if 0 < k i (i + 1 + t) then [(i, i + 1 + t, k i (i + 1 + t))] else []) := by
  unfold rowT
  rw [List.range'_concat, List.filterMap_append]
  simp only [Nat.one_mul]
  congr 1
  by_cases h : 0 < k i (i + 1 + t) <;> simp [h]
theorem tiesOf_succ (k : Nat → Nat → Int) (n i : Nat) : tiesOf k n (i + 1) = tiesOf k n i ++ rowT k i (n - (i + 1)) := by
  unfold tiesOf
  rw [List.range_succ, List.flatMap_append]
  simp
theorem rowT_length (k : Nat → Nat → Int) (i t : Nat) : (rowT k i t).length ≤ t := by
  unfold rowT
  exact Nat.le_trans (List.length_filterMap_le _ _) (by simp)
theorem tiesOf_length (k : Nat → Nat → Int) (n : Nat) : ∀ i, (tiesOf k n i).length ≤ i * n
  | 0 => by simp [tiesOf]
  | i + 1 => by
    rw [tiesOf_succ, List.length_append, Nat.succ_mul]
    have h1 := tiesOf_length k n i
    have h2 := rowT_length k i (n - (i + 1))
    omega
theorem mem_rowT {k : Nat → Nat → Int} {i t : Nat} {x : Tie} : x ∈ rowT k i t ↔ x.1 = i ∧ i < x.2.1 ∧ x.2.1 < i + 1 + t ∧ x.2.2 = k x.1 x.2.1 ∧ 0 < x.2.2 := by
  obtain ⟨a, b, c⟩ := x
  unfold rowT
  simp only [List.mem_filterMap, List.mem_range'_1]
  constructor
  · rintro ⟨j, hj, e⟩
    split at e
    · rename_i h
      obtain ⟨rfl, rfl, rfl⟩ : i = a ∧ j = b ∧ k i j = c := by simpa using e
      exact ⟨rfl, by omega, by omega, rfl, h⟩
    · cases e
  · rintro ⟨rfl, h1, h2, h3, h4⟩
    subst h3
    exact ⟨b, by omega, by simp [h4]⟩
theorem mem_tiesOf {k : Nat → Nat → Int} {n i : Nat} {x : Tie} : x ∈ tiesOf k n i ↔ x.1 < i ∧ x.1 < x.2.1 ∧ x.2.1 < n ∧ x.2.2 = k x.1 x.2.1 ∧ 0 < x.2.2 := by
  unfold tiesOf
  simp only [List.mem_flatMap, List.mem_range, mem_rowT]
  constructor
  · rintro ⟨a, ha, rfl, h1, h2, h3, h4⟩
    exact ⟨ha, h1, by omega, h3, h4⟩
  · rintro ⟨h0, h1, h2, h3, h4⟩
    exact ⟨x.1, h0, rfl, h1, by omega, h3, h4⟩
theorem fm_congr {α β : Type} {f g : α → Option β} : ∀ {l : List α}, (∀ x ∈ l, f x = g x) → l.filterMap f = l.filterMap g
  | [], _ => rfl
  | x :: l, h => by
    rw [List.filterMap_cons, List.filterMap_cons, h x List.mem_cons_self, fm_congr fun y hy => h y (List.mem_cons_of_mem _ hy)]
theorem rowT_congr {k k' : Nat → Nat → Int} {i t : Nat} (h : ∀ j, i < j → j < i + 1 + t → k i j = k' i j) : rowT k i t = rowT k' i t := by
  unfold rowT
  refine fm_congr fun j hj => ?_
  rw [List.mem_range'_1] at hj
  rw [h j (by omega) (by omega)]
theorem tiesOf_congr {k k' : Nat → Nat → Int} {n i : Nat} (h : ∀ a j, a < i → a < j → j < n → k a j = k' a j) : tiesOf k n i = tiesOf k' n i := by
  unfold tiesOf
  rw [List.flatMap_def, List.flatMap_def]
  congr 1
  apply List.map_congr_left
  intro a ha
  rw [List.mem_range] at ha
  exact rowT_congr fun j h1 h2 => h a j ha h1 (by omega)
theorem sz_of {n : Nat} (h : n ≤ 100000) : n ≤ sizeLine := Nat.le_trans h (by decide)
theorem sz_lt {n : Nat} (h : n < 100000) : n < sizeLine := Nat.lt_of_lt_of_le h (by decide)
theorem rgD1_get {lo n i : Nat} {d : PyData} (h : (rgD ((lo : Nat) : Int) n)[i]? = some d) : i < n ∧ d = nI (lo + i) := by
  obtain ⟨h1, h2⟩ := rgD_get h
  exact ⟨h1, by rw [h2]; congr 1⟩

/-! ### the box of draws -/
theorem Stp.boxed {R F H H' : Hp} {b l : Addr} (gr : Same R H) (nG : bDj ⟨some (b, l), R⟩) (fh : Same F H) (fb : ∀ a, isBox ⟨some (b, l), R⟩ a → F a = none) (hk : ∀ a o, H a = some o → a ≠ b → a ≠ l → H' a = some o) (bx : BoxAt H' b l) : Stp ⟨some (b, l), R⟩ F H F H' := by
  have d1 : R b = none := nG.1
  have d2 : R l = none := nG.2
  refine ⟨Same.refl _, fun a o e => hk a o (fh a o e) (fun z => ?_) (fun z => ?_), ⟨bx, fun a o e => hk a o (gr a o e) (fun z => ?_) (fun z => ?_), nG⟩, fun a o e n => hk a o e (fun z => n (.inl (.inl z))) fun z => n (.inl (.inr z)), fun a h => .inl h, fb⟩
  · rw [fb a (.inl (.inl z))] at e; cases e
  · rw [fb a (.inl (.inr z))] at e; cases e
  · have e : R a = some o := e
    rw [z, d1] at e; cases e
  · have e : R a = some o := e
    rw [z, d2] at e; cases e
def spTake : Spc := fun as Q => ∃ n : Nat, as = [.box, .d (nI n)] ∧ 0 < n ∧ n ≤ 100000 ∧ ∀ k : Nat, k < n → Q (.d (nI k))
theorem dp_ints {K : PySem.W.Frag} {H : Hp} {l : Addr} (ns : List Int) (h : H l = some (.lst (ns.map V.int))) : Dp K H (.ref l) (.list (ns.map PyData.int)) := .lst (SqL.of h) (RpL.dp (Same.refl H) _ _ (RpL.ints ns))
theorem dp_nil {K : PySem.W.Frag} {H : Hp} {l : Addr} (h : H l = some (.lst [])) : Dp K H (.ref l) (.list []) := .lst (SqL.of h) .nil
theorem shaped_ints' (ns : List Int) : SeqAt.shaped (.list (ns.map PyData.int)) = true := by
  have h1 : PyData.canLayAll0 (ns.map PyData.int) = true := by
    induction ns with
    | nil => simp [PyData.canLayAll0]
    | cons a l ih => simp only [List.map_cons, PyData.canLayAll0, ih, PyData.canLay0, Bool.and_self]
  have h2 : PyData.depthAll (ns.map PyData.int) ≤ 1 := by
    clear h1
    induction ns with
    | nil => simp [PyData.depthAll]
    | cons a l ih => simp only [List.map_cons, PyData.depthAll, PyData.depth]; omega
  show (PyData.canLay0 (.list (ns.map PyData.int)) && decide (PyData.depth (.list (ns.map PyData.int)) ≤ 64)) = true
  rw [Bool.and_eq_true]
  refine ⟨by simp only [PyData.canLay0]; exact h1, decide_eq_true ?_⟩
  simp only [PyData.depth]
  omega
theorem rp_nat {F : Hp} {z : Int} (h : 0 ≤ z) : Rp F (.int z) (nI z.toNat) := by
  obtain ⟨j, rfl⟩ : ∃ j : Nat, z = (j : Int) := ⟨z.toNat, by omega⟩
  simpa using Rp.int (F := F) (j : Int)
theorem ixN_nat {n j : Nat} (h : j < n) : ixN n (j : Int) = some j := by
  unfold ixN
  rw [if_pos (by omega), if_pos (by omega)]
  simp
theorem eqv_nil (ns : List Int) : PyData.eqv (.list (ns.map PyData.int)) (.list []) = ns.isEmpty := by
  cases ns <;> simp [PyData.eqv, PyData.eqvAll]
theorem c_law_take (T : Txt K mg C) : Cal P w K mg base C "_law_take" 1 spTake := by
  obtain ⟨f, fd, F, hm, bd⟩ := T.d_law_take
  refine ⟨f, fd, p_law_take, F.ok sc_law_take (fun vs H Q E h => spA_len (fun as P h => by obtain ⟨_, rfl, _⟩ := h; rfl) h) (fun cdv A outer s H vs Q E hr h => ?_), hm, F.kp, bd⟩
  obtain ⟨G, F0, as, P0, fh, gi, bx, ar, ⟨n, rfl, n0, nb, hP⟩, k⟩ := h
  cases ar with
  | cons r1 t =>
  cases t with
  | cons r2 t =>
  cases t
  obtain ⟨b, l, hG, rfl⟩ := r1
  cases (show Rp F0 _ (.int _) from r2)
  obtain ⟨Gb, R⟩ := G
  have hG : Gb = some (b, l) := hG
  subst hG
  obtain ⟨⟨ne, ns, m, hb, hl, hz, m0, m1⟩, gr, nG⟩ := gi
  have hu := room64 hr
  have n0' : (0 : Int) < (n : Int) := by omega
  have nd : CDiv (5 : Int) (n : Int) := ⟨n0', by omega⟩
  refine ⟨_, pss_cons (ps_if (pt_cmpR (op_eqD hu) (pe_ix ix_list (pv 0) pe_int (fun _ _ => rfl)) (pe_lst pa_nil) (nomark _))
      (pss_cons (ps_asg (pe_op op_mod (pe_op op_mul (pe_ix ix_list (pv 0) pe_int (fun _ _ => rfl)) pe_int) pe_int) (pg_sub (pv 0) pe_int set_list))
        (pss_one (ps_ret (pe_op op_mod (pe_op op_fdiv (pe_ix ix_list (pv 0) pe_int (fun _ _ => rfl)) pe_int) (pv 1))))) pss_nil)
    (pss_cons (ps_set (i := 2) sc_law_take.nd rfl (Or.inl rfl) (pe_ix ix_list (pe_ix ix_list (pv 0) pe_int (fun _ _ => rfl)) pe_int (fun _ _ => rfl)))
    (pss_cons (ps_asg (pe_op op_fdiv (pv 2) (pv 1)) (pg_sub (pe_ix ix_list (pv 0) pe_int (fun _ _ => rfl)) pe_int set_list))
    (pss_cons (ps_if (PW.pt (pw_or (pt_cmpR op_eq (pe_ix ix_list (pe_ix ix_list (pv 0) pe_int (fun _ _ => rfl)) pe_int (fun _ _ => rfl)) pe_int (nomark _))
        (pw_or1 (pt_cmpR op_eq (pe_ix ix_list (pe_ix ix_list (pv 0) pe_int (fun _ _ => rfl)) pe_int (fun _ _ => rfl)) (pe_un un_neg pe_int) (nomark _)))))
      (pss_one (ps_expr (pe_bm PySem.F.plainAttrs_list PySem.F.slot_list_pop PySem.F.type_list_pop mt_popAt (pe_ix ix_list (pv 0) pe_int (fun _ _ => rfl)) (pa_cons pe_int pa_nil)))) pss_nil)
    (pss_one (ps_ret (pe_op op_mod (pv 2) (pv 1))))))), ?_⟩
  -- box[0] == []
  refine ⟨_, rfl, b, _, 0, _, rfl, rfl, SqL.of hb, atI_nat (j := 0) rfl, by show 0 ≤ sizeLine; exact Nat.zero_le _, fun q hq => ?_⟩
  have nqb : b ≠ q := ne_of_none hb hq
  have nql : l ≠ q := ne_of_none hl hq
  have hb1 : (upd H q (.lst [])) b = some (.lst [.ref l, .int m]) := by rw [upd_ne nqb]; exact hb
  have hl1 : (upd H q (.lst [])) l = some (.lst (ns.map V.int)) := by rw [upd_ne nql]; exact hl
  refine ⟨_, _, dp_ints ns hl1, dp_nil upd_same, shaped_ints' ns, shaped_ints' [], _, rfl, ?_⟩
  rw [eqv_nil]
  have old : ∀ {H' : Hp}, (∀ a o, (upd H q (.lst [])) a = some o → a ≠ b → a ≠ l → H' a = some o) → ∀ a o, H a = some o → a ≠ b → a ≠ l → H' a = some o := fun {H'} z a o e n1 n2 => z a o (by rw [upd_ne (ne_of_none e hq)]; exact e) n1 n2
  cases ns with
  | nil =>
    refine iteT ?_
    have m' : (0 : Int) ≤ m * 48271 % 2147483647 := Int.emod_nonneg _ (by decide)
    have m2 : m * 48271 % 2147483647 < 2147483647 := Int.emod_lt_of_pos _ (by decide)
    refine ⟨_, rfl, b, _, 1, _, rfl, rfl, SqL.of hb1, atI_nat (j := 1) rfl, _, _, rfl, rfl, .inr ⟨by decide, by decide⟩, _, _, rfl, rfl, (by show (0 : Int) < 2147483647; decide), ?_⟩
    refine ⟨_, rfl, b, _, 1, 1, rfl, rfl, hb1, rfl, ?_⟩
    refine ⟨_, rfl, b, _, 1, _, rfl, rfl, SqL.of upd_same, atI_nat (j := 1) rfl, _, _, rfl, rfl, ⟨by decide, by decide⟩, _, rfl, _, _, rfl, rfl, n0', ?_⟩
    have hr0 := Int.emod_nonneg (m * 48271 % 2147483647 / 7) (show (n : Int) ≠ 0 by omega)
    have hr1 := Int.emod_lt_of_pos (m * 48271 % 2147483647 / 7) n0'
    refine k F0 _ _ (.d (nI _)) (Stp.boxed gr nG fh bx (old fun a o e n1 n2 => by rw [upd_ne n1]; exact e) ⟨ne, [], _, upd_same, by rw [upd_ne ne.symm]; exact hl1, Nat.zero_le _, m', m2⟩) (rp_nat hr0) (hP (m * 48271 % 2147483647 / 7 % (n : Int)).toNat (by omega))
  | cons x r =>
    refine iteF ?_
    refine ⟨_, rfl, b, _, 0, _, rfl, rfl, SqL.of hb1, atI_nat (j := 0) rfl, _, _, 0, _, rfl, rfl, SqL.of hl1, atI_nat (j := 0) rfl, ?_⟩
    refine ⟨_, rfl, _, rfl, _, _, rfl, rfl, ⟨n0', by omega⟩, ?_⟩
    refine ⟨_, rfl, b, _, 0, _, rfl, rfl, SqL.of hb1, atI_nat (j := 0) rfl, _, _, 0, 0, rfl, rfl, hl1, ixN_nat (j := 0) (by simp), ?_⟩
    have z1 : (r.length + 1) ≤ 1000 := hz
    have e2 : (((x :: r).map V.int).set 0 (.int (x / (n : Int)))) = ((x / (n : Int)) :: r).map V.int := rfl
    show tSeq _ _ _ _ (upd (upd H q (.lst [])) l (.lst (((x :: r).map V.int).set 0 (.int (x / (n : Int))))))
    rw [e2]
    have hb2 : (upd (upd H q (.lst [])) l (.lst (((x / (n : Int)) :: r).map V.int))) b = some (.lst [.ref l, .int m]) := by rw [upd_ne ne]; exact hb1
    have hl2 : (upd (upd H q (.lst [])) l (.lst (((x / (n : Int)) :: r).map V.int))) l = some (.lst (((x / (n : Int)) :: r).map V.int)) := upd_same
    have k2 : ∀ a o, (upd H q (.lst [])) a = some o → a ≠ b → a ≠ l → (upd (upd H q (.lst [])) l (.lst (((x / (n : Int)) :: r).map V.int))) a = some o := fun a o e _ n2 => by rw [upd_ne n2]; exact e
    generalize (upd (upd H q (.lst [])) l (.lst (((x / (n : Int)) :: r).map V.int))) = H2 at hb2 hl2 k2 ⊢
    have fin : ∀ (ys : List Int) (H' : Hp), H' b = some (.lst [.ref l, .int m]) → H' l = some (.lst (ys.map V.int)) → ys.length ≤ 1000 → (∀ a o, (upd H q (.lst [])) a = some o → a ≠ b → a ≠ l → H' a = some o) → Q (.int (x % (n : Int))) H' := fun ys H' g1 g2 g3 g4 => by
      have hr0 := Int.emod_nonneg x (show (n : Int) ≠ 0 by omega)
      have hr1 := Int.emod_lt_of_pos x n0'
      exact k F0 _ _ (.d (nI _)) (Stp.boxed gr nG fh bx (old g4) ⟨ne, ys, m, g1, g2, g3, m0, m1⟩) (rp_nat hr0) (hP (x % (n : Int)).toNat (by omega))
    have sx : seqIndex? 0 (((x / (n : Int)) :: r).map V.int).length = some 0 := seqIx (Int.le_refl 0) (by simp)
    have popt : Q (.int (x % (n : Int))) (upd H2 l (.lst ((((x / (n : Int)) :: r).map V.int).eraseIdx 0))) := by
      refine fin r _ (by rw [upd_ne ne]; exact hb2) (by rw [upd_same]; rfl) (by omega) fun a o e n1 n2 => ?_
      rw [upd_ne n2]
      exact k2 a o e n1 n2
    refine ⟨_, rfl, b, _, 0, _, rfl, rfl, SqL.of hb2, atI_nat (j := 0) rfl, _, _, 0, _, rfl, rfl, SqL.of hl2, atI_nat (j := 0) rfl, rfl, _, rfl, ?_⟩
    refine ite2 (fun _ => iteT ?_) fun _ => ?_
    · exact ⟨_, rfl, b, _, 0, _, rfl, rfl, SqL.of hb2, atI_nat (j := 0) rfl, ty_list hl2, l, _, 0, 0, _, rfl, rfl, hl2, by decide, by decide, sx, rfl, _, rfl, _, rfl, _, _, rfl, rfl, n0', popt⟩
    · refine ⟨_, rfl, b, _, 0, _, rfl, rfl, SqL.of hb2, atI_nat (j := 0) rfl, _, _, 0, _, rfl, rfl, SqL.of hl2, atI_nat (j := 0) rfl, _, rfl, rfl, _, rfl, ?_⟩
      refine ite2 (fun _ => ?_) fun _ => ?_
      · exact ⟨_, rfl, b, _, 0, _, rfl, rfl, SqL.of hb2, atI_nat (j := 0) rfl, ty_list hl2, l, _, 0, 0, _, rfl, rfl, hl2, by decide, by decide, sx, rfl, _, rfl, _, rfl, _, _, rfl, rfl, n0', popt⟩
      · exact ⟨_, rfl, _, rfl, _, _, rfl, rfl, n0', fin _ H2 hb2 hl2 z1 k2⟩

/-- the box made of the script -/
def spBox (K : PySem.W.Frag) : Sp := fun vs H Q _ => ∃ (a : Addr) (ns : List Int), vs = [.ref a] ∧ SqL K H a (ns.map V.int) ∧ ns.length ≤ 63 ∧ ∀ b l H', H b = none → H l = none → BoxAt H' b l → Same H H' → Q (.ref b) H'
theorem c_law_box (T : Txt K mg C) : ∃ (f : Addr) (fd : FuncData), FnOk P w K mg base CX0 1 f fd p_law_box (spBox K) ∧ mg "_law_box" = some (.ref f) ∧ PySem.W.keepIn K (.ref f) = true ∧ Binds K fd p_law_box [] := by
  obtain ⟨f, fd, F, hm, bd⟩ := T.d_law_box
  refine ⟨f, fd, F.ok sc_law_box (fun vs H Q E h => by obtain ⟨a, ns, rfl, _⟩ := h; rfl) (fun cdv A outer s H vs Q E hr h => ?_), hm, F.kp, bd⟩
  obtain ⟨a, ns, rfl, hS, hz, k⟩ := h
  refine ⟨_, pss_cons (ps_set (i := 1) sc_law_box.nd rfl (Or.inl rfl) pe_int)
    (pss_cons (ps_for PassesOwn.never rfl (pi_list (pv 0)) (pg_name (i := 2) sc_law_box.nd rfl (Or.inl rfl)) (pss_one (ps_set (i := 1) sc_law_box.nd rfl (Or.inl rfl) (pe_op op_mod (pe_op op_add (pe_op op_add (pe_op op_mul (pv 1) pe_int) (pe_op op_mul (pv 2) pe_int)) pe_int) pe_int))))
    (pss_one (ps_ret (pe_lst (pa_cons (pe_callTy call_list_of (by rfl) T.list boot_list' (pa_cons (pv 0) pa_nil)) (pa_cons (pe_op op_mul (pv 1) (pe_callTy call_int1 (by rfl) T.int boot_int' (pa_cons (pe_cmpR op_gt (pe_callB call_len_seq (by rfl) T.len PySem.boot_len (pa_cons (pv 0) pa_nil)) pe_int (nomark _)) pa_nil))) pa_nil)))))), ?_⟩
  refine ⟨_, rfl, a, rfl, ⟨_, hS⟩, for_list (K := K) (a := a) (xs := ns.map V.int) (fun i σ H2 => H2 = H ∧ ∃ (m : Int) (v : Option V), 0 ≤ m ∧ m < 2147483647 ∧ σ = [some (.ref a), some (.int m), v]) ⟨rfl, 0, none, by decide, by decide, rfl⟩ (fun i σ H2 _ h => by rw [h.1]; exact hS) ?_ ?_⟩
  · rintro i x σ H2 hi ⟨rfl, m, v, m0, m1, rfl⟩
    rw [List.getElem?_map] at hi
    obtain ⟨z, _, rfl⟩ := Option.map_eq_some_iff.mp hi
    refine ⟨_, rfl, _, _, rfl, rfl, .inl ⟨by omega, by omega⟩, _, rfl, _, _, rfl, rfl, .inr ⟨by decide, by decide⟩, _, _, rfl, rfl, _, _, rfl, rfl, _, _, rfl, rfl, (by show (0 : Int) < 2147483647; decide), ?_⟩
    exact ⟨rfl, _, _, Int.emod_nonneg _ (by decide), Int.emod_lt_of_pos _ (by decide), rfl⟩
  · rintro σ H2 ⟨rfl, m, v, m0, m1, rfl⟩
    refine ⟨_, rfl, a, _, rfl, .inl hS, fun l hl => ?_⟩
    have sl : Same H2 (upd H2 l (.lst (ns.map V.int))) := fun b o e => by rw [upd_ne (ne_of_none e hl)]; exact e
    refine ⟨_, rfl, _, rfl, a, _, rfl, .inl (sl.seq hS), _, _, rfl, rfl, .inr ⟨_, rfl, ?_⟩⟩
    have hm : ∀ c : Bool, 0 ≤ m * (if c = true then 1 else 0) ∧ m * (if c = true then 1 else 0) < 2147483647 := fun c => by cases c <;> simp <;> omega
    refine ⟨_, _, rfl, rfl, .inl ⟨by omega, by omega⟩, by show 2 ≤ sizeLine; decide, fun b hb => ?_⟩
    have hb2 : H2 b = none := sl.free hb
    have nbl : b ≠ l := fun z => by subst z; rw [upd_same] at hb; cases hb
    exact k b l _ hb2 hl ⟨nbl, ns, _, upd_same, by rw [upd_ne nbl.symm, upd_same], by omega, (hm _).1, (hm _).2⟩ (sl.trans fun c o e => by rw [upd_ne (ne_of_none e hb)]; exact e)
def spLaw (K : PySem.W.Frag) : Sp := fun vs H Q _ => ∃ (a : Addr) (ns : List Int), vs = [.ref a] ∧ SqL K H a (ns.map V.int) ∧ ns.length ≤ 63 ∧ ∀ H', Q (.bl true) H'
/-- behind the law's first row the box stands; the rest of its body over abstract values -/
theorem law_rest {C : Addr} {X : Cx} {rest : List Stmt} {a : Addr} {H : Hp} {Q : VK} {n : Nat} {b l : Addr} {H' : Hp} {t : TS} {wt : WS} (hQ : ∀ H', Q (.bl true) H') (bx : BoxAt H' b l)
    (d : PDSs X ⟨⟨some (b, l), fun _ => none⟩, C, fun _ => none, H'⟩ rest t wt) (hw : wt (.un :: .box :: List.replicate n .un) { nx := fun _ => False, rt := fun r => r = .bl true }) :
    t { nx := fun _ H' => Q .non H', rt := Q } (some (.ref a) :: some (.ref b) :: List.replicate n none) H' := by
  have m : M ⟨⟨some (b, l), fun _ => none⟩, C, fun _ => none, H'⟩ (fun _ => none) (.un :: .box :: List.replicate n .un) (some (.ref a) :: some (.ref b) :: List.replicate n none) H' := by
    refine ⟨Stp.refl (fun _ _ h => nomatch h) ⟨bx, (fun _ _ h => nomatch h), rfl, rfl⟩ (fun _ _ => rfl), ⟨bx, (fun _ _ h => nomatch h), rfl, rfl⟩, by simp, fun i a' o h1 h2 => ?_, fun i j p h1 h2 => ?_, fun i x h1 => ?_⟩
    rotate_left 2
    · match i with
      | 0 => simp at h1
      | 1 => simp at h1
      | i + 2 => simp [List.getElem?_replicate] at h1
    · match i with
      | 0 => simp at h1; subst h1; trivial
      | 1 => simp at h1 h2; subst h1; subst h2; exact ⟨b, l, rfl, rfl⟩
      | i + 2 =>
        simp [List.getElem?_replicate] at h1
        obtain ⟨_, rfl⟩ := h1
        trivial
    · obtain ⟨⟨xs, e⟩, _⟩ := h1
      match i with
      | 0 => simp at e
      | 1 => simp at e
      | i + 2 => simp [List.getElem?_replicate] at e
  refine d.sd _ _ _ _ H' _ m hw ⟨fun _ _ _ _ _ _ z => z.elim, fun F' H2 v r s st q p => ?_, fun _ _ _ _ _ _ z => z.elim, fun _ _ _ _ _ _ z => z.elim⟩
  subst p
  cases (show Rp F' v (.bool true) from q)
  exact hQ H2

/-! ### Yard's reading methods -/
def spMany : Spc := fun as Q => ∃ y : Y, as = [yA y] ∧ Q (.d (nI y.n))
theorem m_many (T : Txt K mg C) : CalM P w K mg base C "many" 1 spMany := by
  refine calM_of T.d_Yard_many T.cY sc_Yard_many (fun as Q h => by obtain ⟨_, rfl, _⟩ := h; rfl) fun f cdv A0 outer s H E hr G F as Q hs => ?_
  obtain ⟨y, rfl, hQ⟩ := hs
  refine ⟨_, _, (pss_oneA (ps_retA (pd_len (K := K) T.len (pda_cons (pd_marked (K := K) T.cY T.n_marked (pd_var 0)) pda_nil)))), ?_⟩
  walk_at "wp"
  simpa using hQ
def spMarks : Spc := fun as Q => ∃ y : Y, as = [yA y] ∧ Q (.own (y.ml.map PyData.int))
theorem m_marks (T : Txt K mg C) : CalM P w K mg base C "marks" 1 spMarks := by
  refine calM_of T.d_Yard_marks T.cY sc_Yard_marks (fun as Q h => by obtain ⟨_, rfl, _⟩ := h; rfl) fun f cdv A0 outer s H E hr G F as Q hs => ?_
  obtain ⟨y, rfl, hQ⟩ := hs
  refine ⟨_, _, (pss_oneA (ps_retA (pd_list (K := K) T.list (pda_cons (pd_marked (K := K) T.cY T.n_marked (pd_var 0)) pda_nil)))), ?_⟩
  walk_at "wp"
  exact ⟨_, rfl, hQ⟩
def spTies : Spc := fun as Q => ∃ y : Y, as = [yA y] ∧ y.n ≤ 7 ∧ Q (.own (y.ties.map tieD))
theorem m_ties (T : Txt K mg C) (m_many : CalM P w K mg base C "many" 1 spMany) : CalM P w K mg base C "ties" 2 spTies := by
  refine calM_of T.d_Yard_ties T.cY sc_Yard_ties (fun as Q h => by obtain ⟨_, rfl, _⟩ := h; rfl) fun f cdv A0 outer s H E hr G F as Q hs => ?_
  obtain ⟨y, rfl, h7, hQ⟩ := hs
  refine ⟨_, _, (pss_consA (ps_setA (i := 1) sc_Yard_ties.nd (pd_lst pda_nil))
  (pss_consA (ps_forA (pi_range1A T.range (pda_cons (pd_meth0 m_many hr (by omega) (pd_var 0)) pda_nil)) (pg_nameA 2 sc_Yard_ties.nd) (pss_oneA (ps_forA (pi_range2A T.range (pda_cons (pd_add (K := K) (pd_var 2) pd_int) (pda_cons (pd_meth0 m_many hr (by omega) (pd_var 0)) pda_nil))) (pg_nameA 3 sc_Yard_ties.nd) (pss_oneA (ps_ifA (pt_gt (pd_ix (K := K) (pd_ix (K := K) (pd_kinds (K := K) T.cY T.n_kinds (pd_var 0)) (pd_var 2)) (pd_var 3)) pd_int) (pss_oneA (ps_appA (pd_var 1) (pd_tup (pda_cons (pd_var 2) (pda_cons (pd_var 3) (pda_cons (pd_ix (K := K) (pd_ix (K := K) (pd_kinds (K := K) T.cY T.n_kinds (pd_var 0)) (pd_var 2)) (pd_var 3)) pda_nil)))))) pss_nilA)) PassesOwn.never)) PassesOwn.never)
  (pss_oneA (ps_retA (pd_var 1))))), ?_⟩
  walk_at "wp"
  refine ⟨by decide, y, rfl, ?_⟩
  walk_at "wp"
  refine ⟨by omega, by omega, fun i ρ => ∃ a b, ρ = [yA y, .own ((tiesOf y.k y.n i).map tieD), a, b], ⟨_, _, rfl⟩, fun i d ρ hd hI => ?_, fun ρ hI => ?_⟩
  · obtain ⟨hi, rfl⟩ := rgD0_get hd
    obtain ⟨a, b, rfl⟩ := hI
    walk_at "wp"
    refine ⟨y, rfl, ?_⟩
    walk_at "wp"
    refine ⟨by omega, fun t ρ => ∃ b, ρ = [yA y, .own ((tiesOf y.k y.n i ++ rowT y.k i t).map tieD), .d (nI i), b], ⟨b, by simp [rowT]⟩, fun t d ρ hd hI => ?_, fun ρ hI => ?_⟩
    · have e1 : ((i : Int) + 1) = ((i + 1 : Nat) : Int) := by omega
      have e2 : ((y.n : Int) - ((i : Int) + 1)).toNat = y.n - (i + 1) := by omega
      rw [e1, show ((y.n : Int) - ((i + 1 : Nat) : Int)).toNat = y.n - (i + 1) by omega] at hd
      obtain ⟨ht, rfl⟩ := rgD1_get hd
      obtain ⟨b, rfl⟩ := hI
      walk_at "wp"
      have hj : i + 1 + t < y.n := by omega
      refine ⟨_, at_kinds y hi, ?_⟩
      walk_at "wp"
      refine ⟨_, at_kind y hj, ?_⟩
      walk_at "wp"
      refine ⟨fun h => ⟨_, at_kinds y hi, ?_⟩, fun h => ?_⟩
      · walk_at "wp"
        refine ⟨_, at_kind y hj, ?_⟩
        walk_at "wp"
        refine ⟨by decide, ?_, ?_⟩
        · have h1 := tiesOf_length y.k y.n i
          have h2 := rowT_length y.k i t
          have h3 : i * y.n ≤ 7 * 7 := Nat.mul_le_mul (by omega) h7
          apply sz_lt
          rw [List.length_append]
          omega
        · rw [rowT_succ, if_pos (of_decide_eq_true h)]
          simp only [List.map_append, List.append_assoc, List.map_cons, List.map_nil]
          exact ⟨_, rfl⟩
      · rw [rowT_succ, if_neg (of_decide_eq_false h), List.append_nil]
        exact ⟨_, rfl⟩
    · obtain ⟨b, rfl⟩ := hI
      rw [show ((y.n : Int) - ((i : Int) + 1)).toNat = y.n - (i + 1) by omega, ← tiesOf_succ]
      exact ⟨_, _, rfl⟩
  · obtain ⟨a, b, rfl⟩ := hI
    walk_at "wp"
    exact hQ

/-! ### a yard is made -/
def kmt (t : Tie) (a b : Nat) : Bool := (t.1 == a && t.2.1 == b) || (t.1 == b && t.2.1 == a)
def kOf (ts : List Tie) (a b : Nat) : Int := match ts.find? fun t => kmt t a b with
  | some t => t.2.2
  | none => 0
structure TiesOk (n : Nat) (ts : List Tie) : Prop where
  bd : ∀ t ∈ ts, t.1 < n ∧ t.2.1 < n ∧ t.1 ≠ t.2.1 ∧ 1 ≤ t.2.2 ∧ t.2.2 ≤ 9
  pw : ts.Pairwise fun t u => kmt t u.1 u.2.1 = false
  sz : ts.length ≤ 100000
theorem kmt_comm (t : Tie) (a b : Nat) : kmt t a b = kmt t b a := by unfold kmt; rw [Bool.or_comm]
theorem kOf_comm (ts : List Tie) (a b : Nat) : kOf ts a b = kOf ts b a := by
  unfold kOf
  have e : (fun t : Tie => kmt t a b) = fun t => kmt t b a := by funext t; exact kmt_comm t a b
  rw [e]
theorem kOf_none {ts : List Tie} {a b : Nat} (h : ∀ t ∈ ts, kmt t a b = false) : kOf ts a b = 0 := by
  unfold kOf
  have e : ts.find? (fun t => kmt t a b) = none := List.find?_eq_none.mpr fun t ht => by rw [h t ht]; exact Bool.false_ne_true
  rw [e]
theorem kOf_snoc_no {l : List Tie} {t : Tie} {a b : Nat} (h : kmt t a b = false) : kOf (l ++ [t]) a b = kOf l a b := by
  unfold kOf
  rw [List.find?_append]
  have e : [t].find? (fun t => kmt t a b) = none := by simp [h]
  rw [e, Option.or_none]
theorem kOf_snoc_yes {l : List Tie} {t : Tie} {a b : Nat} (h : kmt t a b = true) (h0 : ∀ u ∈ l, kmt u a b = false) : kOf (l ++ [t]) a b = t.2.2 := by
  unfold kOf
  rw [List.find?_append]
  have e : l.find? (fun t => kmt t a b) = none := List.find?_eq_none.mpr fun t ht => by rw [h0 t ht]; exact Bool.false_ne_true
  have e2 : [t].find? (fun t => kmt t a b) = some t := by simp [h]
  rw [e, e2]
  rfl
theorem kmt_iff {t : Tie} {a b : Nat} : kmt t a b = true ↔ (t.1 = a ∧ t.2.1 = b) ∨ (t.1 = b ∧ t.2.1 = a) := by
  unfold kmt; simp
theorem kmt_trans {u t : Tie} {a b : Nat} (h : kmt t a b = true) (h2 : kmt u t.1 t.2.1 = false) : kmt u a b = false := by
  rcases kmt_iff.mp h with ⟨h1, h3⟩ | ⟨h1, h3⟩
  · rw [← h1, ← h3]; exact h2
  · rw [kmt_comm, ← h1, ← h3]; exact h2
theorem take_pw {ts : List Tie} (pw : ts.Pairwise fun t u => kmt t u.1 u.2.1 = false) {i : Nat} {t : Tie} (h : ts[i]? = some t) : ∀ u ∈ ts.take i, kmt u t.1 t.2.1 = false := fun u hu => by
  obtain ⟨j, hj⟩ := List.mem_iff_getElem?.mp hu
  rw [List.getElem?_take] at hj
  split at hj
  · rename_i hji
    obtain ⟨h1, e1⟩ := List.getElem?_eq_some_iff.mp hj
    obtain ⟨h2, e2⟩ := List.getElem?_eq_some_iff.mp h
    have := List.pairwise_iff_getElem.mp pw j i h1 h2 hji
    rw [e1, e2] at this
    exact this
  · cases hj
theorem set_range {β : Type} (n : Nat) (f : Nat → β) (j : Nat) (v : β) : ((List.range n).map f).set j v = (List.range n).map fun x => if x = j then v else f x := by
  apply List.ext_getElem?
  intro i
  rw [List.getElem?_set, List.getElem?_map]
  by_cases hij : j = i
  · subst hij
    by_cases hj : j < n
    · simp [hj]
    · simp [hj]
  · rw [if_neg hij, List.getElem?_map]
    by_cases hi : i < n
    · have : ¬ i = j := fun z => hij z.symm
      simp [hi, this]
    · simp [hi]
def matL (n : Nat) (k : Nat → Nat → Int) : List (List Int) := (List.range n).map fun i => (List.range n).map fun j => k i j
def spYd : SpI := fun as P => ∃ (n : Nat) (m : Nat → Int) (ts : List Tie), as = [.d (.list (((List.range n).map m).map PyData.int)), .d (.list (ts.map tieD))] ∧ 1 ≤ n ∧ n ≤ 7 ∧ (∀ i, i < n → 0 ≤ m i ∧ m i ≤ 9) ∧ TiesOk n ts ∧ P ((List.range n).map m) (matL n (kOf ts))
/-- must_be of what is so: nothing happens -/
def spMust : Sp := fun vs H Q _ => ∃ x y, vs = [.bl true, x, y] ∧ Q .non H
theorem c_must_be (T : Txt K mg C) : ∃ (f : Addr) (fd : FuncData), FnOk P w K mg base CX0 1 f fd p_must_be spMust ∧ mg "must_be" = some (.ref f) ∧ PySem.W.keepIn K (.ref f) = true ∧ Binds K fd p_must_be [] := by
  obtain ⟨f, fd, F, hm, bd⟩ := T.d_must_be
  refine ⟨f, fd, F.ok sc_must_be (fun vs H Q E h => by obtain ⟨a, ns, rfl, _⟩ := h; rfl) (fun cdv A outer s H vs Q E hr h => ?_), hm, F.kp, bd⟩
  obtain ⟨x, y, rfl, k⟩ := h
  refine ⟨_, pss_one (ps_if (pt_not (pt_val (pv 0))) (pss_one ps_never) pss_nil), ?_⟩
  exact ⟨_, rfl, true, rfl, iteF k⟩
/-- the rows of kinds while they are made -/
structure KAt (H : Hp) (q : Addr) (rs : List Addr) (n : Nat) (k : Nat → Nat → Int) : Prop where
  top : H q = some (.lst (rs.map V.ref))
  len : rs.length = n
  nd : rs.Nodup
  nq : q ∉ rs
  row : ∀ (i : Nat) (r : Addr), rs[i]? = some r → H r = some (.lst ((List.range n).map fun j => V.int (k i j)))
theorem at_rangeV {n j : Nat} (f : Nat → V) (h : j < n) : atI ((List.range n).map f) (j : Int) = some (f j) := by
  rw [atI_map, atI_range h]; rfl
theorem KAt.put {H : Hp} {q : Addr} {rs : List Addr} {n : Nat} {k : Nat → Nat → Int} (h : KAt H q rs n k) {i j : Nat} {r : Addr} (e : rs[i]? = some r) (v : Int) :
    KAt (upd H r (.lst (((List.range n).map fun j => V.int (k i j)).set j (V.int v)))) q rs n fun a b => if a = i ∧ b = j then v else k a b := by
  refine ⟨?_, h.len, h.nd, h.nq, fun i' r' e' => ?_⟩
  · have n1 : q ≠ r := fun z => h.nq (by rw [z]; exact List.mem_of_getElem? e)
    rw [upd_ne n1]; exact h.top
  · by_cases hi : i' = i
    · subst hi
      rw [e] at e'; cases e'
      rw [upd_same, set_range]
      congr 3
      funext x
      by_cases hx : x = j <;> simp [hx]
    · have n1 : r' ≠ r := fun z => hi (L2.nd_ix h.nd e' (by rw [z]; exact e))
      rw [upd_ne n1, h.row i' r' e']
      congr 3
      funext x
      have : ¬ (i' = i ∧ x = j) := fun z => hi z.1
      simp [this]
theorem KAt.congr {H : Hp} {q : Addr} {rs : List Addr} {n : Nat} {k k' : Nat → Nat → Int} (h : KAt H q rs n k) (e : ∀ a b, a < n → b < n → k a b = k' a b) : KAt H q rs n k' := by
  refine ⟨h.top, h.len, h.nd, h.nq, fun i r hi => ?_⟩
  rw [h.row i r hi]
  congr 2
  apply List.map_congr_left
  intro x hx
  have hi' : i < n := by rw [← h.len]; exact (List.getElem?_eq_some_iff.mp hi).1
  rw [e i x hi' (by simpa using hx)]
theorem RpL.of_get {F : Hp} : ∀ {vs : List V} {ds : List PyData}, vs.length = ds.length → (∀ (i : Nat) (v : V) (d : PyData), vs[i]? = some v → ds[i]? = some d → Rp F v d) → RpL F vs ds
  | [], [], _, _ => .nil
  | [], _ :: _, h, _ => by cases h
  | _ :: _, [], h, _ => by cases h
  | v :: vs, d :: ds, h, k => .cons (k 0 v d rfl rfl) (RpL.of_get (by simpa using h) fun i v' d' e1 e2 => k (i + 1) v' d' (by simpa using e1) (by simpa using e2))
theorem KAt.rp {H F : Hp} {q : Addr} {rs : List Addr} {n : Nat} {k : Nat → Nat → Int} (h : KAt H q rs n k) (e : ∀ a, a = q ∨ a ∈ rs → F a = H a) : Rp F (.ref q) (.list (kd (matL n k))) := by
  refine .lst (by rw [e q (.inl rfl)]; exact h.top) (RpL.of_get ?_ fun i v d e1 e2 => ?_)
  · simp [kd, matL, h.len]
  · rw [List.getElem?_map] at e1
    obtain ⟨r, er, rfl⟩ := Option.map_eq_some_iff.mp e1
    have hi : i < n := by rw [← h.len]; exact (List.getElem?_eq_some_iff.mp er).1
    have e3 : (kd (matL n k))[i]? = some (.list (((List.range n).map fun j => k i j).map PyData.int)) := by simp [kd, matL, hi]
    rw [e3] at e2; cases e2
    refine .lst (by rw [e r (.inr (List.mem_of_getElem? er))]; exact h.row i r er) ?_
    have := RpL.ints (F := F) ((List.range n).map fun j => k i j)
    rw [List.map_map] at this
    exact this
theorem must_args {b : Bool} {x y : V} (h : b = true) : ([V.bl b, x, y] ++ []) = [V.bl true, x, y] := by subst h; rfl
/-- Yard.__init__ over the heap alone: what is made is new and stands by itself -/
def spYH (C : Addr) : Sp := fun vs H Q _ => ∃ (F0 : Hp) (n : Nat) (m : Nat → Int) (ts : List Tie) (x dx : Addr) (v1 v2 : V), vs = [.ref x, v1, v2] ∧ H x = some (.ins C dx []) ∧ H dx = some (.own x) ∧ dx ≠ x ∧ F0 x = none ∧ F0 dx = none ∧ Same F0 H ∧
  Rp F0 v1 (.list (((List.range n).map m).map PyData.int)) ∧ Rp F0 v2 (.list (ts.map tieD)) ∧ 1 ≤ n ∧ n ≤ 7 ∧ (∀ i, i < n → 0 ≤ m i ∧ m i ≤ 9) ∧ TiesOk n ts ∧
  ∀ (Fs H' : Hp) (t q : Addr), Fs x = some (.ins C dx (yf t q)) → Rp Fs (.ref t) (.tuple (((List.range n).map m).map PyData.int)) → Rp Fs (.ref q) (.list (kd (matL n (kOf ts)))) → Same Fs H' →
    (∀ a, Fs a ≠ none → a = x ∨ a = dx ∨ H a = none) → (∀ a o, H a = some o → a ≠ x → H' a = some o) → Q .non H'
theorem c_initH (T : Txt K mg C) (D : ∃ (f : Addr) (fd : FuncData), Fun K "__init__" "Yard.__init__" s_Yard_init f fd ∧ Mk K C f ∧ Binds K fd p_Yard_init []) :
    ∃ (f : Addr) (fd : FuncData), FnOk P w K mg base CX0 2 f fd p_Yard_init (spYH C) ∧ Mk K C f ∧ Binds K fd p_Yard_init [] := by
  obtain ⟨f, fd, F, mk, bd⟩ := D
  obtain ⟨fm, fdm, FM, mgm, kpm, bdm⟩ := c_must_be (P := P) (w := w) (base := base) T
  refine ⟨f, fd, F.ok sc_Yard_init (fun vs H Q E h => ?_) (fun cdv A0 outer s H vs Q E hr h => ?_), mk, bd⟩
  · obtain ⟨F0, n, m, ts, x, dx, v1, v2, rfl, _⟩ := h
    rfl
  obtain ⟨F0, n, m, ts, x, dx, v1, v2, rfl, hx, hdx, ndx, fx, fdx, fh, r1, r2, n1, n7, hm, ok, k⟩ := h
  cases r1 with
  | @lst a1 vs1 _ f1 l1 =>
  cases r2 with
  | @lst a2 vs2 _ f2 l2 =>
  have e1 := l1.of_ints
  subst e1
  have h1 := fh _ _ f1
  have h2 := fh _ _ f2
  have tk : ∀ tk2 : Tok, True := fun _ => trivial
  obtain ⟨tk1, mgP⟩ := T.mg_MOST_PLACES
  obtain ⟨tk2, mgN⟩ := T.mg_MOST_NUMBER
  have hu : Room 1 _ := hr
  refine ⟨_, pss_cons (ps_set (i := 3) sc_Yard_init.nd rfl (by first | exact Or.inl rfl | exact Or.inr rfl) (pe_callB call_len_seq (by rfl) T.len PySem.boot_len (pa_cons (pv 1) pa_nil)))
    (pss_cons (ps_expr (pe_call FM hr (by rfl) mgm kpm bdm .nil pass0 (pa_cons (pe_chain op_le op_le pe_int (pv 3) (pe_glob (v := .int 7) (by rfl) mgP ⟨_, rfl⟩)) (pa_cons pe_str (pa_cons pe_int pa_nil)))))
    (pss_cons (ps_fld (pv 0) (pe_callTy call_tuple_of (by rfl) T.tuple boot_tuple' (pa_cons (pv 1) pa_nil)) rfl)
    (pss_cons (ps_for PassesOwn.never rfl (pi_range1 (by rfl) T.range (pa_cons (pv 3) pa_nil)) (pg_name (i := 4) sc_Yard_init.nd rfl (by first | exact Or.inl rfl | exact Or.inr rfl))
      (pss_one (ps_expr (pe_call FM hr (by rfl) mgm kpm bdm .nil pass0 (pa_cons (pe_chain op_le op_le pe_int (pe_ix ix_tup (pe_fld (pv 0) rfl) (pv 4) (fun _ _ => rfl)) (pe_glob (v := .int 9) (by rfl) mgN ⟨_, rfl⟩)) (pa_cons pe_str (pa_cons (pv 4) pa_nil)))))))
    (pss_cons (ps_fld (pv 0) (pe_lc (own := [("place", 4)]) (g := gName 4) rfl sc_Yard_init.nd (pi_range1 (by rfl) T.range (pa_cons (pv 3) pa_nil)) (blkOk_by (N := n_Yard_init) (sc := defScope s_Yard_init) (by decide +kernel))
      (fun _ _ _ _ _ => pg_name (i := 4) sc_Yard_init.nd rfl (Or.inl rfl)) (fun _ _ _ _ _ => pts_nil)
      (fun _ _ _ _ _ => pe_lc (own := [("other", 5)]) (g := gName 5) rfl sc_Yard_init.nd (pi_range1 (by rfl) T.range (pa_cons (pv 3) pa_nil)) (blkOk_by (N := n_Yard_init) (sc := { kind := .function, names := [(".0", .local), ("place", .local), ("range", .globalImplicit), ("many", .cell)], isGenerator := false, isCoroutine := false, more := [] }) (by decide +kernel))
        (fun _ _ _ _ _ => pg_name (i := 5) sc_Yard_init.nd rfl (Or.inl rfl)) (fun _ _ _ _ _ => pts_nil) (fun _ _ _ _ _ => pe_int))) rfl)
    (pss_one (ps_for PassesOwn.never rfl (pi_range1 (by rfl) T.range (pa_cons (pe_callB call_len_seq (by rfl) T.len PySem.boot_len (pa_cons (pv 2) pa_nil)) pa_nil)) (pg_name (i := 6) sc_Yard_init.nd rfl (Or.inl rfl))
      (pss_cons (ps_asg (pe_ix ix_list (pv 2) (pv 6) (fun _ _ => rfl)) (pg_tup rfl (pgs_cons (pg_name (i := 7) sc_Yard_init.nd rfl (Or.inl rfl)) (pgs_cons (pg_name (i := 5) sc_Yard_init.nd rfl (Or.inl rfl)) (pgs_cons (pg_name (i := 8) sc_Yard_init.nd rfl (Or.inl rfl)) pgs_nil)))))
      (pss_cons (ps_expr (pe_call FM hr (by rfl) mgm kpm bdm .nil pass0 (pa_cons (pe_and (pe_chain op_le op_lt pe_int (pv 7) (pv 3)) (pe_and (pe_chain op_le op_lt pe_int (pv 5) (pv 3)) (pe_one (pe_cmpR op_ne (pv 7) (pv 5) (nomark _))))) (pa_cons pe_str (pa_cons (pv 6) pa_nil)))))
      (pss_cons (ps_expr (pe_call FM hr (by rfl) mgm kpm bdm .nil pass0 (pa_cons (pe_and (pe_chain op_le op_le pe_int (pv 8) (pe_glob (v := .int 9) (by rfl) mgN ⟨_, rfl⟩)) (pe_one (pe_cmpR op_eq (pe_ix ix_list (pe_ix ix_list (pe_fld (pv 0) rfl) (pv 7) (fun _ _ => rfl)) (pv 5) (fun _ _ => rfl)) pe_int (nomark _)))) (pa_cons pe_str (pa_cons (pv 6) pa_nil)))))
      (pss_cons (ps_asg (pv 8) (pg_sub (pe_ix ix_list (pe_fld (pv 0) rfl) (pv 7) (fun _ _ => rfl)) (pv 5) set_list))
      (pss_one (ps_asg (pv 8) (pg_sub (pe_ix ix_list (pe_fld (pv 0) rfl) (pv 5) (fun _ _ => rfl)) (pv 7) set_list))))))))))))), ?_⟩
  -- many = len(marks); must_be(..)
  refine ⟨_, rfl, a1, _, rfl, .inl (SqL.of h1), ?_⟩
  rw [show ((((List.range n).map m).map V.int).length) = n by simp]
  refine ⟨_, rfl, _, _, rfl, rfl, _, rfl, ?_⟩
  rw [decide_eq_true (show (1 : Int) ≤ (n : Int) by omega)]
  refine iteT ⟨_, _, rfl, rfl, _, _, must_args (decide_eq_true (show (n : Int) ≤ 7 by omega)), ?_⟩
  -- self.marked = tuple(marks)
  refine ⟨_, rfl, a1, _, rfl, .inl ⟨SqL.of h1, fun t ht => ?_⟩⟩
  have nxt : x ≠ t := ne_of_none hx ht
  have ndt : dx ≠ t := ne_of_none hdx ht
  refine ⟨_, rfl, x, C, dx, [], rfl, by rw [upd_ne nxt]; exact hx, T.cY, T.n_marked, (by show 0 < 1000; decide), ?_⟩
  generalize hH1 : (upd (upd H t (.tup (((List.range n).map m).map V.int))) x (.ins C dx (putF "marked" (.ref t) []))) = H1
  have x1 : H1 x = some (.ins C dx (putF "marked" (.ref t) [])) := by rw [← hH1, upd_same]
  have t1 : H1 t = some (.tup (((List.range n).map m).map V.int)) := by rw [← hH1, upd_ne nxt.symm, upd_same]
  have k1 : ∀ b o, H b = some o → b ≠ x → H1 b = some o := fun b o e ne => by rw [← hH1, upd_ne ne, upd_ne (ne_of_none e ht)]; exact e
  -- the marks
  refine ⟨_, rfl, _, rfl, by omega, by omega, ?_⟩
  refine for_range (lo := 0) (n := ((n : Int)).toNat) (fun i σ H2 => H2 = H1 ∧ ∃ v, σ = [some (.ref x), some (.ref a1), some (.ref a2), some (.int n), v, none, none, none, none]) ⟨rfl, none, rfl⟩ ?_ ?_
  · rintro i σ H2 hi ⟨rfl, v, rfl⟩
    have hi' : i < n := by simpa using hi
    obtain ⟨b1, b2⟩ := hm i hi'
    refine ⟨_, rfl, x, C, dx, _, _, rfl, x1, T.cY, T.n_marked, by rw [lookup_putF, if_pos rfl], _, rfl, t, _, _, _, rfl, rfl, SqT.of t1, at_of (j := i) (v := .int (m i)) (by omega) (by simp [hi']), _, _, rfl, rfl, _, rfl, ?_⟩
    rw [decide_eq_true b1]
    refine iteT ⟨_, _, rfl, rfl, _, rfl, _, _, must_args (decide_eq_true b2), ?_⟩
    exact ⟨rfl, _, rfl⟩
  rintro σ H1 ⟨rfl, v, rfl⟩
  -- the rows of kinds
  refine ⟨_, rfl, _, rfl, by omega, by omega, fun q hq => ?_⟩
  have q1 : H q = none := by
    cases e : H q with
    | none => rfl
    | some o =>
      by_cases z : q = x
      · subst z; rw [x1] at hq; cases hq
      · rw [k1 q o e z] at hq; cases hq
  have qx : q ≠ x := fun z => by subst z; rw [x1] at hq; cases hq
  have qt : q ≠ t := fun z => by subst z; rw [t1] at hq; cases hq
  refine lc_range (lo := 0) (n := ((n : Int)).toNat) (fun i H2 => ∃ rs : List Addr, rs.length = i ∧ rs.Nodup ∧ H2 q = some (.lst (rs.map V.ref)) ∧ q ∉ rs ∧ (∀ r, r ∈ rs → H1 r = none ∧ H2 r = some (.lst (List.replicate n (V.int 0)))) ∧ ∀ b o, H1 b = some o → H2 b = some o)
    ⟨[], rfl, List.nodup_nil, upd_same, by simp, (fun r h => by cases h), fun b o e => by rw [upd_ne (ne_of_none e hq)]; exact e⟩ ?_ ?_
  · rintro i H2 hi ⟨rs, el, nd, tq, nq, rows, kp⟩
    refine ⟨rfl, ?_⟩
    simp only [tYes, if_true]
    refine ⟨_, rfl, _, rfl, by omega, by omega, fun r hr2 => ?_⟩
    refine lc_range (lo := 0) (n := ((n : Int)).toNat) (fun j H3 => H3 r = some (.lst (List.replicate j (V.int 0))) ∧ ∀ b o, H2 b = some o → H3 b = some o) ⟨upd_same, fun b o e => by rw [upd_ne (ne_of_none e hr2)]; exact e⟩ ?_ ?_
    · rintro j H3 hj ⟨g1, g2⟩
      refine ⟨rfl, ?_⟩
      simp only [tYes, if_true]
      refine ⟨_, g1, by rw [List.length_replicate]; exact sz_lt (by omega), ?_, fun b o e => ?_⟩
      · rw [upd_same, List.replicate_succ']
      · rw [upd_ne (ne_of_none e hr2)]; exact g2 b o e
    · rintro H3 ⟨g1, g2⟩
      have nr : r ∉ rs := fun z => by rw [(rows r z).2] at hr2; cases hr2
      have nrq : r ≠ q := fun z => by subst z; rw [tq] at hr2; cases hr2
      refine ⟨_, g2 _ _ tq, by rw [List.length_map, el]; exact sz_lt (by omega), rs ++ [r], by simp [el], ?_, by rw [upd_same]; simp, ?_, fun r' h' => ?_, fun b o e => ?_⟩
      · exact List.nodup_append.mpr ⟨nd, by simp, fun a ha b hb => by
          have : b = r := by simpa using hb
          subst this
          exact fun z => nr (by rw [← z]; exact ha)⟩
      · simp [nq, nrq.symm]
      · have hrH1 : ∀ r'', r'' ∈ rs ∨ r'' = r → H1 r'' = none := fun r'' hr'' => by
          rcases hr'' with z | z
          · exact (rows r'' z).1
          · subst z
            cases e : H1 r'' with
            | none => rfl
            | some o => rw [kp r'' o e] at hr2; cases hr2
        have h'' : r' ∈ rs ∨ r' = r := by simpa using h'
        have nq' : r' ≠ q := fun z => by
          rcases h'' with z2 | z2
          · exact nq (by rw [← z]; exact z2)
          · exact nrq (by rw [← z2]; exact z)
        refine ⟨hrH1 r' h'', ?_⟩
        rw [upd_ne nq']
        rcases h'' with z | z
        · exact g2 _ _ (rows r' z).2
        · subst z
          rw [g1]
          simp
      · rw [upd_ne (ne_of_none e hq)]; exact g2 b o (kp b o e)
  rintro H2 ⟨rs, el, nd, tq, nq, rows, kp⟩
  have hn : (n : Int).toNat = n := by omega
  rw [hn] at el
  -- self.kinds = ..
  refine ⟨_, rfl, x, C, dx, _, rfl, kp x _ x1, T.cY, T.n_kinds, (by show 1 < 1000; decide), ?_⟩
  have xr : x ∉ rs := fun z => by have := (rows x z).1; rw [x1] at this; cases this
  have tr : t ∉ rs := fun z => by have := (rows t z).1; rw [t1] at this; cases this
  have k2 : KAt (upd H2 x (.ins C dx (putF "kinds" (.ref q) (putF "marked" (.ref t) [])))) q rs n (kOf []) := by
    refine ⟨by rw [upd_ne qx]; exact tq, el, nd, nq, fun i r hi => ?_⟩
    have hm' := List.mem_of_getElem? hi
    rw [upd_ne (fun z => xr (by rw [← z]; exact hm')), (rows r hm').2]
    have e : (fun j => V.int (kOf [] i j)) = fun _ => V.int 0 := by funext j; rfl
    rw [e, List.map_const', List.length_range]
  have fr : ∀ r, r ∈ rs → H r = none := fun r hr' => by
    cases e : H r with
    | none => rfl
    | some o =>
      have z : r ≠ x := fun z => xr (by rw [← z]; exact hr')
      have := (rows r hr').1
      rw [k1 r o e z] at this; cases this
  have kp2 : ∀ b o, H b = some o → b ≠ x → (upd H2 x (.ins C dx (putF "kinds" (.ref q) (putF "marked" (.ref t) [])))) b = some o := fun b o e ne => by rw [upd_ne ne]; exact kp b o (k1 b o e ne)
  have x2 : (upd H2 x (.ins C dx (putF "kinds" (.ref q) (putF "marked" (.ref t) [])))) x = some (.ins C dx (putF "kinds" (.ref q) (putF "marked" (.ref t) []))) := upd_same
  have t2 : (upd H2 x (.ins C dx (putF "kinds" (.ref q) (putF "marked" (.ref t) [])))) t = some (.tup (((List.range n).map m).map V.int)) := by rw [upd_ne nxt.symm]; exact kp t _ t1
  generalize (upd H2 x (.ins C dx (putF "kinds" (.ref q) (putF "marked" (.ref t) [])))) = H3 at k2 kp2 x2 t2 ⊢
  have x3 : H3 x = some (.ins C dx (yf t q)) := x2
  -- the ties
  have a2x : a2 ≠ x := fun z => by rw [z, fx] at f2; cases f2
  have a2r : a2 ∉ rs := fun z => by rw [fr a2 z] at h2; cases h2
  have len2 : vs2.length = ts.length := by rw [l2.length, List.length_map]
  have sz := ok.sz
  refine ⟨_, rfl, a2, _, rfl, .inl (SqL.of (kp2 a2 _ h2 a2x)), ?_⟩
  rw [len2]
  refine ⟨_, rfl, by omega, by omega, ?_⟩
  refine for_range (lo := 0) (n := ((ts.length : Int)).toNat) (fun i σ H4 => ∃ v4 v5 v6 v7 v8, σ = [some (.ref x), some (.ref a1), some (.ref a2), some (.int n), v4, v5, v6, v7, v8] ∧ KAt H4 q rs n (kOf (ts.take i)) ∧ ∀ b, b ∉ rs → H4 b = H3 b)
    ⟨_, _, _, _, _, rfl, k2, fun _ _ => rfl⟩ ?_ ?_
  · rintro i σ H4 hi ⟨v4, v5, v6, v7, v8, rfl, kk, fr4⟩
    have hi' : i < ts.length := by simpa using hi
    obtain ⟨⟨a, b, c⟩, et⟩ : ∃ tt, ts[i]? = some tt := ⟨_, List.getElem?_eq_getElem hi'⟩
    obtain ⟨hv, ev, rv⟩ := l2.get (i := i) (d := tieD (a, b, c)) (by rw [List.getElem?_map, et]; rfl)
    cases (show Rp F0 hv (.tuple _) from rv) with
    | @tup p ws _ fp lp =>
    cases lp with
    | cons p1 lp =>
    cases lp with
    | cons p2 lp =>
    cases lp with
    | cons p3 lp =>
    cases lp
    cases p1
    cases p2
    cases p3
    obtain ⟨ha, hb, hab, c1, c9⟩ := ok.bd _ (List.mem_of_getElem? et)
    have ha : a < n := ha
    have hb : b < n := hb
    have hab : a ≠ b := hab
    have c1 : 1 ≤ c := c1
    have c9 : c ≤ 9 := c9
    have pw := take_pw ok.pw et
    have z0 : kOf (ts.take i) a b = 0 := kOf_none fun u hu => pw u hu
    have z1 : kOf (ts.take i) b a = 0 := by rw [kOf_comm]; exact z0
    have px : p ≠ x := fun z => by rw [z, fx] at fp; cases fp
    have pr : p ∉ rs := fun z => by have := fh _ _ fp; rw [fr p z] at this; cases this
    have hp4 : H4 p = some (.tup [.int a, .int b, .int c]) := by rw [fr4 p pr]; exact kp2 p _ (fh _ _ fp) px
    have ha4 : H4 a2 = some (.lst vs2) := by rw [fr4 a2 a2r]; exact kp2 a2 _ h2 a2x
    have hx4 : H4 x = some (.ins C dx (yf t q)) := by rw [fr4 x xr]; exact x3
    refine ⟨_, rfl, _, rfl, a2, _, _, _, rfl, rfl, SqL.of ha4, at_of (j := i) (by omega) ev, p, _, rfl, SqT.of hp4, rfl, _, _, rfl, _, _, rfl, _, _, rfl, rfl, ?_⟩
    -- the tie is between two places
    refine ⟨_, rfl, _, _, rfl, rfl, _, rfl, ?_⟩
    rw [decide_eq_true (show (0 : Int) ≤ (a : Int) by omega)]
    refine iteT ⟨_, rfl, _, _, rfl, rfl, _, rfl, ?_⟩
    rw [decide_eq_true (show (a : Int) < (n : Int) by omega)]
    refine iteT ⟨_, rfl, _, _, rfl, rfl, _, rfl, ?_⟩
    rw [decide_eq_true (show (0 : Int) ≤ (b : Int) by omega)]
    refine iteT ⟨_, rfl, _, _, rfl, rfl, _, rfl, ?_⟩
    rw [decide_eq_true (show (b : Int) < (n : Int) by omega)]
    refine iteT ⟨_, rfl, _, rfl, rfl, _, rfl, _, _, must_args ?_, ?_⟩
    · rw [dec_int, Bool.not_eq_true']
      exact beq_eq_false_iff_ne.mpr (fun z => hab (by omega))
    obtain ⟨ra, era⟩ : ∃ r, rs[a]? = some r := ⟨_, List.getElem?_eq_getElem (by rw [kk.len]; exact ha)⟩
    obtain ⟨rb, erb⟩ : ∃ r, rs[b]? = some r := ⟨_, List.getElem?_eq_getElem (by rw [kk.len]; exact hb)⟩
    have nra : ra ∈ rs := List.mem_of_getElem? era
    have nrb : rb ∈ rs := List.mem_of_getElem? erb
    have lk : List.lookup ("kinds" : Str) (yf t q) = some (V.ref q) := by unfold yf; rw [lookup_putF, if_pos rfl]
    have ata : atI (rs.map V.ref) (a : Int) = some (.ref ra) := at_of (j := a) (by omega) (by rw [List.getElem?_map, era]; rfl)
    have atb : atI (rs.map V.ref) (b : Int) = some (.ref rb) := at_of (j := b) (by omega) (by rw [List.getElem?_map, erb]; rfl)
    refine ⟨_, rfl, _, _, rfl, rfl, _, rfl, ?_⟩
    rw [decide_eq_true c1]
    refine iteT ⟨_, _, rfl, rfl, _, rfl, ?_⟩
    rw [decide_eq_true c9]
    refine iteT ⟨_, rfl, x, C, dx, _, _, rfl, hx4, T.cY, T.n_kinds, lk, _, rfl, q, _, _, _, rfl, rfl, SqL.of kk.top, ata, _, rfl, ra, _, _, _, rfl, rfl, SqL.of (kk.row a ra era), at_rangeV _ hb, rfl, _, rfl, _, _, must_args ?_, ?_⟩
    · rw [z0]; rfl
    have k5 := kk.put era (j := b) c
    refine ⟨_, rfl, _, rfl, x, C, dx, _, _, rfl, hx4, T.cY, T.n_kinds, lk, _, rfl, q, _, _, _, rfl, rfl, SqL.of kk.top, ata, _, rfl, ra, _, _, b, rfl, rfl, kk.row a ra era, by rw [List.length_map, List.length_range]; exact ixN_nat hb, ?_⟩
    have hx5 : upd H4 ra (.lst (((List.range n).map fun j => V.int (kOf (ts.take i) a j)).set b (V.int c))) x = some (.ins C dx (yf t q)) := by rw [upd_ne (fun z => xr (by rw [z]; exact nra))]; exact hx4
    have fr5 : ∀ z, z ∉ rs → upd H4 ra (.lst (((List.range n).map fun j => V.int (kOf (ts.take i) a j)).set b (V.int c))) z = H3 z := fun z hz => by rw [upd_ne (fun y => hz (by rw [y]; exact nra))]; exact fr4 z hz
    generalize upd H4 ra (.lst (((List.range n).map fun j => V.int (kOf (ts.take i) a j)).set b (V.int c))) = H5 at k5 hx5 fr5 ⊢
    refine ⟨_, rfl, _, rfl, x, C, dx, _, _, rfl, hx5, T.cY, T.n_kinds, lk, _, rfl, q, _, _, _, rfl, rfl, SqL.of k5.top, atb, _, rfl, rb, _, _, a, rfl, rfl, k5.row b rb erb, by rw [List.length_map, List.length_range]; exact ixN_nat ha, ?_⟩
    refine ⟨_, _, _, _, _, rfl, (k5.put erb (j := a) c).congr fun a' b' _ _ => ?_, fun z hz => by rw [upd_ne (fun y => hz (by rw [y]; exact nrb))]; exact fr5 z hz⟩
    have et2 : ts.take (i + 1) = ts.take i ++ [(a, b, c)] := by rw [List.take_succ, et]; rfl
    rw [et2]
    by_cases hm2 : kmt (a, b, c) a' b' = true
    · rw [kOf_snoc_yes hm2 (fun u hu => kmt_trans hm2 (pw u hu))]
      rcases kmt_iff.mp hm2 with ⟨rfl, rfl⟩ | ⟨rfl, rfl⟩ <;> simp
    · have hm3 : kmt (a, b, c) a' b' = false := by simpa using hm2
      rw [kOf_snoc_no hm3]
      have n1 : ¬ (a' = b ∧ b' = a) := fun z => hm2 (kmt_iff.mpr (.inr ⟨z.2.symm, z.1.symm⟩))
      have n2 : ¬ (a' = a ∧ b' = b) := fun z => hm2 (kmt_iff.mpr (.inl ⟨z.1.symm, z.2.symm⟩))
      rw [if_neg n1, if_neg n2]
  · rintro σ H4 ⟨v4, v5, v6, v7, v8, rfl, kk, fr4⟩
    have hn2 : ((ts.length : Int)).toNat = ts.length := by omega
    rw [hn2, List.take_length] at kk
    have oldK : ∀ b o, H b = some o → b ≠ x → H4 b = some o := fun b o e ne => by
      rw [fr4 b (fun z => by rw [fr b z] at e; cases e)]
      exact kp2 b o e ne
    classical
    have hx4 : H4 x = some (.ins C dx (yf t q)) := by rw [fr4 x xr]; exact x3
    have ht4 : H4 t = some (.tup (((List.range n).map m).map V.int)) := by rw [fr4 t tr]; exact t2
    refine k (fun a => if a = x ∨ a = dx ∨ a = t ∨ a = q ∨ a ∈ rs then H4 a else none) H4 t q ((if_pos (.inl rfl)).trans hx4) (.tup ((if_pos (.inr (.inr (.inl rfl)))).trans ht4) (RpL.ints _)) (kk.rp fun a ha => ?_) (fun a o e => ?_) (fun a h => ?_) oldK
    · rcases ha with ha | ha
      · exact if_pos (.inr (.inr (.inr (.inl ha))))
      · exact if_pos (.inr (.inr (.inr (.inr ha))))
    · have e : (if a = x ∨ a = dx ∨ a = t ∨ a = q ∨ a ∈ rs then H4 a else none) = some o := e
      split at e
      · exact e
      · cases e
    · have h : (if a = x ∨ a = dx ∨ a = t ∨ a = q ∨ a ∈ rs then H4 a else none) ≠ none := h
      split at h
      · rename_i z
        rcases z with rfl | rfl | rfl | rfl | z
        · exact .inl rfl
        · exact .inr (.inl rfl)
        · exact .inr (.inr ht)
        · exact .inr (.inr q1)
        · exact .inr (.inr (fr _ z))
      · exact (h rfl).elim
/-- known from now on, what is new by itself -/
theorem jn_same {F Fs : Hp} {H H' : Hp} {x : Addr} (h1 : Same F H) (h2 : Same Fs H') (fx : F x = none) (kp : ∀ a o, H a = some o → a ≠ x → H' a = some o) : Same (jn F Fs) H' := fun a o e => by
  unfold jn at e
  split at e
  · rename_i u hu
    cases e
    exact h2 _ _ hu
  · exact kp a o (h1 _ _ e) (ne_of_none e fx)
theorem jn_r {F Fs : Hp} : Same Fs (jn F Fs) := fun a o e => by unfold jn; rw [e]
theorem c_init (T : Txt K mg C) (D : ∃ (f : Addr) (fd : FuncData), Fun K "__init__" "Yard.__init__" s_Yard_init f fd ∧ Mk K C f ∧ Binds K fd p_Yard_init []) : CalI P w K mg base C 2 spYd := by
  obtain ⟨f, fd, F, mk, bd⟩ := c_initH (P := P) (w := w) (base := base) T D
  refine ⟨f, fd, p_Yard_init, F.imp fun vs H Q E h => ?_, mk, T.mg_Yard, bd⟩
  obtain ⟨G, F0, as, x, dx, ws, P0, rfl, hx, hdx, ndx, fx, fdx, bx, bdx, fh, gi, gb, ar, ⟨n, m, ts, rfl, n1, n7, hm, ok, hP⟩, k⟩ := h
  cases ar with
  | cons r1 t =>
  cases t with
  | cons r2 t =>
  cases t
  refine ⟨F0, n, m, ts, x, dx, _, _, rfl, hx, hdx, ndx, fx, fdx, fh, r1, r2, n1, n7, hm, ok, fun Fs H' t q e1 e2 e3 ss nw kp => ?_⟩
  have bs : ∀ a, isBox G a → Fs a = none := fun a h => by
    cases e : Fs a with
    | none => rfl
    | some o =>
      rcases nw a (by rw [e]; simp) with rfl | rfl | z
      · exact absurd h bx
      · exact absurd h bdx
      · exact absurd z (gi.box h)
  have bj : ∀ a, isBox G a → jn F0 Fs a = none := fun a h => by unfold jn; rw [bs a h]; exact gb a h
  have kF := kn.of bj
  have kS : Same Fs (kn G (jn F0 Fs)) := jn_r.trans kF
  refine k _ _ (jn F0 Fs) H' hP ⟨?_, jn_same fh ss fx kp, gi.keep fun a o hb e => kp a o e fun z => bx (by rw [← z]; exact hb), fun a o e ne _ _ => kp a o e ne, fun a h => ?_, bj, x, dx, t, q, rfl, kS _ _ e1, e2.up kS, e3.up kS⟩
  · intro a o e
    unfold jn
    cases e2 : Fs a with
    | none => exact e
    | some u =>
      rcases nw a (by rw [e2]; simp) with rfl | rfl | z
      · rw [fx] at e; cases e
      · rw [fdx] at e; cases e
      · rw [fh _ _ e] at z; cases z
  · unfold jn at h
    cases e2 : Fs a with
    | none => rw [e2] at h; exact .inl h
    | some u =>
      rcases nw a (by rw [e2]; simp) with z | z | z
      · exact .inr (.inr (.inl z))
      · exact .inr (.inr (.inr z))
      · exact .inr (.inl z)

/-! ### clash: how a place and a name do not go together -/
def clashW (y1 y2 : Y) (ns : List Nat) (p q : Nat) : Option (Option Nat) :=
  if y1.m p = y2.m q then ((List.range ns.length).find? fun e => decide (y1.k e p ≠ y2.k (ns.getD e 0) q)).map some else some none
def whyD : Option (Option Nat) → PyData
  | none => .none
  | some none => .tuple [.str "mark"]
  | some (some e) => .tuple [.str "tie", nI e]
theorem find_first {n i : Nat} {f : Nat → Bool} (h : ∀ e, e < i → f e = false) (hi : f i = true) (hn : i < n) : (List.range n).find? f = some i := by
  rw [List.find?_range_eq_some]
  exact ⟨hi, List.mem_range.mpr hn, fun j hj => by rw [h j hj]; rfl⟩
theorem find_no {n : Nat} {f : Nat → Bool} (h : ∀ e, e < n → f e = false) : (List.range n).find? f = none := by
  rw [List.find?_eq_none]
  exact fun x hx => by rw [h x (List.mem_range.mp hx)]; exact Bool.false_ne_true
theorem getD_get {ns : List Nat} {i : Nat} (h : i < ns.length) : ns.getD i 0 = ns[i] := by simp [List.getD, h]
theorem getD_mem {ns : List Nat} {i : Nat} (h : i < ns.length) : ns.getD i 0 ∈ ns := by
  rw [getD_get h]; exact List.getElem_mem h
theorem at_names {l : List Nat} {i : Nat} (h : i < l.length) : atI (l.map nI) (i : Int) = some (nI (l.getD i 0)) := by
  rw [atI_names h, getD_get h]
def spClash : Spc := fun as Q => ∃ (y1 y2 : Y) (ns : List Nat) (p q : Nat), as = [yA y1, yA y2, .d (NL ns), .d (nI p), .d (nI q)] ∧ p < y1.n ∧ q < y2.n ∧ y1.n ≤ 7 ∧ ns.length ≤ y1.n ∧ (∀ x ∈ ns, x < y2.n) ∧ Q (.d (whyD (clashW y1 y2 ns p q)))
theorem c_clash (T : Txt K mg C) : Cal P w K mg base C "clash" 1 spClash := by
  refine cal_of T.d_clash sc_clash (fun as Q h => by obtain ⟨_, _, _, _, _, rfl, _⟩ := h; rfl) fun f cdv A0 outer s H E hr G F as Q hs => ?_
  obtain ⟨y1, y2, ns, p, q, rfl, hp, hq, h7, hl, hn, hQ⟩ := hs
  refine ⟨_, _, (pss_consA (ps_ifA (pt_ne (K := K) hr (pd_ix (K := K) (pd_marked (K := K) T.cY T.n_marked (pd_var 0)) (pd_var 3)) (pd_ix (K := K) (pd_marked (K := K) T.cY T.n_marked (pd_var 1)) (pd_var 4))) (pss_oneA (ps_retA (pd_tup (pda_cons pd_str pda_nil)))) pss_nilA)
  (pss_consA (ps_forA (pi_range1A T.range (pda_cons (pd_len (K := K) T.len (pda_cons (pd_var 2) pda_nil)) pda_nil)) (pg_nameA 5 sc_clash.nd) (pss_oneA (ps_ifA (pt_ne (K := K) hr (pd_ix (K := K) (pd_ix (K := K) (pd_kinds (K := K) T.cY T.n_kinds (pd_var 0)) (pd_var 5)) (pd_var 3)) (pd_ix (K := K) (pd_ix (K := K) (pd_kinds (K := K) T.cY T.n_kinds (pd_var 1)) (pd_ix (K := K) (pd_var 2) (pd_var 5))) (pd_var 4))) (pss_oneA (ps_retA (pd_tup (pda_cons pd_str (pda_cons (pd_var 5) pda_nil))))) pss_nilA)) PassesOwn.never)
  (pss_oneA (ps_retA pd_non)))), ?_⟩
  walk_at "wp"
  refine ⟨_, at_marked y1 hp, _, at_marked y2 hq, ?_⟩
  walk_at "wp"
  refine ⟨fun h => ⟨by decide, ?_⟩, fun h => ⟨by omega, by omega, fun i ρ => (∃ a, ρ = [yA y1, yA y2, .d (NL ns), .d (nI p), .d (nI q), a]) ∧ ∀ e, e < i → y1.k e p = y2.k (ns.getD e 0) q, ⟨⟨_, rfl⟩, fun _ h => absurd h (Nat.not_lt_zero _)⟩, fun i d ρ hd hI => ?_, fun ρ hI => ?_⟩⟩
  · have h : ¬ y1.m p = y2.m q := by simpa using h
    unfold clashW at hQ
    rw [if_neg h] at hQ
    exact hQ
  · obtain ⟨hi, rfl⟩ := rgD0_get hd
    obtain ⟨⟨a, rfl⟩, hb⟩ := hI
    have hk := hn _ (getD_mem hi)
    walk_at "wp"
    refine ⟨_, at_kinds y1 (by omega), ?_⟩
    walk_at "wp"
    refine ⟨_, at_kind y1 hp, ?_⟩
    walk_at "wp"
    refine ⟨_, at_names hi, ?_⟩
    walk_at "wp"
    refine ⟨_, at_kinds y2 hk, ?_⟩
    walk_at "wp"
    refine ⟨_, at_kind y2 hq, ?_⟩
    walk_at "wp"
    refine ⟨fun h2 => ⟨by decide, ?_⟩, fun h2 => ⟨⟨_, rfl⟩, fun e he => ?_⟩⟩
    · unfold clashW at hQ
      rw [if_pos (show y1.m p = y2.m q by simpa using h), find_first (i := i) (fun e he => by simpa using hb e he) (by simpa using h2) hi] at hQ
      exact hQ
    · by_cases z : e = i
      · subst z; simpa using h2
      · exact hb e (by omega)
  · obtain ⟨⟨a, rfl⟩, hb⟩ := hI
    unfold clashW at hQ
    rw [if_pos (show y1.m p = y2.m q by simpa using h), find_no (fun e he => by simpa using hb e he)] at hQ
    walk_at "wp"
    exact hQ

/-! ### first, led_on -/
def good (y1 y2 : Y) (ns : List Nat) (q : Nat) : Bool := !decide (q ∈ ns) && (clashW y1 y2 ns ns.length q).isNone
def led (y1 y2 : Y) : Nat → List Nat → Option (List Nat)
  | 0, ns => some ns
  | t + 1, ns => (List.range y1.n).findSome? fun q => if good y1 y2 ns q then led y1 y2 t (ns ++ [q]) else none
def optNL : Option (List Nat) → PyData
  | none => .none
  | some l => NL l
def spLed (t : Nat) : Spc := fun as Q => ∃ (y1 y2 : Y) (ns : List Nat), as = [yA y1, yA y2, .d (NL ns)] ∧ y1.n = y2.n ∧ y1.n ≤ 7 ∧ ns.length ≤ y1.n ∧ y1.n < ns.length + t ∧ (∀ x ∈ ns, x < y1.n) ∧ Q (.d (optNL (led y1 y2 (y1.n - ns.length) ns)))
theorem whyD_none {o : Option (Option Nat)} : whyD o = .none ↔ o.isNone = true := by
  cases o with
  | none => simp [whyD]
  | some o => cases o <;> simp [whyD]
theorem isN_why (o : Option (Option Nat)) : isN (.d (whyD o)) = some o.isNone := by
  cases o with
  | none => rfl
  | some o => cases o <;> rfl
theorem isN_opt (o : Option (List Nat)) : isN (.d (optNL o)) = some o.isNone := by cases o <;> rfl
theorem some_first {β : Type} {n i : Nat} {f : Nat → Option β} {b : β} (h : ∀ e, e < i → f e = none) (hi : f i = some b) (hn : i < n) : (List.range n).findSome? f = some b := by
  have e : List.range n = List.range i ++ i :: (List.range' (i + 1) (n - (i + 1))) := by
    rw [List.range_eq_range', List.range_eq_range', show n = i + (1 + (n - (i + 1))) by omega]
    rw [← List.range'_append_1, show i + (1 + (n - (i + 1))) - (i + 1) = n - (i + 1) by omega]
    congr 1
    rw [← List.range'_append_1]
    simp
  rw [e, List.findSome?_append]
  have e0 : (List.range i).findSome? f = none := List.findSome?_eq_none_iff.mpr fun x hx => h x (List.mem_range.mp hx)
  rw [e0, List.findSome?_cons, hi]
  rfl
theorem some_no {β : Type} {n : Nat} {f : Nat → Option β} (h : ∀ e, e < n → f e = none) : (List.range n).findSome? f = none :=
  List.findSome?_eq_none_iff.mpr fun x hx => h x (List.mem_range.mp hx)
theorem names_snoc (ns : List Nat) (i : Nat) : ns.map nI ++ [nI i] = (ns ++ [i]).map nI := by simp
theorem lt_succ_cases {P : Nat → Prop} {i : Nat} (h : ∀ q, q < i → P q) (hi : P i) : ∀ q, q < i + 1 → P q := fun q hq => by
  by_cases z : q = i
  · subst z; exact hi
  · exact h q (by omega)
theorem c_led_on (T : Txt K mg C) : ∀ t : Nat, Cal P w K mg base C "led_on" (t + 2) (spLed t)
  | 0 => by
    refine cal_of T.d_led_on sc_led_on (fun as Q h => by obtain ⟨_, _, _, rfl, _⟩ := h; rfl) fun f cdv A0 outer s H E hr G F as Q hs => ?_
    obtain ⟨y1, y2, ns, rfl, _, _, h1, h2, _⟩ := hs
    omega
  | t + 1 => by
    have c_led_on := c_led_on T t
    have c_clash := c_clash (P := P) (w := w) (base := base) T
    have m_many := m_many (P := P) (w := w) (base := base) T
    refine cal_of T.d_led_on sc_led_on (fun as Q h => by obtain ⟨_, _, _, rfl, _⟩ := h; rfl) fun f cdv A0 outer s H E hr G F as Q hs => ?_
    obtain ⟨y1, y2, ns, rfl, hn, h7, h1, h2, hb, hQ⟩ := hs
    refine ⟨_, _, (pss_consA (ps_ifA (pt_eq (K := K) hr (pd_len (K := K) T.len (pda_cons (pd_var 2) pda_nil)) (pd_meth0 m_many hr (by omega) (pd_var 0))) (pss_oneA (ps_retA (pd_var 2))) pss_nilA)
  (pss_consA (ps_forA (pi_range1A T.range (pda_cons (pd_meth0 m_many hr (by omega) (pd_var 0)) pda_nil)) (pg_nameA 3 sc_led_on.nd) (pss_oneA (ps_ifA (PDW.t (pw_andA (pt_nin (K := K) hr (pd_var 3) (pd_var 2)) (pw_and1A (pt_is (pd_call c_clash hr (by omega) (pda_cons (pd_var 0) (pda_cons (pd_var 1) (pda_cons (pd_var 2) (pda_cons (pd_len (K := K) T.len (pda_cons (pd_var 2) pda_nil)) (pda_cons (pd_var 3) pda_nil)))))) pd_non)))) (pss_consA (ps_setA (i := 4) sc_led_on.nd (pd_call c_led_on hr (by omega) (pda_cons (pd_var 0) (pda_cons (pd_var 1) (pda_cons (pd_add (K := K) (pd_var 2) (pd_lst (pda_cons (pd_var 3) pda_nil))) pda_nil)))))
  (pss_oneA (ps_ifA (pt_isnot (pd_var 4) pd_non) (pss_oneA (ps_retA (pd_var 4))) pss_nilA))) pss_nilA)) PassesOwn.never)
  (pss_oneA (ps_retA pd_non)))), ?_⟩
    walk_at "wp"
    refine ⟨y1, rfl, ?_⟩
    walk_at "wp"
    refine ⟨fun h => ?_, fun h => ⟨y1, rfl, ?_⟩⟩
    · have h : ns.length = y1.n := by have := of_decide_eq_true h; omega
      rw [show y1.n - ns.length = 0 by omega] at hQ
      exact hQ
    have h : ¬ ns.length = y1.n := by have := of_decide_eq_false h; omega
    obtain ⟨L, eL⟩ : ∃ L, y1.n - ns.length = L + 1 := ⟨y1.n - ns.length - 1, by omega⟩
    rw [eL] at hQ
    walk_at "wp"
    refine ⟨by omega, by omega, fun i ρ => (∃ a b, ρ = [yA y1, yA y2, .d (NL ns), a, b]) ∧ ∀ q, q < i → (if good y1 y2 ns q then led y1 y2 L (ns ++ [q]) else none) = none, ⟨⟨_, _, rfl⟩, fun _ h => absurd h (Nat.not_lt_zero _)⟩, fun i d ρ hd hI => ?_, fun ρ hI => ?_⟩
    · obtain ⟨hi, rfl⟩ := rgD0_get hd
      obtain ⟨⟨a, b, rfl⟩, hb2⟩ := hI
      walk_at "wp"
      refine ⟨shaped_int _, shaped_names ns, ?_⟩
      rw [any_names]
      walk_at "wp"
      refine ⟨fun h3 => ⟨y1, y2, ns, ns.length, i, rfl, by omega, by omega, h7, h1, fun x hx => by have := hb x hx; omega, ?_⟩, fun h3 => ⟨fun z => (by cases z), fun _ => ⟨⟨_, _, rfl⟩, lt_succ_cases hb2 ?_⟩⟩⟩
      · have h3 : i ∉ ns := by simpa using h3
        walk_at "wp"
        rw [isN_why]
        walk_at "wp"
        refine ⟨fun h4 => ⟨by decide, sz_lt (by omega), y1, y2, ns ++ [i], by rw [names_snoc], hn, h7, by simp; omega, by simp; omega, fun x hx => ?_, ?_⟩, fun h4 => ⟨⟨_, _, rfl⟩, lt_succ_cases hb2 ?_⟩⟩
        · rcases List.mem_append.mp hx with z | z
          · exact hb x z
          · have : x = i := by simpa using z
            omega
        · have hg : good y1 y2 ns i = true := by unfold good; rw [h4]; simp [h3]
          rw [show y1.n - (ns ++ [i]).length = L by simp; omega]
          walk_at "wp"
          rw [isN_opt]
          walk_at "wp"
          refine ⟨fun h5 => ?_, fun h5 => ⟨⟨_, _, rfl⟩, lt_succ_cases hb2 ?_⟩⟩
          · cases e5 : led y1 y2 L (ns ++ [i]) with
            | none => rw [e5] at h5; cases h5
            | some l =>
              have : led y1 y2 (L + 1) ns = some l := some_first hb2 (by rw [if_pos hg, e5]) hi
              rw [this] at hQ
              exact hQ
          · cases e5 : led y1 y2 L (ns ++ [i]) with
            | none => rw [if_pos hg]
            | some l => rw [e5] at h5; cases h5
        · rw [if_neg]
          unfold good
          rw [h4]
          simp
      · have h3 : i ∈ ns := by simpa using h3
        rw [if_neg]
        unfold good
        simp [h3]
    · obtain ⟨⟨a, b, rfl⟩, hb2⟩ := hI
      walk_at "wp"
      have : led y1 y2 (L + 1) ns = none := some_no hb2
      rw [this] at hQ
      exact hQ

def goods (y1 y2 : Y) (given : List Nat) (i : Nat) : Bool := (List.range i).all fun e => good y1 y2 (given.take e) (given.getD e 0)
def firstM (y1 y2 : Y) (given : List Nat) : Option (List Nat) :=
  if y1.n = y2.n then (if goods y1 y2 given given.length then led y1 y2 (y1.n - given.length) given else none) else none
def spFirst : Spc := fun as Q => ∃ (y1 y2 : Y) (given : List Nat), as = [yA y1, yA y2, .d (NL given)] ∧ y1.n ≤ 7 ∧ given.length ≤ y1.n ∧ (∀ x ∈ given, x < y2.n) ∧ Q (.d (optNL (firstM y1 y2 given)))
theorem take_snoc {l : List Nat} {i : Nat} (h : i < l.length) : l.take i ++ [l.getD i 0] = l.take (i + 1) := by
  rw [List.take_succ, getD_get h, List.getElem?_eq_getElem h]
  rfl
theorem mem_take {l : List Nat} {i : Nat} {P : Nat → Prop} (h : ∀ x ∈ l, P x) : ∀ x ∈ l.take i, P x := fun x hx => h x (List.mem_of_mem_take hx)
theorem goods_succ {y1 y2 : Y} {given : List Nat} {i : Nat} : goods y1 y2 given (i + 1) = (goods y1 y2 given i && good y1 y2 (given.take i) (given.getD i 0)) := by
  unfold goods
  rw [List.range_succ, List.all_append]
  simp
theorem goods_le {y1 y2 : Y} {given : List Nat} {i j : Nat} (hij : i ≤ j) (h : goods y1 y2 given j = true) : goods y1 y2 given i = true := by
  unfold goods at h ⊢
  rw [List.all_eq_true] at h ⊢
  exact fun x hx => h x (List.mem_range.mpr (by have := List.mem_range.mp hx; omega))
theorem c_first (T : Txt K mg C) : Cal P w K mg base C "first" 11 spFirst := by
  have c_led_on := c_led_on (P := P) (w := w) (base := base) T 8
  have c_clash := c_clash (P := P) (w := w) (base := base) T
  have m_many := m_many (P := P) (w := w) (base := base) T
  refine cal_of T.d_first sc_first (fun as Q h => by obtain ⟨_, _, _, rfl, _⟩ := h; rfl) fun f cdv A0 outer s H E hr G F as Q hs => ?_
  obtain ⟨y1, y2, given, rfl, h7, hl, hb, hQ⟩ := hs
  unfold firstM at hQ
  refine ⟨_, _, (pss_consA (ps_ifA (pt_ne (K := K) hr (pd_meth0 m_many hr (by omega) (pd_var 0)) (pd_meth0 m_many hr (by omega) (pd_var 1))) (pss_oneA (ps_retA pd_non)) pss_nilA)
  (pss_consA (ps_setA (i := 3) sc_first.nd (pd_lst pda_nil))
  (pss_consA (ps_forA (pi_range1A T.range (pda_cons (pd_len (K := K) T.len (pda_cons (pd_var 2) pda_nil)) pda_nil)) (pg_nameA 4 sc_first.nd) (pss_consA (ps_ifA (pt_bor 3 (PDW.t (pw_orA (pt_in (K := K) hr (pd_ix (K := K) (pd_var 2) (pd_var 4)) (pd_var 3)) (pw_or1A (pt_isnot (pd_call c_clash hr (by omega) (pda_cons (pd_var 0) (pda_cons (pd_var 1) (pda_cons (pd_var 3) (pda_cons (pd_var 4) (pda_cons (pd_ix (K := K) (pd_var 2) (pd_var 4)) pda_nil)))))) pd_non))))) (pss_oneA (ps_retA pd_non)) pss_nilA)
  (pss_oneA (ps_appA (pd_var 3) (pd_ix (K := K) (pd_var 2) (pd_var 4))))) PassesOwn.never)
  (pss_oneA (ps_fz 3 (ps_retA (pd_call c_led_on hr (by omega) (pda_cons (pd_var 0) (pda_cons (pd_var 1) (pda_cons (pd_var 3) pda_nil)))))))))), ?_⟩
  walk_at "wp"
  refine ⟨y1, rfl, ?_⟩
  walk_at "wp"
  refine ⟨y2, rfl, ?_⟩
  walk_at "wp"
  refine ⟨fun h => ?_, fun h => ?_⟩
  · rw [if_neg (by have := h; simp at this; omega)] at hQ
    exact hQ
  have h : y1.n = y2.n := by simp at h; omega
  rw [if_pos h] at hQ
  refine ⟨by decide, by omega, by omega, fun i ρ => (∃ a, ρ = [yA y1, yA y2, .d (NL given), .own ((given.take i).map nI), a]) ∧ goods y1 y2 given i = true, ⟨⟨_, rfl⟩, rfl⟩, fun i d ρ hd hI => ?_, fun ρ hI => ?_⟩
  · obtain ⟨hi, rfl⟩ := rgD0_get hd
    obtain ⟨⟨a, rfl⟩, hg⟩ := hI
    walk_at "wp"
    have ti : (given.take i).length = i := by rw [List.length_take]; omega
    refine ⟨_, at_names hi, ?_⟩
    walk_at "wp"
    refine ⟨shaped_int _, shaped_names (given.take i), ?_⟩
    rw [any_names]
    walk_at "wp"
    refine ⟨fun h3 => ⟨fun _ => ?_, fun z => (by cases z)⟩, fun h3 => ⟨_, at_names hi, y1, y2, given.take i, i, given.getD i 0, rfl, by omega, hb _ (getD_mem hi), h7, by omega, mem_take hb, ?_⟩⟩
    · have h3 : given.getD i 0 ∈ given.take i := by simpa using h3
      rw [if_neg (fun z => by
        have := goods_le (i := i + 1) hi z
        rw [goods_succ] at this
        unfold good at this
        simp only [Bool.and_eq_true, Bool.not_eq_true', decide_eq_false_iff_not] at this
        exact this.2.1 h3)] at hQ
      exact hQ
    · have h3 : given.getD i 0 ∉ given.take i := by simpa using h3
      walk_at "wp"
      rw [isN_why]
      walk_at "wp"
      refine ⟨fun h4 => ?_, fun h4 => ⟨_, at_names hi, sz_lt (by rw [ti]; omega), ⟨_, by rw [names_snoc, take_snoc hi]⟩, ?_⟩⟩
      · rw [if_neg (fun z => by
          have := goods_le (i := i + 1) hi z
          rw [goods_succ] at this
          unfold good at this
          rw [ti] at this
          simp only [Bool.and_eq_true, Bool.not_eq_true', decide_eq_false_iff_not] at this
          rw [this.2.2] at h4
          cases h4)] at hQ
        exact hQ
      · rw [goods_succ, hg]
        unfold good
        rw [ti]
        have h4 : (clashW y1 y2 (given.take i) i (given.getD i 0)).isNone = true := by simpa using h4
        rw [h4]
        simpa using h3
  · obtain ⟨⟨a, rfl⟩, hg⟩ := hI
    walk_at "wp"
    rw [List.take_length]
    rw [if_pos hg] at hQ
    refine ⟨y1, y2, given, rfl, h, h7, hl, by omega, fun x hx => by have := hb x hx; omega, ?_⟩
    walk_at "wp"
    exact hQ

/-! ### rows: sorted ties and the yard they tell -/
def ltT (t u : Tie) : Prop := t.1 < u.1 ∨ (t.1 = u.1 ∧ t.2.1 < u.2.1)
theorem sorted_ext {α : Type} {r : α → α → Prop} (irr : ∀ a, ¬ r a a) (asym : ∀ a b, r a b → ¬ r b a) : ∀ {l1 l2 : List α}, l1.Pairwise r → l2.Pairwise r → (∀ x, x ∈ l1 ↔ x ∈ l2) → l1 = l2
  | [], [], _, _, _ => rfl
  | [], b :: _, _, _, h => by have := (h b).mpr List.mem_cons_self; simp at this
  | a :: _, [], _, _, h => by have := (h a).mp List.mem_cons_self; simp at this
  | a :: l1, b :: l2, p1, p2, h => by
    rw [List.pairwise_cons] at p1 p2
    have e : a = b := by
      rcases List.mem_cons.mp ((h a).mp List.mem_cons_self) with z | z
      · exact z
      · rcases List.mem_cons.mp ((h b).mpr List.mem_cons_self) with y | y
        · exact y.symm
        · exact absurd (p2.1 a z) (asym a b (p1.1 b y))
    subst e
    rw [sorted_ext irr asym p1.2 p2.2 fun x => ⟨fun hx => ?_, fun hx => ?_⟩]
    · rcases List.mem_cons.mp ((h x).mp (List.mem_cons_of_mem _ hx)) with z | z
      · subst z; exact absurd (p1.1 x hx) (irr x)
      · exact z
    · rcases List.mem_cons.mp ((h x).mpr (List.mem_cons_of_mem _ hx)) with z | z
      · subst z; exact absurd (p2.1 x hx) (irr x)
      · exact z
theorem ltT_irr (t : Tie) : ¬ ltT t t := fun h => by
  rcases h with h | h
  · omega
  · have := h.2; omega
theorem ltT_asym (t u : Tie) (h : ltT t u) : ¬ ltT u t := fun k => by
  unfold ltT at h k
  omega
theorem rowT_pw (k : Nat → Nat → Int) (i t : Nat) : (rowT k i t).Pairwise ltT := by
  induction t with
  | zero => simp [rowT]
  | succ t ih =>
    rw [rowT_succ, List.pairwise_append]
    refine ⟨ih, ?_, fun a ha b hb => ?_⟩
    · split <;> simp
    · split at hb
      · have : b = (i, i + 1 + t, k i (i + 1 + t)) := by simpa using hb
        subst this
        obtain ⟨e1, e2, e3, _⟩ := mem_rowT.mp ha
        exact .inr ⟨e1, e3⟩
      · simp at hb
theorem tiesOf_pw (k : Nat → Nat → Int) (n i : Nat) : (tiesOf k n i).Pairwise ltT := by
  induction i with
  | zero => simp [tiesOf]
  | succ i ih =>
    rw [tiesOf_succ, List.pairwise_append]
    refine ⟨ih, rowT_pw _ _ _, fun a ha b hb => ?_⟩
    obtain ⟨h1, _⟩ := mem_tiesOf.mp ha
    obtain ⟨e1, _⟩ := mem_rowT.mp hb
    exact .inl (by omega)
structure STies (n : Nat) (ts : List Tie) : Prop where
  bd : ∀ t ∈ ts, t.1 < t.2.1 ∧ t.2.1 < n ∧ 1 ≤ t.2.2 ∧ t.2.2 ≤ 9
  so : ts.Pairwise ltT
theorem kmt_sorted {t : Tie} {a b : Nat} (h : t.1 < t.2.1) (ab : a < b) : kmt t a b = true ↔ t.1 = a ∧ t.2.1 = b := by
  rw [kmt_iff]
  constructor
  · rintro (z | z)
    · exact z
    · omega
  · exact .inl
theorem kOf_cons (t : Tie) (ts : List Tie) (a b : Nat) : kOf (t :: ts) a b = if kmt t a b = true then t.2.2 else kOf ts a b := by
  unfold kOf
  rw [List.find?_cons]
  cases kmt t a b <;> rfl
theorem kOf_mem : ∀ {ts : List Tie}, ts.Pairwise (fun t u => kmt t u.1 u.2.1 = false) → ∀ {x : Tie}, x ∈ ts → kOf ts x.1 x.2.1 = x.2.2
  | [], _, _, h => by simp at h
  | t :: r, p, x, h => by
    rw [List.pairwise_cons] at p
    rw [kOf_cons]
    rcases List.mem_cons.mp h with z | z
    · subst z
      rw [if_pos (kmt_iff.mpr (.inl ⟨rfl, rfl⟩))]
    · rw [if_neg (by rw [p.1 x z]; exact Bool.false_ne_true)]
      exact kOf_mem p.2 z
theorem kOf_some {ts : List Tie} {a b : Nat} (h : kOf ts a b ≠ 0) : ∃ t ∈ ts, kmt t a b = true ∧ t.2.2 = kOf ts a b := by
  induction ts with
  | nil => exact absurd rfl h
  | cons t r ih =>
    rw [kOf_cons] at h ⊢
    by_cases z : kmt t a b = true
    · rw [if_pos z]
      exact ⟨t, List.mem_cons_self, z, rfl⟩
    · rw [if_neg z] at h ⊢
      obtain ⟨u, h1, h2⟩ := ih h
      exact ⟨u, List.mem_cons_of_mem _ h1, h2⟩
theorem STies.pw {n : Nat} {ts : List Tie} (h : STies n ts) : ts.Pairwise (fun t u => kmt t u.1 u.2.1 = false) := by
  have : ts.Pairwise fun t u => ltT t u ∧ t ∈ ts ∧ u ∈ ts := List.Pairwise.imp_of_mem (fun {a b} ha hb r => ⟨r, ha, hb⟩) h.so
  refine this.imp fun {t u} ⟨r, ht, hu⟩ => ?_
  have b1 := h.bd t ht
  have b2 := h.bd u hu
  rw [← Bool.not_eq_true]
  intro z
  have e := (kmt_sorted b1.1 b2.1).mp z
  unfold ltT at r
  omega
/-- the yard that rows tell -/
def yOf (n : Nat) (m : Nat → Int) (ts : List Tie) : Y := ⟨n, m, kOf ts⟩
theorem STies.ties {n : Nat} {ts : List Tie} (h : STies n ts) (m : Nat → Int) : (yOf n m ts).ties = ts := by
  refine sorted_ext ltT_irr ltT_asym (tiesOf_pw _ _ _) h.so fun x => ?_
  show x ∈ tiesOf (kOf ts) n n ↔ _
  rw [mem_tiesOf]
  constructor
  · rintro ⟨h1, h2, h3, h4, h5⟩
    obtain ⟨t, ht, k1, k2⟩ := kOf_some (ts := ts) (a := x.1) (b := x.2.1) (by omega)
    obtain ⟨e1, e2⟩ := (kmt_sorted (h.bd t ht).1 h2).mp k1
    have : x = t := Prod.ext e1.symm (Prod.ext e2.symm (by omega))
    rw [this]; exact ht
  · intro hx
    have b := h.bd x hx
    exact ⟨by omega, b.1, b.2.1, (kOf_mem h.pw hx).symm, by omega⟩
theorem kOf_bd {n : Nat} {ts : List Tie} (h : STies n ts) (a b : Nat) : 0 ≤ kOf ts a b ∧ kOf ts a b ≤ 9 := by
  by_cases z : kOf ts a b = 0
  · rw [z]; decide
  · obtain ⟨t, ht, _, k2⟩ := kOf_some z
    have := h.bd t ht
    omega
theorem yOf_ok {n : Nat} {m : Nat → Int} {ts : List Tie} (h : STies n ts) (n1 : 1 ≤ n) (n7 : n ≤ 7) (hm : ∀ i, i < n → 0 ≤ m i ∧ m i ≤ 9) : (yOf n m ts).Ok where
  n1 := n1
  n7 := n7
  m0 := hm
  sy := kOf_comm ts
  dg := fun i => by
    by_cases z : kOf ts i i = 0
    · exact z
    · obtain ⟨t, ht, k1, _⟩ := kOf_some z
      have := (h.bd t ht).1
      rcases kmt_iff.mp k1 with q | q <;> omega
  k0 := kOf_bd h
theorem Y.Ok.sties {y : Y} (h : y.Ok) : STies y.n y.ties where
  bd := fun t ht => by
    obtain ⟨h1, h2, h3, h4, h5⟩ := mem_tiesOf.mp ht
    have := h.k0 t.1 t.2.1
    omega
  so := tiesOf_pw _ _ _
theorem kOf_ties {y : Y} (h : y.Ok) {a b : Nat} (ha : a < y.n) (hb : b < y.n) : kOf y.ties a b = y.k a b := by
  have key : ∀ a b, a < b → b < y.n → kOf y.ties a b = y.k a b := fun a b hab hb => by
    by_cases z : 0 < y.k a b
    · exact kOf_mem h.sties.pw (x := (a, b, y.k a b)) (mem_tiesOf.mpr ⟨by show a < y.n; omega, hab, hb, rfl, z⟩)
    · have e : y.k a b = 0 := by have := h.k0 a b; omega
      rw [e]
      by_cases w : kOf y.ties a b = 0
      · exact w
      · obtain ⟨t, ht, k1, k2⟩ := kOf_some w
        obtain ⟨h1, h2, h3, h4, h5⟩ := mem_tiesOf.mp ht
        obtain ⟨e1, e2⟩ := (kmt_sorted h2 hab).mp k1
        rw [e1, e2] at h4
        omega
  rcases Nat.lt_trichotomy a b with z | z | z
  · exact key a b z hb
  · subst z
    rw [h.dg]
    by_cases w : kOf y.ties a a = 0
    · exact w
    · obtain ⟨t, ht, k1, _⟩ := kOf_some w
      have := (h.sties.bd t ht).1
      rcases kmt_iff.mp k1 with q | q <;> omega
  · rw [kOf_comm, h.sy, key b a z ha]
theorem Y.Ok.tok {y : Y} (h : y.Ok) : TiesOk y.n y.ties where
  bd := fun t ht => by have := h.sties.bd t ht; omega
  pw := h.sties.pw
  sz := by
    have := tiesOf_length y.k y.n y.n
    have : y.n * y.n ≤ 7 * 7 := Nat.mul_le_mul h.n7 h.n7
    show (tiesOf y.k y.n y.n).length ≤ _
    omega
theorem Y.Ok.kl {y : Y} (h : y.Ok) : matL y.n (kOf y.ties) = y.kl := by
  unfold matL
  apply List.map_congr_left
  intro i hi
  apply List.map_congr_left
  intro j hj
  exact kOf_ties h (by simpa using hi) (by simpa using hj)
theorem kmt_symm {t u : Tie} (h : kmt t u.1 u.2.1 = false) : kmt u t.1 t.2.1 = false := by
  unfold kmt at h ⊢
  rw [Bool.or_eq_false_iff, Bool.and_eq_false_iff, Bool.and_eq_false_iff] at h ⊢
  simp only [beq_eq_false_iff_ne] at h ⊢
  omega
theorem kmt_two {t u : Tie} {a b : Nat} (h1 : kmt t a b = true) (h2 : kmt u a b = true) : kmt t u.1 u.2.1 = true := by
  unfold kmt at *
  simp only [Bool.or_eq_true, Bool.and_eq_true, beq_iff_eq] at *
  omega
theorem kOf_hit {ts : List Tie} (pw : ts.Pairwise fun t u => kmt t u.1 u.2.1 = false) {t : Tie} (ht : t ∈ ts) {a b : Nat} (h : kmt t a b = true) : kOf ts a b = t.2.2 := by
  unfold kOf
  induction ts with
  | nil => cases ht
  | cons u ts ih =>
    rw [List.pairwise_cons] at pw
    rw [List.find?_cons]
    cases e : kmt u a b with
    | true =>
      rcases List.mem_cons.mp ht with z | z
      · rw [z]
      · have := pw.1 t z
        rw [kmt_two e h] at this
        cases this
    | false =>
      rcases List.mem_cons.mp ht with z | z
      · rw [z, e] at h; cases h
      · exact ih pw.2 z
theorem pairwise_flatMap {α β : Type} {r : α → α → Prop} {s : β → β → Prop} {f : α → List β} : ∀ {l : List α}, l.Pairwise r → (∀ a ∈ l, (f a).Pairwise s) → (∀ a ∈ l, ∀ b ∈ l, r a b → ∀ x ∈ f a, ∀ y ∈ f b, s x y) → (l.flatMap f).Pairwise s
  | [], _, _, _ => by simp
  | a :: l, h, h1, h2 => by
    rw [List.pairwise_cons] at h
    rw [List.flatMap_cons, List.pairwise_append]
    refine ⟨h1 a List.mem_cons_self, pairwise_flatMap h.2 (fun b hb => h1 b (List.mem_cons_of_mem _ hb)) (fun b hb c hc => h2 b (List.mem_cons_of_mem _ hb) c (List.mem_cons_of_mem _ hc)), fun x hx y hy => ?_⟩
    obtain ⟨b, hb, hy⟩ := List.mem_flatMap.mp hy
    exact h2 a List.mem_cons_self b (List.mem_cons_of_mem _ hb) (h.1 b hb) x hx y hy

/-! ### rows that are drawn -/
structure SoFar (n : Nat) (ts : List Tie) (i j L : Nat) : Prop where
  bd : ∀ t ∈ ts, t.1 < t.2.1 ∧ t.2.1 < n ∧ 1 ≤ t.2.2 ∧ t.2.2 ≤ 9
  so : ts.Pairwise ltT
  lt : ∀ t ∈ ts, t.1 < i ∨ (t.1 = i ∧ t.2.1 < j)
  ln : ts.length ≤ L
theorem SoFar.nil (n : Nat) : SoFar n [] 0 0 0 := ⟨by simp, .nil, by simp, Nat.le_refl _⟩
theorem SoFar.begin {n i L : Nat} {ts : List Tie} (h : SoFar n ts i 0 L) : SoFar n ts i (i + 1 + 0) (L + 0) := ⟨h.bd, h.so, fun t ht => by have := h.lt t ht; omega, h.ln⟩
theorem SoFar.skip {n i j L : Nat} {ts : List Tie} (h : SoFar n ts i j L) : SoFar n ts i (j + 1) (L + 1) := ⟨h.bd, h.so, fun t ht => by have := h.lt t ht; omega, by have := h.ln; omega⟩
theorem SoFar.row {n i j L : Nat} {ts : List Tie} (h : SoFar n ts i j L) : SoFar n ts (i + 1) 0 L := ⟨h.bd, h.so, fun t ht => by have := h.lt t ht; omega, h.ln⟩
theorem SoFar.up {n i j L L' : Nat} {ts : List Tie} (h : SoFar n ts i j L) (e : L ≤ L') : SoFar n ts i j L' := ⟨h.bd, h.so, h.lt, by have := h.ln; omega⟩
theorem SoFar.snoc {n i j L : Nat} {ts : List Tie} (h : SoFar n ts i j L) (ij : i < j) (jn : j < n) {c : Int} (c1 : 1 ≤ c) (c9 : c ≤ 9) : SoFar n (ts ++ [(i, j, c)]) i (j + 1) (L + 1) := by
  refine ⟨fun t ht => ?_, ?_, fun t ht => ?_, by have := h.ln; simp; omega⟩
  · rcases List.mem_append.mp ht with z | z
    · exact h.bd t z
    · have : t = (i, j, c) := by simpa using z
      subst this
      exact ⟨ij, jn, c1, c9⟩
  · rw [List.pairwise_append]
    refine ⟨h.so, by simp, fun a ha b hb => ?_⟩
    have : b = (i, j, c) := by simpa using hb
    subst this
    exact h.lt a ha
  · rcases List.mem_append.mp ht with z | z
    · have := h.lt t z; omega
    · have : t = (i, j, c) := by simpa using z
      subst this
      exact .inr ⟨rfl, Nat.lt_succ_self _⟩
theorem SoFar.sties {n i j L : Nat} {ts : List Tie} (h : SoFar n ts i j L) : STies n ts := ⟨h.bd, h.so⟩
def msF (ms : List Int) : Nat → Int := fun i => ms.getD i 0
theorem msF_map {n : Nat} {ms : List Int} (h : ms.length = n) : (List.range n).map (msF ms) = ms := by
  subst h
  apply List.ext_getElem
  · simp
  · intro i h1 h2
    simp [msF, List.getD, h2]
theorem msF_bd {n : Nat} {ms : List Int} (h : ms.length = n) (b : ∀ x ∈ ms, 0 ≤ x ∧ x ≤ 9) : ∀ i, i < n → 0 ≤ msF ms i ∧ msF ms i ≤ 9 := fun i hi => by
  have h2 : i < ms.length := by omega
  have e : msF ms i = ms[i] := by simp [msF, List.getD, h2]
  rw [e]
  exact b _ (List.getElem_mem h2)
theorem rows_of {n : Nat} {ms : List Int} {ts : List Tie} (h : ms.length = n) (st : STies n ts) : rowsD (yOf n (msF ms) ts) = .tuple [.list (ms.map PyData.int), .list (ts.map tieD)] := by
  show PyData.tuple [.list (((List.range n).map (msF ms)).map PyData.int), .list ((yOf n (msF ms) ts).ties.map tieD)] = _
  rw [msF_map h, st.ties]
def MsOk (n : Nat) (ms : List Int) : Prop := ms.length = n ∧ ∀ x ∈ ms, 0 ≤ x ∧ x ≤ 9
theorem MsOk.snoc {n : Nat} {ms : List Int} (h : MsOk n ms) {x : Int} (h0 : 0 ≤ x) (h9 : x ≤ 9) : MsOk (n + 1) (ms ++ [x]) := ⟨by simp [h.1], fun y hy => by
  rcases List.mem_append.mp hy with z | z
  · exact h.2 y z
  · have : y = x := by simpa using z
    subst this; exact ⟨h0, h9⟩⟩
theorem ints_snoc (ms : List Int) (x : Int) : ms.map PyData.int ++ [.int x] = (ms ++ [x]).map PyData.int := by simp
theorem ties_snoc (ts : List Tie) (a b : Nat) (c : Int) : ts.map tieD ++ [.tuple [nI a, nI b, .int c]] = (ts ++ [(a, b, c)]).map tieD := by simp
theorem ks_at {ks : List Int} {j : Nat} (h : j < ks.length) : atI (ks.map PyData.int) (j : Int) = some (.int ks[j]) := by
  rw [atI_map, atI_some h]; rfl
theorem drawn_kinds {j : Nat} (h : j < 4) : ∃ ks : List Int, atI [PyData.list [.int 0, .int 1], .list [.int 0, .int 0, .int 0, .int 1], .list [.int 0, .int 1, .int 2], .list [.int 0, .int 1, .int 2, .int 3, .int 4, .int 5, .int 6, .int 7, .int 8, .int 9]] (j : Int) = some (.list (ks.map PyData.int)) ∧ 1 ≤ ks.length ∧ ks.length ≤ 10 ∧ ∀ x ∈ ks, 0 ≤ x ∧ x ≤ 9 := by
  obtain rfl | rfl | rfl | rfl : j = 0 ∨ j = 1 ∨ j = 2 ∨ j = 3 := by omega
  · exact ⟨[0, 1], rfl, by decide, by decide, by decide⟩
  · exact ⟨[0, 0, 0, 1], rfl, by decide, by decide, by decide⟩
  · exact ⟨[0, 1, 2], rfl, by decide, by decide, by decide⟩
  · exact ⟨[0, 1, 2, 3, 4, 5, 6, 7, 8, 9], rfl, by decide, by decide, by decide⟩
def spRows : Spc := fun as Q => ∃ most : Nat, as = [.box, .d (nI most)] ∧ 1 ≤ most ∧ most ≤ 7 ∧ ∀ y : Y, y.Ok → y.n ≤ most → Q (.d (rowsD y))
theorem c_law_yard (T : Txt K mg C) : Cal P w K mg base C "_law_yard" 2 spRows := by
  have c_law_take := c_law_take (P := P) (w := w) (base := base) T
  refine cal_of T.d_law_yard sc_law_yard (fun as Q h => by obtain ⟨_, rfl, _⟩ := h; rfl) fun f cdv A0 outer s H E hr G F as Q hs => ?_
  obtain ⟨most, rfl, h1, h7, hQ⟩ := hs
  refine ⟨_, _, (pss_consA (ps_setA (i := 2) sc_law_yard.nd (pd_add (K := K) pd_int (pd_call c_law_take hr (by omega) (pda_cons (pd_var 0) (pda_cons (pd_var 1) pda_nil)))))
  (pss_consA (ps_setA (i := 3) sc_law_yard.nd (pd_lc [("_law_place", 9)] sc_law_yard.nd (pi_range1A T.range (pda_cons (pd_var 2) pda_nil)) (blkOk_by (N := n_law_yard) (sc := defScope s_law_yard) (by decide +kernel)) (fun _ _ _ _ _ => (pg_nameA 9 sc_law_yard.nd)) (fun _ _ _ _ _ => pts_nilA) (fun _ _ _ _ _ => (pd_ix (K := K) (pd_lst (pda_cons pd_int (pda_cons (pd_call c_law_take hr (by omega) (pda_cons (pd_var 0) (pda_cons pd_int pda_nil))) (pda_cons (pd_call c_law_take hr (by omega) (pda_cons (pd_var 0) (pda_cons pd_int pda_nil))) pda_nil)))) (pd_call c_law_take hr (by omega) (pda_cons (pd_var 0) (pda_cons pd_int pda_nil))))) (gw_name (by decide))))
  (pss_consA (ps_setA (i := 4) sc_law_yard.nd (pd_ix (K := K) (pd_lst (pda_cons (pd_lst (pda_cons pd_int (pda_cons pd_int pda_nil))) (pda_cons (pd_lst (pda_cons pd_int (pda_cons pd_int (pda_cons pd_int (pda_cons pd_int pda_nil))))) (pda_cons (pd_lst (pda_cons pd_int (pda_cons pd_int (pda_cons pd_int pda_nil)))) (pda_cons (pd_lst (pda_cons pd_int (pda_cons pd_int (pda_cons pd_int (pda_cons pd_int (pda_cons pd_int (pda_cons pd_int (pda_cons pd_int (pda_cons pd_int (pda_cons pd_int (pda_cons pd_int pda_nil))))))))))) pda_nil))))) (pd_call c_law_take hr (by omega) (pda_cons (pd_var 0) (pda_cons pd_int pda_nil)))))
  (pss_consA (ps_ifA (pt_eq (K := K) hr (pd_call c_law_take hr (by omega) (pda_cons (pd_var 0) (pda_cons pd_int pda_nil))) pd_int) (pss_oneA (ps_setA (i := 3) sc_law_yard.nd (pd_lc [("_law_place", 9)] sc_law_yard.nd (pi_range1A T.range (pda_cons (pd_var 2) pda_nil)) (blkOk_by (N := n_law_yard) (sc := defScope s_law_yard) (by decide +kernel)) (fun _ _ _ _ _ => (pg_nameA 9 sc_law_yard.nd)) (fun _ _ _ _ _ => pts_nilA) (fun _ _ _ _ _ => (pd_ix (K := K) (pd_var 3) pd_int)) (gw_name (by decide))))) pss_nilA)
  (pss_consA (ps_setA (i := 5) sc_law_yard.nd (pd_lst pda_nil))
  (pss_consA (ps_forA (pi_range1A T.range (pda_cons (pd_var 2) pda_nil)) (pg_nameA 6 sc_law_yard.nd) (pss_oneA (ps_forA (pi_range2A T.range (pda_cons (pd_add (K := K) (pd_var 6) pd_int) (pda_cons (pd_var 2) pda_nil))) (pg_nameA 7 sc_law_yard.nd) (pss_consA (ps_setA (i := 8) sc_law_yard.nd (pd_ix (K := K) (pd_var 4) (pd_call c_law_take hr (by omega) (pda_cons (pd_var 0) (pda_cons (pd_len (K := K) T.len (pda_cons (pd_var 4) pda_nil)) pda_nil)))))
  (pss_oneA (ps_ifA (pt_gt (pd_var 8) pd_int) (pss_oneA (ps_appA (pd_var 5) (pd_tup (pda_cons (pd_var 6) (pda_cons (pd_var 7) (pda_cons (pd_var 8) pda_nil)))))) pss_nilA))) PassesOwn.never)) PassesOwn.never)
  (pss_oneA (ps_fz 5 (ps_fz 3 (ps_retA (pd_tup (pda_cons (pd_var 3) (pda_cons (pd_var 5) pda_nil))))))))))))), ?_⟩
  walk_at "wp"
  refine ⟨most, rfl, h1, by omega, fun many0 hm0 => ?_⟩
  walk_at "wp"
  obtain ⟨n, en, n1, nm⟩ : ∃ n : Nat, (1 : Int) + (many0 : Int) = (n : Int) ∧ 1 ≤ n ∧ n ≤ most := ⟨1 + many0, by omega, by omega, by omega⟩
  rw [en]
  walk_at "wp"
  refine ⟨by omega, by omega, fun i acc => ∃ ms, acc = ms.map PyData.int ∧ MsOk i ms, ⟨[], rfl, rfl, by simp⟩, fun i d acc hd hI => ⟨fun _ => ?_, fun z => (by cases z)⟩, ?_⟩
  · obtain ⟨ms, rfl, ok⟩ := hI
    obtain ⟨hi, _⟩ := rgD0_get hd
    refine ⟨2, rfl, by decide, by decide, fun a ha => ⟨10, rfl, by decide, by decide, fun b hb => ?_⟩⟩
    walk_at "wp"
    refine ⟨by decide, 3, rfl, by decide, by decide, fun j hj => ?_⟩
    have sz : ms.length < sizeLine := sz_lt (by rw [ok.1]; omega)
    have fin : ∀ x : Int, 0 ≤ x → x ≤ 9 → ms.length < sizeLine ∧ ∃ ms', ms.map PyData.int ++ [.int x] = ms'.map PyData.int ∧ MsOk (i + 1) ms' := fun x h0 h9 => ⟨sz, _, ints_snoc ms x, ok.snoc h0 h9⟩
    obtain rfl | rfl | rfl : j = 0 ∨ j = 1 ∨ j = 2 := by omega
    all_goals
      refine ⟨_, rfl, ?_⟩
      walk_at "wp"
    · exact fin 0 (by decide) (by decide)
    · exact fin a (by omega) (by omega)
    · exact fin b (by omega) (by omega)
  rintro acc ⟨ms, rfl, ok⟩
  refine ⟨by decide, by decide, by decide, by decide, by decide, 4, rfl, by decide, by decide, fun j hj => ?_⟩
  obtain ⟨ks, ek, k1, k2, k3⟩ := drawn_kinds hj
  walk_at "wp"
  refine ⟨_, ek, ?_⟩
  walk_at "wp"
  refine ⟨2, rfl, by decide, by decide, fun w0 hw0 => ?_⟩
  walk_at "wp"
  refine ⟨fun hw => ⟨by omega, by omega, fun i acc => ∃ ms, acc = ms.map PyData.int ∧ MsOk i ms, ⟨[], rfl, rfl, by simp⟩, fun i d acc hd hI => ⟨fun _ => ?_, fun z => (by cases z)⟩, ?_⟩, fun hw => ?_⟩
  · obtain ⟨ms2, rfl, ok2⟩ := hI
    obtain ⟨hi, _⟩ := rgD0_get hd
    refine ⟨_, ks_at (j := 0) (by rw [ok.1]; omega), sz_lt (by rw [List.length_map, ok2.1]; omega), _, ints_snoc ms2 _, ok2.snoc (ok.2 _ (List.getElem_mem _)).1 (ok.2 _ (List.getElem_mem _)).2⟩
  any_goals first
    | (clear ok ms; rintro acc ⟨ms, rfl, ok⟩)
    | skip
  all_goals
    refine ⟨by decide, by omega, by omega, fun i ρ => ∃ ts a b c d, ρ = [.box, .d (nI most), .d (.int n), .own (ms.map PyData.int), .d (.list (ks.map PyData.int)), .own (ts.map tieD), a, b, c, d] ∧ SoFar n ts i 0 (i * n), ⟨[], _, _, _, _, rfl, by rw [Nat.zero_mul]; exact SoFar.nil n⟩, fun i d ρ hd hI => ?_, fun ρ hI => ?_⟩
    · obtain ⟨hi, rfl⟩ := rgD0_get hd
      obtain ⟨ts, a, b, c, d, rfl, sf⟩ := hI
      walk_at "wp"
      refine ⟨by omega, fun t ρ => ∃ ts b c, ρ = [.box, .d (nI most), .d (.int n), .own (ms.map PyData.int), .d (.list (ks.map PyData.int)), .own (ts.map tieD), .d (nI i), b, c, d] ∧ SoFar n ts i (i + 1 + t) (i * n + t), ⟨ts, _, _, rfl, sf.begin⟩, fun t d2 ρ hd hI => ?_, fun ρ hI => ?_⟩
      · have e1 : ((i : Int) + 1) = ((i + 1 : Nat) : Int) := by omega
        rw [e1, show ((n : Int) - ((i + 1 : Nat) : Int)).toNat = n - (i + 1) by omega] at hd
        obtain ⟨ht, rfl⟩ := rgD1_get hd
        clear sf
        obtain ⟨ts, b, c, rfl, sf⟩ := hI
        walk_at "wp"
        refine ⟨ks.length, rfl, by omega, by omega, fun j2 hj2 => ?_⟩
        walk_at "wp"
        refine ⟨_, ks_at hj2, ?_⟩
        walk_at "wp"
        have b9 := k3 _ (List.getElem_mem hj2)
        have hin : i * n ≤ 7 * 7 := Nat.mul_le_mul (by omega) (by omega)
        refine ⟨fun h3 => ⟨by decide, sz_lt (by have := sf.ln; omega), ?_⟩, fun h3 => ⟨_, _, _, rfl, sf.skip⟩⟩
        have h3 := of_decide_eq_true h3
        exact ⟨_, _, _, by rw [ties_snoc], sf.snoc (by omega) (by omega) (by omega) b9.2⟩
      · obtain ⟨ts, b, c, rfl, sf⟩ := hI
        exact ⟨_, _, _, _, _, rfl, sf.row.up (by
          rw [Nat.succ_mul]
          have : ((n : Int) - ((i : Int) + 1)).toNat ≤ n := by omega
          omega)⟩
    · obtain ⟨ts, a, b, c, d, rfl, sf⟩ := hI
      walk_at "wp"
      refine ⟨by decide, ?_⟩
      rw [← rows_of ok.1 sf.sties]
      exact hQ _ (yOf_ok sf.sties n1 (by omega) (msF_bd ok.1 ok.2)) nm

theorem even_n {j : Nat} (h : j < 6) : ∃ n : Nat, atI [PyData.int 3, .int 4, .int 5, .int 6, .int 6, .int 7] (j : Int) = some (nI n) ∧ 3 ≤ n ∧ n ≤ 7 := by
  obtain rfl | rfl | rfl | rfl | rfl | rfl : j = 0 ∨ j = 1 ∨ j = 2 ∨ j = 3 ∨ j = 4 ∨ j = 5 := by omega
  · exact ⟨3, rfl, by decide, by decide⟩
  · exact ⟨4, rfl, by decide, by decide⟩
  · exact ⟨5, rfl, by decide, by decide⟩
  · exact ⟨6, rfl, by decide, by decide⟩
  · exact ⟨6, rfl, by decide, by decide⟩
  · exact ⟨7, rfl, by decide, by decide⟩
theorem zeros_flat (n : Nat) : (List.replicate n [PyData.int 0]).flatten = (List.replicate n (0 : Int)).map PyData.int := by
  induction n with
  | zero => rfl
  | succ n ih => rw [List.replicate_succ, List.flatten_cons, ih]; rfl
def spEven : Spc := fun as Q => as = [.box] ∧ ∀ y : Y, y.Ok → Q (.d (rowsD y))
theorem c_law_even (T : Txt K mg C) : Cal P w K mg base C "_law_even" 2 spEven := by
  have c_law_take := c_law_take (P := P) (w := w) (base := base) T
  refine cal_of T.d_law_even sc_law_even (fun as Q h => by obtain ⟨rfl, _⟩ := h; rfl) fun f cdv A0 outer s H E hr G F as Q hs => ?_
  obtain ⟨rfl, hQ⟩ := hs
  refine ⟨_, _, (pss_consA (ps_setA (i := 1) sc_law_even.nd (pd_ix (K := K) (pd_lst (pda_cons pd_int (pda_cons pd_int (pda_cons pd_int (pda_cons pd_int (pda_cons pd_int (pda_cons pd_int pda_nil))))))) (pd_call c_law_take hr (by omega) (pda_cons (pd_var 0) (pda_cons pd_int pda_nil)))))
  (pss_consA (ps_setLcA (i := 2) [("_law_k", 6)] sc_law_even.nd (pi_range1A T.range (pda_cons (pd_add (K := K) pd_int (pd_call c_law_take hr (by omega) (pda_cons (pd_var 0) (pda_cons pd_int pda_nil)))) pda_nil)) (blkOk_by (N := n_law_even) (sc := defScope s_law_even) (by decide +kernel)) (fun _ _ _ _ _ => (pg_nameA 6 sc_law_even.nd)) (fun _ _ _ _ _ => pts_nilA) (fun _ _ _ _ _ => (pd_add (K := K) pd_int (pd_call c_law_take hr (by omega) (pda_cons (pd_var 0) (pda_cons (pd_sub (pd_var 1) pd_int) pda_nil))))) (gw_name (by decide)) (sw_true rfl rfl rfl (by decide +kernel)))
  (pss_consA (ps_ifA (PDW.t (pw_andA (pt_eq (K := K) hr (pd_var 1) pd_int) (pw_and1A (pt_eq (K := K) hr (pd_call c_law_take hr (by omega) (pda_cons (pd_var 0) (pda_cons pd_int pda_nil))) pd_int)))) (pss_oneA (ps_setA (i := 2) sc_law_even.nd (pd_lst (pda_cons pd_int pda_nil)))) pss_nilA)
  (pss_consA (ps_setA (i := 3) sc_law_even.nd (pd_lst pda_nil))
  (pss_consA (ps_forA (pi_range1A T.range (pda_cons (pd_var 1) pda_nil)) (pg_nameA 4 sc_law_even.nd) (pss_oneA (ps_forA (pi_range2A T.range (pda_cons (pd_add (K := K) (pd_var 4) pd_int) (pda_cons (pd_var 1) pda_nil))) (pg_nameA 5 sc_law_even.nd) (pss_oneA (ps_ifA (PDW.t (pw_orA (pt_in (K := K) hr (pd_sub (pd_var 5) (pd_var 4)) (pd_var 2)) (pw_or1A (pt_in (K := K) hr (pd_add (K := K) (pd_sub (pd_var 1) (pd_var 5)) (pd_var 4)) (pd_var 2))))) (pss_oneA (ps_appA (pd_var 3) (pd_tup (pda_cons (pd_var 4) (pda_cons (pd_var 5) (pda_cons pd_int pda_nil)))))) pss_nilA)) PassesOwn.never)) PassesOwn.never)
  (pss_oneA (ps_fz 3 (ps_retA (pd_tup (pda_cons (pd_mul (pd_lst (pda_cons pd_int pda_nil)) (pd_var 1)) (pda_cons (pd_var 3) pda_nil))))))))))), ?_⟩
  walk_at "wp"
  refine ⟨by decide, 6, rfl, by decide, by decide, fun j hj => ?_⟩
  obtain ⟨n, en, n3, n7⟩ := even_n hj
  refine ⟨_, en, ?_⟩
  walk_at "wp"
  refine ⟨2, rfl, by decide, by decide, fun g hg => ?_⟩
  walk_at "wp"
  refine ⟨by omega, by omega, fun i acc => ∃ gs : List Int, acc = gs.map PyData.int ∧ gs.length = i, ⟨[], rfl, rfl⟩, fun i d acc hd hI => ⟨fun _ => ?_, fun z => (by cases z)⟩, ?_⟩
  · obtain ⟨gs, rfl, gl⟩ := hI
    obtain ⟨hi, _⟩ := rgD_get hd
    refine ⟨n - 1, by rw [show ((n : Int) - 1) = ((n - 1 : Nat) : Int) by omega], by omega, by omega, fun a ha => ?_⟩
    walk_at "wp"
    exact ⟨sz_lt (by omega), _, ints_snoc gs _, by simp [gl]⟩
  rintro acc ⟨gs, rfl, gl⟩
  refine ⟨fun h6 => ⟨2, rfl, by decide, by decide, fun a ha => ?_⟩, fun h6 => ⟨fun z => (by cases z), fun _ => ?_⟩⟩
  any_goals first
    | (walk_at "wp"; refine ⟨fun _ => ⟨by decide, ?_⟩, fun _ => ?_⟩)
    | skip
  any_goals first
    | (clear gl gs; rw [show [PyData.int 2] = ([2] : List Int).map PyData.int from rfl]; generalize ([2] : List Int) = gs)
    | skip
  all_goals
    refine ⟨by decide, by omega, by omega, fun i ρ => ∃ ts a b c, ρ = [.box, .d (nI n), .own (gs.map PyData.int), .own (ts.map tieD), a, b, c] ∧ SoFar n ts i 0 (i * n), ⟨[], _, _, _, rfl, by rw [Nat.zero_mul]; exact SoFar.nil n⟩, fun i d ρ hd hI => ?_, fun ρ hI => ?_⟩
    · obtain ⟨hi, rfl⟩ := rgD0_get hd
      obtain ⟨ts, a, b, c, rfl, sf⟩ := hI
      walk_at "wp"
      refine ⟨by omega, fun t ρ => ∃ ts b c, ρ = [.box, .d (nI n), .own (gs.map PyData.int), .own (ts.map tieD), .d (nI i), b, c] ∧ SoFar n ts i (i + 1 + t) (i * n + t), ⟨ts, _, _, rfl, sf.begin⟩, fun t d2 ρ hd hI => ?_, fun ρ hI => ?_⟩
      · have e1 : ((i : Int) + 1) = ((i + 1 : Nat) : Int) := by omega
        rw [e1, show ((n : Int) - ((i + 1 : Nat) : Int)).toNat = n - (i + 1) by omega] at hd
        obtain ⟨ht, rfl⟩ := rgD1_get hd
        clear sf
        obtain ⟨ts, b, c, rfl, sf⟩ := hI
        walk_at "wp"
        have hin : i * n ≤ 7 * 7 := Nat.mul_le_mul (by omega) (by omega)
        have app : 3 ≤ sizeLine ∧ ts.length < sizeLine ∧ ∃ ts' b' c', [A.box, .d (nI n), .own (gs.map PyData.int), .own (ts.map tieD ++ [.tuple [nI i, nI (i + 1 + t), .int 1]]), .d (nI i), .d (nI (i + 1 + t)), c] = [A.box, .d (nI n), .own (gs.map PyData.int), .own (ts'.map tieD), .d (nI i), b', c'] ∧ SoFar n ts' i (i + 1 + (t + 1)) (i * n + (t + 1)) :=
          ⟨by decide, sz_lt (by have := sf.ln; omega), _, _, _, by rw [ties_snoc], sf.snoc (by omega) (by omega) (by decide) (by decide)⟩
        refine ⟨shaped_int _, shaped_ints' gs, fun _ => ⟨fun _ => app, fun z => (by cases z)⟩, fun _ => ⟨shaped_int _, shaped_ints' gs, fun _ => app, fun _ => ⟨_, _, _, rfl, sf.skip⟩⟩⟩
      · obtain ⟨ts, b, c, rfl, sf⟩ := hI
        exact ⟨_, _, _, _, rfl, sf.row.up (by
          rw [Nat.succ_mul]
          have : ((n : Int) - ((i : Int) + 1)).toNat ≤ n := by omega
          omega)⟩
    · obtain ⟨ts, a, b, c, rfl, sf⟩ := hI
      walk_at "wp"
      refine ⟨by decide, by omega, by omega, sz_of (by omega), by decide, ?_⟩
      have hz : (List.replicate n (0 : Int)).length = n := by simp
      rw [zeros_flat, ← rows_of hz sf.sties]
      exact hQ _ (yOf_ok sf.sties (by omega) n7 (msF_bd hz fun x hx => by rw [List.eq_of_mem_replicate hx]; decide))
theorem c_law_drawn (T : Txt K mg C) : Cal P w K mg base C "_law_drawn" 3 spRows := by
  have c_law_take := c_law_take (P := P) (w := w) (base := base) T
  have c_law_even := c_law_even (P := P) (w := w) (base := base) T
  have c_law_yard := c_law_yard (P := P) (w := w) (base := base) T
  refine cal_of T.d_law_drawn sc_law_drawn (fun as Q h => by obtain ⟨_, rfl, _⟩ := h; rfl) fun f cdv A0 outer s H E hr G F as Q hs => ?_
  obtain ⟨most, rfl, h1, h7, hQ⟩ := hs
  refine ⟨_, _, (pss_consA (ps_ifA (pt_eq (K := K) hr (pd_call c_law_take hr (by omega) (pda_cons (pd_var 0) (pda_cons pd_int pda_nil))) pd_int) (pss_consA (ps_setA (i := 2) sc_law_drawn.nd (pd_call c_law_even hr (by omega) (pda_cons (pd_var 0) pda_nil)))
  (pss_oneA (ps_ifA (pt_le (pd_len (K := K) T.len (pda_cons (pd_ix (K := K) (pd_var 2) pd_int) pda_nil)) (pd_var 1)) (pss_oneA (ps_retA (pd_var 2))) pss_nilA))) pss_nilA)
  (pss_oneA (ps_retA (pd_call c_law_yard hr (by omega) (pda_cons (pd_var 0) (pda_cons (pd_var 1) pda_nil)))))), ?_⟩
  walk_at "wp"
  refine ⟨4, rfl, by decide, by decide, fun a ha => ?_⟩
  walk_at "wp"
  refine ⟨fun _ => ⟨rfl, fun y ok => ?_⟩, fun _ => ⟨most, rfl, h1, h7, fun y ok hy => ?_⟩⟩
  · walk_at "wp"
    refine ⟨_, rfl, ?_⟩
    walk_at "wp"
    refine ⟨fun h => hQ y ok (by simpa using h), fun _ => ⟨most, rfl, h1, h7, fun y ok hy => ?_⟩⟩
    walk_at "wp"
    exact hQ y ok hy
  · walk_at "wp"
    exact hQ y ok hy
/-! ### names that are drawn -/
theorem erase_map {α β : Type} (f : α → β) : ∀ (l : List α) (k : Nat), (l.map f).eraseIdx k = (l.eraseIdx k).map f
  | [], _ => rfl
  | _ :: _, 0 => rfl
  | a :: l, k + 1 => by rw [List.map_cons, List.eraseIdx_cons_succ, List.eraseIdx_cons_succ, List.map_cons, erase_map f l k]
theorem erase_cons_perm : ∀ {l : List Nat} {i : Nat} (h : i < l.length), (l[i] :: l.eraseIdx i).Perm l
  | [], _, h => by simp at h
  | a :: l, 0, _ => .refl _
  | a :: l, i + 1, h => by
    have h' : i < l.length := by simpa using h
    have ih := erase_cons_perm h'
    simp only [List.getElem_cons_succ, List.eraseIdx_cons_succ]
    exact (List.Perm.swap a l[i] _).trans (ih.cons a)
theorem erase_perm {l : List Nat} {i : Nat} (h : i < l.length) (g : List Nat) : (l.eraseIdx i ++ (g ++ [l[i]])).Perm (l ++ g) := by
  have p1 : (l[i] :: l.eraseIdx i).Perm l := erase_cons_perm h
  have p2 : (l.eraseIdx i ++ (g ++ [l[i]])).Perm (l[i] :: (l.eraseIdx i ++ g)) := by
    rw [← List.append_assoc]
    exact List.perm_append_singleton _ _
  exact p2.trans (p1.append_right g)
def spNames : Spc := fun as Q => ∃ n : Nat, as = [.box, .d (nI n)] ∧ n ≤ 7 ∧ ∀ l : List Nat, l.length = n → l.Nodup → (∀ x ∈ l, x < n) → Q (.d (NL l))
theorem c_law_names (T : Txt K mg C) : Cal P w K mg base C "_law_names" 2 spNames := by
  have c_law_take := c_law_take (P := P) (w := w) (base := base) T
  refine cal_of T.d_law_names sc_law_names (fun as Q h => by obtain ⟨_, rfl, _⟩ := h; rfl) fun f cdv A0 outer s H E hr G F as Q hs => ?_
  obtain ⟨n, rfl, h7, hQ⟩ := hs
  refine ⟨_, _, (pss_consA (ps_setA (i := 2) sc_law_names.nd (pd_lstRg T.list (pr_1 T.range (pd_var 1))))
  (pss_consA (ps_setA (i := 3) sc_law_names.nd (pd_lst pda_nil))
  (pss_consA (ps_forA (pi_range1A T.range (pda_cons (pd_var 1) pda_nil)) (pg_nameA 4 sc_law_names.nd) (pss_oneA (ps_appPopA (pd_var 3) (pd_var 2) (pd_call c_law_take hr (by omega) (pda_cons (pd_var 0) (pda_cons (pd_len (K := K) T.len (pda_cons (pd_var 2) pda_nil)) pda_nil))))) PassesOwn.never)
  (pss_oneA (ps_fz 3 (ps_retA (pd_var 3))))))), ?_⟩
  walk_at "wp"
  refine ⟨⟨by decide, by omega⟩, by decide, by omega, by omega, fun i ρ => ∃ left got a, ρ = [.box, .d (nI n), .own (left.map nI), .own (got.map nI), a] ∧ left.length = n - i ∧ got.length = i ∧ (left ++ got).Nodup ∧ ∀ x ∈ left ++ got, x < n, ⟨List.range n, [], .un, ?_, by simp, rfl, ?_, ?_⟩, fun i d ρ hd hI => ?_, fun ρ hI => ?_⟩
  · rw [show ((n : Int) - 0).toNat = n by omega, rgD0]; rfl
  · simp [List.nodup_range]
  · simp
  · obtain ⟨hi, rfl⟩ := rgD0_get hd
    obtain ⟨left, got, a, rfl, l1, l2, nd, bd⟩ := hI
    walk_at "wp"
    refine ⟨by decide, sz_lt (by omega), sz_of (by omega), left.length, rfl, by omega, by omega, fun k hk => ?_⟩
    walk_at "wp"
    refine ⟨by omega, by omega, fun d1 hd1 => ?_⟩
    have hd1 : (left.map nI)[k]? = some d1 := hd1
    rw [List.getElem?_map, List.getElem?_eq_getElem hk] at hd1
    obtain rfl : nI left[k] = d1 := by simpa using hd1
    have pm := erase_perm hk got
    refine ⟨left.eraseIdx k, got ++ [left[k]], .d (nI i), ?_, by rw [List.length_eraseIdx_of_lt hk]; omega, by simp [l2], pm.nodup_iff.mpr nd, fun x hx => bd x (pm.mem_iff.mp hx)⟩
    rw [names_snoc, erase_map]
  · obtain ⟨left, got, a, rfl, l1, l2, nd, bd⟩ := hI
    walk_at "wp"
    have e : left = [] := List.eq_nil_of_length_eq_zero (by omega)
    subst e
    exact hQ got l2 nd bd

/-! ### renaming -/
structure Nm (n : Nat) (ns : List Nat) : Prop where
  len : ns.length = n
  nd : ns.Nodup
  lt : ∀ x ∈ ns, x < n
theorem nodup_le : ∀ (n : Nat) (l : List Nat), l.Nodup → (∀ x ∈ l, x < n) → l.length ≤ n
  | 0, l, _, h => by
    cases l with
    | nil => exact Nat.le_refl _
    | cons a l => have := h a List.mem_cons_self; omega
  | n + 1, l, nd, h => by
    have e1 := nodup_le n (l.erase n) (nd.erase n) fun x hx => by
      have hx' := List.mem_of_mem_erase hx
      have h1 := h x hx'
      have h2 : x ≠ n := ((nd.mem_erase_iff).mp hx).1
      omega
    have e2 : l.length ≤ (l.erase n).length + 1 := by
      rw [List.length_erase]
      split <;> omega
    omega
theorem Nm.mem {n : Nat} {ns : List Nat} (h : Nm n ns) {a : Nat} (ha : a < n) : a ∈ ns := by
  by_cases z : a ∈ ns
  · exact z
  · have := nodup_le n (a :: ns) (List.nodup_cons.mpr ⟨z, h.nd⟩) fun x hx => by
      rcases List.mem_cons.mp hx with y | y
      · rw [y]; exact ha
      · exact h.lt x y
    rw [List.length_cons, h.len] at this
    omega
def ren (y : Y) (ns : List Nat) : Y := ⟨y.n, fun a => y.m (ns.idxOf a), fun a b => y.k (ns.idxOf a) (ns.idxOf b)⟩
theorem Nm.idx_lt {n : Nat} {ns : List Nat} (h : Nm n ns) {a : Nat} (ha : a < n) : ns.idxOf a < n := by
  have := List.idxOf_lt_length_of_mem (h.mem ha)
  rw [h.len] at this
  exact this
theorem Nm.get_idx {n : Nat} {ns : List Nat} (h : Nm n ns) {a : Nat} (ha : a < n) : ns.getD (ns.idxOf a) 0 = a := by
  have h1 := List.idxOf_lt_length_of_mem (h.mem ha)
  rw [getD_get h1]
  exact List.getElem_idxOf h1
theorem nd_idx {ns : List Nat} (nd : ns.Nodup) {i : Nat} (hi : i < ns.length) : ns.idxOf (ns.getD i 0) = i := by
  rw [getD_get hi]
  exact nd.idxOf_getElem i hi
theorem Nm.idx_get {n : Nat} {ns : List Nat} (h : Nm n ns) {i : Nat} (hi : i < n) : ns.idxOf (ns.getD i 0) = i := nd_idx h.nd (by rw [h.len]; exact hi)
theorem Nm.get_lt {n : Nat} {ns : List Nat} (h : Nm n ns) {i : Nat} (hi : i < n) : ns.getD i 0 < n := h.lt _ (getD_mem (by rw [h.len]; exact hi))
theorem ren_ok {y : Y} (h : y.Ok) {ns : List Nat} (hn : Nm y.n ns) : (ren y ns).Ok where
  n1 := h.n1
  n7 := h.n7
  m0 := fun i hi => h.m0 _ (hn.idx_lt hi)
  sy := fun i j => h.sy _ _
  dg := fun i => h.dg _
  k0 := fun i j => h.k0 _ _
def renT (ns : List Nat) (t : Tie) : Tie := (min (ns.getD t.1 0) (ns.getD t.2.1 0), max (ns.getD t.1 0) (ns.getD t.2.1 0), t.2.2)
theorem ren_mem {y : Y} (h : y.Ok) {ns : List Nat} (hn : Nm y.n ns) (x : Tie) : x ∈ (ren y ns).ties ↔ x ∈ y.ties.map (renT ns) := by
  show x ∈ tiesOf (ren y ns).k y.n y.n ↔ _
  rw [mem_tiesOf, List.mem_map]
  constructor
  · rintro ⟨h1, h2, h3, h4, h5⟩
    have i1 := hn.idx_lt h1
    have i2 := hn.idx_lt h3
    have g1 := hn.get_idx h1
    have g2 := hn.get_idx h3
    have e4 : x.2.2 = y.k (ns.idxOf x.1) (ns.idxOf x.2.1) := h4
    rcases Nat.lt_trichotomy (ns.idxOf x.1) (ns.idxOf x.2.1) with z | z | z
    · refine ⟨(ns.idxOf x.1, ns.idxOf x.2.1, x.2.2), mem_tiesOf.mpr ⟨i1, z, i2, e4, h5⟩, ?_⟩
      unfold renT
      rw [g1, g2]
      exact Prod.ext (by show min _ _ = _; omega) (Prod.ext (by show max _ _ = _; omega) rfl)
    · rw [z] at g1; rw [g1] at g2; omega
    · refine ⟨(ns.idxOf x.2.1, ns.idxOf x.1, x.2.2), mem_tiesOf.mpr ⟨i2, z, i1, by rw [e4]; exact h.sy _ _, h5⟩, ?_⟩
      unfold renT
      rw [g1, g2]
      exact Prod.ext (by show min _ _ = _; omega) (Prod.ext (by show max _ _ = _; omega) rfl)
  · rintro ⟨⟨a, b, c⟩, ht, rfl⟩
    obtain ⟨h1, h2, h3, h4, h5⟩ := mem_tiesOf.mp ht
    have h1 : a < y.n := h1
    have h2 : a < b := h2
    have h3 : b < y.n := h3
    have h4 : c = y.k a b := h4
    have h5 : 0 < c := h5
    have g1 := hn.get_lt h1
    have g2 := hn.get_lt h3
    have i1 := hn.idx_get h1
    have i2 := hn.idx_get h3
    have ne : ns.getD a 0 ≠ ns.getD b 0 := fun z => by rw [z, i2] at i1; omega
    unfold renT
    show min (ns.getD a 0) (ns.getD b 0) < y.n ∧ min (ns.getD a 0) (ns.getD b 0) < max (ns.getD a 0) (ns.getD b 0) ∧ max (ns.getD a 0) (ns.getD b 0) < y.n ∧ c = y.k (ns.idxOf (min (ns.getD a 0) (ns.getD b 0))) (ns.idxOf (max (ns.getD a 0) (ns.getD b 0))) ∧ 0 < c
    refine ⟨by omega, by omega, by omega, ?_, h5⟩
    by_cases z : ns.getD a 0 ≤ ns.getD b 0
    · rw [Nat.min_eq_left z, Nat.max_eq_right z, i1, i2, h4]
    · rw [Nat.min_eq_right (by omega), Nat.max_eq_left (by omega), i1, i2, h4, h.sy]
abbrev tI (t : Tie) : List Int := [(t.1 : Int), (t.2.1 : Int), t.2.2]
theorem tieD_ints (ts : List Tie) : ts.map tieD = (ts.map tI).map intsD := by
  rw [List.map_map]
  rfl
def tB (l : List Int) : Tie := ((l.getD 0 0).toNat, (l.getD 1 0).toNat, l.getD 2 0)
theorem tB_tI (t : Tie) : tB (tI t) = t := by
  obtain ⟨a, b, c⟩ := t
  simp [tB, tI]
/-- what sorted leaves of ties between distinct pairs -/
theorem sorted_ties {ts : List Tie} {us : List (List Int)} (bd : ∀ t ∈ ts, t.1 < t.2.1 ∧ t.2.1 < 16 ∧ 0 ≤ t.2.2 ∧ t.2.2 < 16) (ds : ts.Pairwise fun t u => ¬ (t.1 = u.1 ∧ t.2.1 = u.2.1)) (p : us.Perm (ts.map tI)) (so : us.Pairwise fun x y => TS.code 16 x ≤ TS.code 16 y) :
    ∃ ts' : List Tie, us = ts'.map tI ∧ ts'.Perm ts ∧ ts'.Pairwise ltT := by
  have hu : ∀ u ∈ us, ∃ t ∈ ts, u = tI t := fun u hu => by
    obtain ⟨t, ht, e⟩ := List.mem_map.mp (p.mem_iff.mp hu)
    exact ⟨t, ht, e.symm⟩
  have e1 : (us.map tB).map tI = us := by
    rw [List.map_map]
    conv => rhs; rw [← List.map_id us]
    apply List.map_congr_left
    intro u h
    obtain ⟨t, _, rfl⟩ := hu u h
    show tI (tB (tI t)) = tI t
    rw [tB_tI]
  have p2 : (us.map tB).Perm ts := by
    have := p.map tB
    rw [List.map_map] at this
    have e : (tB ∘ tI) = id := by funext t; exact tB_tI t
    rw [e, List.map_id] at this
    exact this
  refine ⟨us.map tB, e1.symm, p2, ?_⟩
  have ds2 : (us.map tB).Pairwise fun t u => ¬ (t.1 = u.1 ∧ t.2.1 = u.2.1) := (p2.symm.pairwise_iff fun h k => h ⟨k.1.symm, k.2.symm⟩).mp ds
  rw [← e1, List.pairwise_map] at so
  refine List.Pairwise.imp_of_mem (fun {t u} ht hu2 h => ?_) (so.and ds2)
  have b1 := bd t (p2.mem_iff.mp ht)
  have b2 := bd u (p2.mem_iff.mp hu2)
  obtain ⟨h1, h2⟩ := h
  have c1 : TS.code 16 (tI t) = (t.1 : Int) * 256 + ((t.2.1 : Int) * 16 + t.2.2) := by
    simp [TS.code, tI]
  have c2 : TS.code 16 (tI u) = (u.1 : Int) * 256 + ((u.2.1 : Int) * 16 + u.2.2) := by
    simp [TS.code, tI]
  rw [c1, c2] at h1
  unfold ltT
  omega
theorem ren_pw {y : Y} (h : y.Ok) {ns : List Nat} (hn : Nm y.n ns) : (y.ties.map (renT ns)).Pairwise fun t u => ¬ (t.1 = u.1 ∧ t.2.1 = u.2.1) := by
  rw [List.pairwise_map]
  refine List.Pairwise.imp_of_mem (fun {t u} ht hu r => ?_) h.sties.so
  obtain ⟨a1, a2, a3, _⟩ := mem_tiesOf.mp ht
  obtain ⟨b1, b2, b3, _⟩ := mem_tiesOf.mp hu
  rintro ⟨z1, z2⟩
  have z1 : min (ns.getD t.1 0) (ns.getD t.2.1 0) = min (ns.getD u.1 0) (ns.getD u.2.1 0) := z1
  have z2 : max (ns.getD t.1 0) (ns.getD t.2.1 0) = max (ns.getD u.1 0) (ns.getD u.2.1 0) := z2
  have i1 := hn.idx_get a1
  have i2 := hn.idx_get a3
  have j1 := hn.idx_get b1
  have j2 := hn.idx_get b3
  have cs : (ns.getD t.1 0 = ns.getD u.1 0 ∧ ns.getD t.2.1 0 = ns.getD u.2.1 0) ∨ (ns.getD t.1 0 = ns.getD u.2.1 0 ∧ ns.getD t.2.1 0 = ns.getD u.1 0) := by omega
  unfold ltT at r
  rcases cs with ⟨q1, q2⟩ | ⟨q1, q2⟩
  · rw [q1, j1] at i1; rw [q2, j2] at i2; omega
  · rw [q1, j2] at i1; rw [q2, j1] at i2; omega
theorem ren_sorted {y : Y} (h : y.Ok) {ns : List Nat} (hn : Nm y.n ns) {us : List (List Int)} (p : us.Perm ((y.ties.map (renT ns)).map tI)) (so : us.Pairwise fun x y => TS.code 16 x ≤ TS.code 16 y) : us.map intsD = (ren y ns).ties.map tieD := by
  obtain ⟨ts', rfl, p2, s2⟩ := sorted_ties (fun t ht => by
    have := (ren_ok h hn).sties.bd t ((ren_mem h hn t).mpr ht)
    have := h.n7
    have e : (ren y ns).n = y.n := rfl
    omega) (ren_pw h hn) p so
  rw [tieD_ints]
  congr 2
  exact sorted_ext ltT_irr ltT_asym s2 (ren_ok h hn).sties.so fun x => by rw [ren_mem h hn, p2.mem_iff]
theorem renT_bd {y : Y} (h : y.Ok) {ns : List Nat} (hn : Nm y.n ns) : ∀ l ∈ (y.ties.map (renT ns)).map tI, l.length = 3 ∧ TS.Bd 16 l := fun l hl => by
  obtain ⟨t, ht, rfl⟩ := List.mem_map.mp hl
  have := (ren_ok h hn).sties.bd t ((ren_mem h hn t).mpr ht)
  have := h.n7
  have e : (ren y ns).n = y.n := rfl
  refine ⟨rfl, fun m hm => ?_⟩
  simp [tI] at hm
  omega
theorem sort2 {a b : Nat} {ms : List Int} (p : ms.Perm [(a : Int), (b : Int)]) (s : ms.Pairwise (· ≤ ·)) : ms = [((min a b : Nat) : Int), ((max a b : Nat) : Int)] := by
  match ms, p.length_eq with
  | [x, y], _ =>
    have h1 := p.mem_iff (a := x)
    have h2 := p.mem_iff (a := y)
    have h3 := p.mem_iff (a := (a : Int))
    have h4 := p.mem_iff (a := (b : Int))
    simp at h1 h2 h3 h4 s
    have e1 : x = ((min a b : Nat) : Int) := by omega
    have e2 : y = ((max a b : Nat) : Int) := by omega
    rw [e1, e2]

def renMs (y : Y) (ns : List Nat) (i : Nat) : Nat → Int := fun a => if ns.idxOf a < i then y.m (ns.idxOf a) else 0
theorem renMs_step {y : Y} {ns : List Nat} (hn : Nm y.n ns) {i : Nat} (hi : i < y.n) : (((List.range y.n).map (renMs y ns i)).map PyData.int).set (ns.getD i 0) (.int (y.m i)) = ((List.range y.n).map (renMs y ns (i + 1))).map PyData.int := by
  rw [List.map_map, List.map_map, set_range]
  apply List.map_congr_left
  intro a ha
  have ha : a < y.n := by simpa using ha
  show (if a = ns.getD i 0 then PyData.int (y.m i) else .int (renMs y ns i a)) = .int (renMs y ns (i + 1) a)
  have g := hn.get_idx ha
  have q := hn.idx_get hi
  unfold renMs
  by_cases z : a = ns.getD i 0
  · rw [if_pos z, z, q, if_pos (Nat.lt_succ_self _)]
  · rw [if_neg z]
    have ne : ns.idxOf a ≠ i := fun e => z (by rw [← e, g])
    congr 1
    by_cases w : ns.idxOf a < i
    · rw [if_pos w, if_pos (by omega)]
    · rw [if_neg w, if_neg (by omega)]
theorem renMs_end {y : Y} {ns : List Nat} (hn : Nm y.n ns) : (List.range y.n).map (renMs y ns y.n) = (ren y ns).ml := by
  apply List.map_congr_left
  intro a ha
  have ha : a < y.n := by simpa using ha
  show (if _ then _ else _) = _
  rw [if_pos (hn.idx_lt ha)]
  rfl
theorem zeros_ml (n : Nat) (f : Nat → Int) (h : ∀ a, f a = 0) : (List.replicate n [PyData.int 0]).flatten = ((List.range n).map f).map PyData.int := by
  rw [zeros_flat]
  congr 1
  have : f = fun _ => 0 := funext h
  rw [this, List.map_const', List.length_range]
theorem ties_len (y : Y) : y.ties.length ≤ y.n * y.n := tiesOf_length y.k y.n y.n
theorem ties_get {y : Y} {i : Nat} {d : PyData} (h : (y.ties.map tieD)[i]? = some d) : ∃ t, y.ties[i]? = some t ∧ d = tieD t := by
  rw [List.getElem?_map] at h
  obtain ⟨t, e, rfl⟩ := Option.map_eq_some_iff.mp h
  exact ⟨t, e, rfl⟩
def spRenamed : Spc := fun as Q => ∃ (y : Y) (ns : List Nat), as = [.d (rowsD y), .d (NL ns)] ∧ y.Ok ∧ Nm y.n ns ∧ Q (.d (rowsD (ren y ns)))
theorem c_law_renamed (T : Txt K mg C) : Cal P w K mg base C "_law_renamed" 2 spRenamed := by
  refine cal_of T.d_law_renamed sc_law_renamed (fun as Q h => by obtain ⟨_, _, rfl, _⟩ := h; rfl) fun f cdv A0 outer s H E hr G F as Q hs => ?_
  obtain ⟨y, ns, rfl, ok, hn, hQ⟩ := hs
  refine ⟨_, _, (pss_consA (ps_setA (i := 2) sc_law_renamed.nd (pd_mul (pd_lst (pda_cons pd_int pda_nil)) (pd_len (K := K) T.len (pda_cons (pd_var 1) pda_nil))))
  (pss_consA (ps_forA (pi_range1A T.range (pda_cons (pd_len (K := K) T.len (pda_cons (pd_var 1) pda_nil)) pda_nil)) (pg_nameA 3 sc_law_renamed.nd) (pss_oneA (ps_putA (pd_var 2) (pd_ix (K := K) (pd_var 1) (pd_var 3)) (pd_ix (K := K) (pd_ix (K := K) (pd_var 0) pd_int) (pd_var 3)))) PassesOwn.never)
  (pss_consA (ps_setA (i := 4) sc_law_renamed.nd (pd_lst pda_nil))
  (pss_consA (ps_forA (pi_listA (K := K) (pd_ix (K := K) (pd_var 0) pd_int)) (pg_tupA (K := K) (pgs_consA (pg_nameA 5 sc_law_renamed.nd) (pgs_consA (pg_nameA 6 sc_law_renamed.nd) (pgs_consA (pg_nameA 7 sc_law_renamed.nd) pgs_nilA)))) (pss_consA (ps_setA (i := 8) sc_law_renamed.nd (pd_sort (K := K) T.sorted (pda_cons (pd_lst (pda_cons (pd_ix (K := K) (pd_var 1) (pd_var 5)) (pda_cons (pd_ix (K := K) (pd_var 1) (pd_var 6)) pda_nil))) pda_nil)))
  (pss_oneA (ps_appA (pd_var 4) (pd_tup (pda_cons (pd_ix (K := K) (pd_var 8) pd_int) (pda_cons (pd_ix (K := K) (pd_var 8) pd_int) (pda_cons (pd_var 7) pda_nil))))))) PassesOwn.never)
  (pss_oneA (ps_fz 2 (ps_retA (pd_tup (pda_cons (pd_var 2) (pda_cons (pd_sortT (K := K) (d := 3) (B := 16) (by decide) T.sorted (pda_cons (pd_var 4) pda_nil)) pda_nil)))))))))), ?_⟩
  have h7 := ok.n7
  walk_at "wp"
  have hl := hn.len
  rw [hl]
  refine ⟨by decide, by omega, by omega, sz_of (by omega), by omega, by omega, fun i ρ => ∃ a, ρ = [.d (rowsD y), .d (NL ns), .own (((List.range y.n).map (renMs y ns i)).map PyData.int), a, .un, .un, .un, .un, .un], ⟨.un, by rw [zeros_ml _ (renMs y ns 0) (fun a => by unfold renMs; rw [if_neg (Nat.not_lt_zero _)])]⟩, fun i d ρ hd hI => ?_, fun ρ hI => ?_⟩
  · obtain ⟨hi, rfl⟩ := rgD0_get hd
    obtain ⟨a, rfl⟩ := hI
    walk_at "wp"
    refine ⟨_, rfl, ?_⟩
    walk_at "wp"
    refine ⟨_, at_marked y hi, ?_⟩
    walk_at "wp"
    refine ⟨_, at_names (by omega), ?_⟩
    walk_at "wp"
    refine ⟨ns.getD i 0, ixN_nat (hn.get_lt hi), .d (nI i), ?_⟩
    rw [renMs_step hn hi]
  obtain ⟨a, rfl⟩ := hI
  rw [renMs_end hn]
  walk_at "wp"
  refine ⟨by decide, _, rfl, ?_⟩
  walk_at "wp"
  have tl := ties_len y
  have t49 : y.n * y.n ≤ 7 * 7 := Nat.mul_le_mul h7 h7
  refine ⟨fun i ρ => ∃ b c d e, ρ = [.d (rowsD y), .d (NL ns), .own ((ren y ns).ml.map PyData.int), a, .own (((y.ties.take i).map (renT ns)).map tieD), b, c, d, e], ⟨_, _, _, _, rfl⟩, fun i d ρ hd hI => ?_, fun ρ hI => ?_⟩
  · obtain ⟨t, et, rfl⟩ := ties_get hd
    obtain ⟨b, c, d, e, rfl⟩ := hI
    have hi : i < y.ties.length := (List.getElem?_eq_some_iff.mp et).1
    obtain ⟨m1, m2, m3, m4, m5⟩ := mem_tiesOf.mp (List.mem_of_getElem? et)
    walk_at "wp"
    refine ⟨rfl, _, at_names (i := t.1) (by omega), ?_⟩
    walk_at "wp"
    refine ⟨_, at_names (i := t.2.1) (by omega), ?_⟩
    walk_at "wp"
    refine ⟨by decide, [((ns.getD t.1 0 : Nat) : Int), ((ns.getD t.2.1 0 : Nat) : Int)], rfl, (by show 2 < 64; decide), fun ms p so => ?_⟩
    rw [sort2 p so]
    walk_at "wp"
    refine ⟨_, rfl, _, rfl, ?_⟩
    walk_at "wp"
    have e9 : ((y.ties.take (i + 1)).map (renT ns)).map tieD = ((y.ties.take i).map (renT ns)).map tieD ++ [.tuple [nI (min (ns.getD t.1 0) (ns.getD t.2.1 0)), nI (max (ns.getD t.1 0) (ns.getD t.2.1 0)), .int t.2.2]] := by
      rw [List.take_succ, et]
      simp only [List.map_append, Option.toList]
      rfl
    exact ⟨by decide, sz_lt (by rw [List.length_take]; omega), _, _, _, _, by rw [e9]⟩
  · obtain ⟨b, c, d, e, rfl⟩ := hI
    rw [List.take_length]
    walk_at "wp"
    refine ⟨((y.ties.map (renT ns)).map tI), tieD_ints _, by simp; omega, renT_bd ok hn, fun us p so => ?_⟩
    walk_at "wp"
    refine ⟨by decide, ?_⟩
    rw [ren_sorted ok hn p so]
    exact hQ
def spKind : Spc := fun as Q => ∃ (y : Y) (i j : Nat), as = [.d (rowsD y), .d (nI i), .d (nI j)] ∧ y.Ok ∧ i < y.n ∧ j < y.n ∧ Q (.d (.int (y.k i j)))
theorem c_law_kind (T : Txt K mg C) : Cal P w K mg base C "_law_kind" 1 spKind := by
  refine cal_of T.d_law_kind sc_law_kind (fun as Q h => by obtain ⟨_, _, _, rfl, _⟩ := h; rfl) fun f cdv A0 outer s H E hr G F as Q hs => ?_
  obtain ⟨y, i, j, rfl, ok, hi, hj, hQ⟩ := hs
  refine ⟨_, _, (pss_consA (ps_forA (pi_listA (K := K) (pd_ix (K := K) (pd_var 0) pd_int)) (pg_nameA 3 sc_law_kind.nd) (pss_oneA (ps_ifA (PDW.t (pw_andA (pt_eq (K := K) hr (pd_ix (K := K) (pd_var 3) pd_int) (pd_min2 rfl T.min (pda_cons (pd_var 1) (pda_cons (pd_var 2) pda_nil)))) (pw_and1A (pt_eq (K := K) hr (pd_ix (K := K) (pd_var 3) pd_int) (pd_max2 rfl T.max (pda_cons (pd_var 1) (pda_cons (pd_var 2) pda_nil))))))) (pss_oneA (ps_retA (pd_ix (K := K) (pd_var 3) pd_int))) pss_nilA)) PassesOwn.never)
  (pss_oneA (ps_retA pd_int))), ?_⟩
  have ek := kOf_ties ok hi hj
  walk_at "wp"
  refine ⟨_, rfl, ?_⟩
  walk_at "wp"
  refine ⟨fun t ρ => (∃ a, ρ = [.d (rowsD y), .d (nI i), .d (nI j), a]) ∧ ∀ u ∈ y.ties.take t, kmt u i j = false, ⟨⟨_, rfl⟩, by simp⟩, fun t d ρ hd hI => ?_, fun ρ hI => ?_⟩
  · obtain ⟨u, et, rfl⟩ := ties_get hd
    obtain ⟨⟨a, rfl⟩, hb⟩ := hI
    obtain ⟨m1, m2, m3, m4, m5⟩ := mem_tiesOf.mp (List.mem_of_getElem? et)
    walk_at "wp"
    have next : kmt u i j = false → (∃ a, [A.d (rowsD y), .d (nI i), .d (nI j), .d (tieD u)] = [A.d (rowsD y), .d (nI i), .d (nI j), a]) ∧ ∀ v ∈ y.ties.take (t + 1), kmt v i j = false := fun hk => ⟨⟨_, rfl⟩, fun v hv => by
      rw [List.take_succ, et] at hv
      rcases List.mem_append.mp hv with z | z
      · exact hb v z
      · have : v = u := by simpa using z
        rw [this]; exact hk⟩
    have no : ¬ ((u.1 : Int) = (if (j : Int) < i then (j : Int) else i) ∧ (u.2.1 : Int) = (if (j : Int) > i then (j : Int) else i)) → kmt u i j = false := fun h => by
      rw [← Bool.not_eq_true]
      intro z
      apply h
      rcases kmt_iff.mp z with ⟨z1, z2⟩ | ⟨z1, z2⟩
      · rw [if_neg (by omega), if_pos (by omega)]; omega
      · rw [if_pos (by omega), if_neg (by omega)]; omega
    refine ⟨_, rfl, ?_⟩
    walk_at "wp"
    refine ⟨fun h1 => ⟨_, rfl, ?_⟩, fun h1 => ⟨fun z => (by cases z), fun _ => next (no fun z => (of_decide_eq_false h1) z.1)⟩⟩
    walk_at "wp"
    refine ⟨fun h2 => ⟨_, rfl, ?_⟩, fun h2 => next (no fun z => (of_decide_eq_false h2) z.2)⟩
    have h1 := of_decide_eq_true h1
    have h2 := of_decide_eq_true h2
    have e : y.k i j = u.2.2 := by
      rw [m4]
      by_cases z : (j : Int) < i
      · rw [if_pos z] at h1
        rw [if_neg (by omega)] at h2
        rw [show u.1 = j by omega, show u.2.1 = i by omega, ok.sy]
      · rw [if_neg z] at h1
        by_cases z2 : (j : Int) > i
        · rw [if_pos z2] at h2
          rw [show u.1 = i by omega, show u.2.1 = j by omega]
        · rw [if_neg z2] at h2
          omega
    rw [e] at hQ
    exact hQ
  · obtain ⟨⟨a, rfl⟩, hb⟩ := hI
    rw [List.take_length] at hb
    rw [kOf_none hb] at ek
    walk_at "wp"
    rw [ek]
    exact hQ
def spKinds : Spc := fun as Q => ∃ (y : Y), as = [.d (rowsD y)] ∧ y.Ok ∧ Q (.d (.list (kd y.kl)))
theorem c_law_kinds (T : Txt K mg C) : Cal P w K mg base C "_law_kinds" 2 spKinds := by
  have c_law_kind := c_law_kind (P := P) (w := w) (base := base) T
  refine cal_of T.d_law_kinds sc_law_kinds (fun as Q h => by obtain ⟨_, rfl, _⟩ := h; rfl) fun f cdv A0 outer s H E hr G F as Q hs => ?_
  obtain ⟨y, rfl, ok, hQ⟩ := hs
  refine ⟨_, _, (pss_consA (ps_setA (i := 1) sc_law_kinds.nd (pd_len (K := K) T.len (pda_cons (pd_ix (K := K) (pd_var 0) pd_int) pda_nil)))
  (pss_consA (ps_setA (i := 2) sc_law_kinds.nd (pd_lst pda_nil))
  (pss_consA (ps_forA (pi_range1A T.range (pda_cons (pd_var 1) pda_nil)) (pg_nameA 3 sc_law_kinds.nd) (pss_oneA (ps_appA (pd_var 2) (pd_lc [("_law_other", 4)] sc_law_kinds.nd (pi_range1A T.range (pda_cons (pd_var 1) pda_nil)) (blkOk_by (N := n_law_kinds) (sc := defScope s_law_kinds) (by decide +kernel)) (fun _ _ _ _ _ => (pg_nameA 4 sc_law_kinds.nd)) (fun _ _ _ _ _ => pts_nilA) (fun _ _ _ _ _ => (pd_call c_law_kind hr (by omega) (pda_cons (pd_var 0) (pda_cons (pd_var 3) (pda_cons (pd_var 4) pda_nil))))) (gw_name (by decide))))) PassesOwn.never)
  (pss_oneA (ps_fz 2 (ps_retA (pd_var 2))))))), ?_⟩
  have h7 := ok.n7
  walk_at "wp"
  refine ⟨_, rfl, ?_⟩
  walk_at "wp"
  refine ⟨by decide, by omega, by omega, fun i ρ => ∃ a b, ρ = [.d (rowsD y), .d (nI y.n), .own ((kd y.kl).take i), a, b], ⟨_, _, rfl⟩, fun i d ρ hd hI => ?_, fun ρ hI => ?_⟩
  · obtain ⟨hi, rfl⟩ := rgD0_get hd
    obtain ⟨a, b, rfl⟩ := hI
    walk_at "wp"
    refine ⟨by omega, by omega, fun j acc => acc = ((List.range j).map fun x => y.k i x).map PyData.int, rfl, fun j d acc hd hI => ⟨fun _ => ?_, fun z => (by cases z)⟩, ?_⟩
    · obtain ⟨hj, rfl⟩ := rgD0_get hd
      subst hI
      refine ⟨y, i, j, rfl, ok, hi, hj, ?_⟩
      walk_at "wp"
      refine ⟨sz_lt (by omega), ?_⟩
      rw [List.range_succ]
      simp
    · rintro acc rfl
      have e : (kd y.kl)[i]? = some (.list (((List.range y.n).map fun x => y.k i x).map PyData.int)) := by simp [kd, hi]
      have e9 : (kd y.kl).take (i + 1) = (kd y.kl).take i ++ [.list (((List.range y.n).map fun x => y.k i x).map PyData.int)] := by
        rw [List.take_succ, e]
        rfl
      exact ⟨sz_lt (by rw [List.length_take, kd_length]; omega), _, _, by rw [e9]⟩
  · obtain ⟨a, b, rfl⟩ := hI
    walk_at "wp"
    rw [List.take_of_length_le (by rw [kd_length]; exact Nat.le_refl _)]
    exact hQ

abbrev kdL (y : Y) : PyData := .list (kd y.kl)
def spWhy : Spc := fun as Q => ∃ (y1 y2 : Y) (ns : List Nat) (q : Nat), as = [.d (rowsD y1), .d (rowsD y2), .d (kdL y1), .d (kdL y2), .d (NL ns), .d (nI q)] ∧ ns.length < y1.n ∧ q < y2.n ∧ y1.n ≤ 7 ∧ (∀ x ∈ ns, x < y2.n) ∧ Q (.d (whyD (clashW y1 y2 ns ns.length q)))
theorem at_ml (y : Y) {i : Nat} (h : i < y.n) : atI (y.ml.map PyData.int) (i : Int) = some (.int (y.m i)) := at_marked y h
/-! ### trees of reasons -/
def caseRow (y1 y2 : Y) (sub : List Nat → PyData) (ns : List Nat) (q : Nat) : Option PyData := if q ∈ ns then none else some (.tuple [nI q, match clashW y1 y2 ns ns.length q with
    | none => sub (ns ++ [q])
    | some o => whyD (some o)])
def caseRows (y1 y2 : Y) (sub : List Nat → PyData) (ns : List Nat) (i : Nat) : List PyData := (List.range i).filterMap (caseRow y1 y2 sub ns)
def casesD (y1 y2 : Y) : Nat → List Nat → PyData
  | 0, ns => .tuple [.str "cases", .tuple (caseRows y1 y2 (fun _ => .none) ns y1.n)]
  | t + 1, ns => .tuple [.str "cases", .tuple (caseRows y1 y2 (casesD y1 y2 t) ns y1.n)]
theorem caseRows_succ (y1 y2 : Y) (sub : List Nat → PyData) (ns : List Nat) (i : Nat) : caseRows y1 y2 sub ns (i + 1) = caseRows y1 y2 sub ns i ++ (caseRow y1 y2 sub ns i).toList := by
  unfold caseRows
  rw [List.range_succ, List.filterMap_append]
  cases e : caseRow y1 y2 sub ns i <;> simp [e]
theorem caseRows_len (y1 y2 : Y) (sub : List Nat → PyData) (ns : List Nat) (i : Nat) : (caseRows y1 y2 sub ns i).length ≤ i := Nat.le_trans (List.length_filterMap_le _ _) (by simp)
theorem caseRows_in {y1 y2 : Y} {sub : List Nat → PyData} {ns : List Nat} {i : Nat} (h : i ∈ ns) : caseRows y1 y2 sub ns (i + 1) = caseRows y1 y2 sub ns i := by
  rw [caseRows_succ]; unfold caseRow; rw [if_pos h]; simp
theorem caseRows_why {y1 y2 : Y} {sub : List Nat → PyData} {ns : List Nat} {i : Nat} (h : i ∉ ns) (c : (clashW y1 y2 ns ns.length i).isNone = false) : caseRows y1 y2 sub ns (i + 1) = caseRows y1 y2 sub ns i ++ [.tuple [nI i, whyD (clashW y1 y2 ns ns.length i)]] := by
  rw [caseRows_succ]; unfold caseRow; rw [if_neg h]
  cases e : clashW y1 y2 ns ns.length i with
  | none => rw [e] at c; cases c
  | some o => rfl
theorem caseRows_sub {y1 y2 : Y} {sub : List Nat → PyData} {ns : List Nat} {i : Nat} (h : i ∉ ns) (c : (clashW y1 y2 ns ns.length i).isNone = true) : caseRows y1 y2 sub ns (i + 1) = caseRows y1 y2 sub ns i ++ [.tuple [nI i, sub (ns ++ [i])]] := by
  rw [caseRows_succ]; unfold caseRow; rw [if_neg h]
  cases e : clashW y1 y2 ns ns.length i with
  | none => rfl
  | some o => rw [e] at c; cases c
/-- names that go on -/
structure Pre (n : Nat) (ns : List Nat) : Prop where
  nd : ns.Nodup
  lt : ∀ x ∈ ns, x < n
  le : ns.length ≤ n
theorem Pre.go {n : Nat} {ns : List Nat} (h : Pre n ns) {q : Nat} (hq : q < n) (hn : q ∉ ns) : Pre n (ns ++ [q]) ∧ ns.length < n := by
  have nd : (ns ++ [q]).Nodup := List.nodup_append.mpr ⟨h.nd, by simp, fun a ha b hb => by
    have : b = q := by simpa using hb
    subst this
    exact fun z => hn (by rw [← z]; exact ha)⟩
  have lt : ∀ x ∈ ns ++ [q], x < n := fun x hx => by
    rcases List.mem_append.mp hx with z | z
    · exact h.lt x z
    · have : x = q := by simpa using z
      rw [this]; exact hq
  have le := nodup_le n _ nd lt
  refine ⟨⟨nd, lt, le⟩, ?_⟩
  simp at le
  omega
def casesSub (y1 y2 : Y) (ns : List Nat) : List Nat → PyData := match y1.n - ns.length with
  | 0 => fun _ => .none
  | t + 1 => casesD y1 y2 t
theorem casesD_eq (y1 y2 : Y) (ns : List Nat) : casesD y1 y2 (y1.n - ns.length) ns = .tuple [.str "cases", .tuple (caseRows y1 y2 (casesSub y1 y2 ns) ns y1.n)] := by
  unfold casesSub
  cases y1.n - ns.length <;> rfl
theorem casesSub_go (y1 y2 : Y) {ns : List Nat} {q : Nat} (h : ns.length < y1.n) : casesSub y1 y2 ns (ns ++ [q]) = casesD y1 y2 (y1.n - (ns ++ [q]).length) (ns ++ [q]) := by
  unfold casesSub
  obtain ⟨t, e⟩ : ∃ t, y1.n - ns.length = t + 1 := ⟨y1.n - ns.length - 1, by omega⟩
  rw [e, show y1.n - (ns ++ [q]).length = t by simp; omega]
def spLawCases (t : Nat) : Spc := fun as Q => ∃ (y1 y2 : Y) (ns : List Nat), as = [.d (rowsD y1), .d (rowsD y2), .d (kdL y1), .d (kdL y2), .d (NL ns)] ∧ y1.n = y2.n ∧ y1.n ≤ 7 ∧ Pre y1.n ns ∧ y1.n < ns.length + t ∧ Q (.d (casesD y1 y2 (y1.n - ns.length) ns))
def spCases (t : Nat) : Spc := fun as Q => ∃ (y1 y2 : Y) (ns : List Nat), as = [yA y1, yA y2, .d (NL ns)] ∧ y1.n = y2.n ∧ y1.n ≤ 7 ∧ Pre y1.n ns ∧ y1.n < ns.length + t ∧ Q (.d (casesD y1 y2 (y1.n - ns.length) ns))
theorem c_cases (T : Txt K mg C) : ∀ t : Nat, Cal P w K mg base C "cases" (t + 2) (spCases t)
  | 0 => by
    refine cal_of T.d_cases sc_cases (fun as Q h => by obtain ⟨_, _, _, rfl, _⟩ := h; rfl) fun f cdv A0 outer s H E hr G F as Q hs => ?_
    obtain ⟨y1, y2, ns, rfl, _, _, h1, h2, _⟩ := hs
    have := h1.le
    omega
  | t + 1 => by
    have c_cases := c_cases T t
    have c_clash := c_clash (P := P) (w := w) (base := base) T
    have m_many := m_many (P := P) (w := w) (base := base) T
    refine cal_of T.d_cases sc_cases (fun as Q h => by obtain ⟨_, _, _, rfl, _⟩ := h; rfl) fun f cdv A0 outer s H E hr G F as Q hs => ?_
    obtain ⟨y1, y2, ns, rfl, hn, h7, pre, h2, hQ⟩ := hs
    refine ⟨_, _, (pss_consA (ps_setA (i := 3) sc_cases.nd (pd_lst pda_nil))
  (pss_consA (ps_forA (pi_range1A T.range (pda_cons (pd_meth0 m_many hr (by omega) (pd_var 0)) pda_nil)) (pg_nameA 4 sc_cases.nd) (pss_oneA (ps_ifA (pt_nin (K := K) hr (pd_var 4) (pd_var 2)) (pss_consA (ps_setA (i := 5) sc_cases.nd (pd_call c_clash hr (by omega) (pda_cons (pd_var 0) (pda_cons (pd_var 1) (pda_cons (pd_var 2) (pda_cons (pd_len (K := K) T.len (pda_cons (pd_var 2) pda_nil)) (pda_cons (pd_var 4) pda_nil)))))))
  (pss_consA (ps_ifA (pt_is (pd_var 5) pd_non) (pss_oneA (ps_setA (i := 5) sc_cases.nd (pd_call c_cases hr (by omega) (pda_cons (pd_var 0) (pda_cons (pd_var 1) (pda_cons (pd_add (K := K) (pd_var 2) (pd_lst (pda_cons (pd_var 4) pda_nil))) pda_nil)))))) pss_nilA)
  (pss_oneA (ps_appA (pd_var 3) (pd_tup (pda_cons (pd_var 4) (pda_cons (pd_var 5) pda_nil))))))) pss_nilA)) PassesOwn.never)
  (pss_oneA (ps_retA (pd_tup (pda_cons pd_str (pda_cons (pd_tuple (K := K) T.tuple (pda_cons (pd_var 3) pda_nil)) pda_nil))))))), ?_⟩
    rw [casesD_eq] at hQ
    have := pre.le
    walk_at "wp"
    refine ⟨by decide, y1, rfl, ?_⟩
    walk_at "wp"
    refine ⟨by omega, by omega, fun i ρ => ∃ a b, ρ = [yA y1, yA y2, .d (NL ns), .own (caseRows y1 y2 (casesSub y1 y2 ns) ns i), a, b], ⟨_, _, rfl⟩, fun i d ρ hd hI => ?_, fun ρ hI => ?_⟩
    · obtain ⟨hi, rfl⟩ := rgD0_get hd
      obtain ⟨a, b, rfl⟩ := hI
      have cl := caseRows_len y1 y2 (casesSub y1 y2 ns) ns i
      walk_at "wp"
      refine ⟨shaped_int _, shaped_names ns, ?_⟩
      rw [any_names]
      walk_at "wp"
      refine ⟨fun h3 => ?_, fun h3 => ?_⟩
      · have h3 : i ∉ ns := by simpa using h3
        obtain ⟨pre2, lt2⟩ := pre.go hi h3
        refine ⟨y1, y2, ns, ns.length, i, rfl, lt2, by omega, h7, by omega, fun x hx => by have := pre.lt x hx; omega, ?_⟩
        walk_at "wp"
        rw [isN_why]
        walk_at "wp"
        refine ⟨fun h4 => ⟨by decide, sz_of (by omega), y1, y2, ns ++ [i], by rw [names_snoc], hn, h7, pre2, by simp; omega, ?_⟩, fun h4 => ⟨by decide, sz_lt (by omega), _, _, by rw [caseRows_why h3 h4]⟩⟩
        walk_at "wp"
        exact ⟨by decide, sz_lt (by omega), _, _, by rw [caseRows_sub h3 h4, casesSub_go y1 y2 lt2]⟩
      · have h3 : i ∈ ns := by simpa using h3
        rw [caseRows_in h3]
        exact ⟨_, _, rfl⟩
    · obtain ⟨a, b, rfl⟩ := hI
      walk_at "wp"
      exact ⟨by decide, hQ⟩

/-! ### all renamings, place by place -/
def gd (y1 y2 : Y) (p : Nat) (ns : List Nat) (q i : Nat) : Bool := (!decide (q ∈ ns) && decide (y1.m p = y2.m q)) && (List.range i).all fun e => decide (y1.k e p = y2.k (ns.getD e 0) q)
theorem gd_succ (y1 y2 : Y) (p : Nat) (ns : List Nat) (q i : Nat) : gd y1 y2 p ns q (i + 1) = (gd y1 y2 p ns q i && decide (y1.k i p = y2.k (ns.getD i 0) q)) := by
  unfold gd
  rw [List.range_succ, List.all_append, ← Bool.and_assoc]
  simp only [List.all_cons, List.all_nil, Bool.and_true]
def ext (y1 y2 : Y) (p : Nat) (ns : List Nat) (i : Nat) : List (List Nat) := (List.range i).filterMap fun q => if gd y1 y2 p ns q p then some (ns ++ [q]) else none
def lev (y1 y2 : Y) : Nat → List (List Nat)
  | 0 => [[]]
  | p + 1 => (lev y1 y2 p).flatMap fun ns => ext y1 y2 p ns y1.n
theorem ext_succ (y1 y2 : Y) (p : Nat) (ns : List Nat) (i : Nat) : ext y1 y2 p ns (i + 1) = ext y1 y2 p ns i ++ (if gd y1 y2 p ns i p then [ns ++ [i]] else []) := by
  unfold ext
  rw [List.range_succ, List.filterMap_append]
  congr 1
  by_cases h : gd y1 y2 p ns i p <;> simp [h]
theorem ext_len (y1 y2 : Y) (p : Nat) (ns : List Nat) (i : Nat) : (ext y1 y2 p ns i).length ≤ i := Nat.le_trans (List.length_filterMap_le _ _) (by simp)
theorem flat_len {α : Type} {f : α → List (List Nat)} {n : Nat} (h : ∀ x, (f x).length ≤ n) : ∀ l : List α, (l.flatMap f).length ≤ l.length * n
  | [] => by simp
  | x :: l => by
    rw [List.flatMap_cons, List.length_append, List.length_cons, Nat.succ_mul]
    have := h x
    have := flat_len h l
    omega
theorem lev_len (y1 y2 : Y) : ∀ p, (lev y1 y2 p).length ≤ y1.n ^ p
  | 0 => by simp [lev]
  | p + 1 => by
    have h := flat_len (f := fun ns => ext y1 y2 p ns y1.n) (n := y1.n) (fun x => ext_len _ _ _ _ _) (lev y1 y2 p)
    have h2 := Nat.mul_le_mul_right y1.n (lev_len y1 y2 p)
    rw [Nat.pow_succ]
    exact Nat.le_trans h h2
theorem lev_pre {y1 y2 : Y} : ∀ {p : Nat} {ns : List Nat}, ns ∈ lev y1 y2 p → ns.length = p ∧ Pre y1.n ns
  | 0, ns, h => by
    have : ns = [] := by simpa [lev] using h
    subst this
    exact ⟨rfl, .nil, by simp, Nat.zero_le _⟩
  | p + 1, ns, h => by
    obtain ⟨ms, hm, h2⟩ := List.mem_flatMap.mp h
    obtain ⟨q, hq, e⟩ := List.mem_filterMap.mp h2
    obtain ⟨l, pre⟩ := lev_pre hm
    split at e
    · rename_i hg
      cases e
      have hn : q ∉ ms := by
        unfold gd at hg
        simp only [Bool.and_eq_true, Bool.not_eq_true', decide_eq_false_iff_not] at hg
        exact hg.1.1
      exact ⟨by simp [l], (pre.go (List.mem_range.mp hq) hn).1⟩
    · cases e
def allM (y1 y2 : Y) : List (List Nat) := if y1.n = y2.n then lev y1 y2 y1.n else []
theorem NLs_snoc (xs : List (List Nat)) (ns : List Nat) (i : Nat) : xs.map NL ++ [.list ((ns ++ [i]).map nI)] = (xs ++ [ns ++ [i]]).map NL := by simp
def spAll : Spc := fun as Q => ∃ (y1 y2 : Y), as = [.d (rowsD y1), .d (rowsD y2), .d (.list [])] ∧ y1.Ok ∧ y2.Ok ∧ (y1.n ≠ y2.n → Q (.own [])) ∧ (y1.n = y2.n → Q (.d (.list ((lev y1 y2 y1.n).map NL))))
theorem c_law_all (T : Txt K mg C) : Cal P w K mg base C "_law_all" 3 spAll := by
  have c_law_kinds := c_law_kinds (P := P) (w := w) (base := base) T
  refine cal_of T.d_law_all sc_law_all (fun as Q h => by obtain ⟨_, _, rfl, _⟩ := h; rfl) fun f cdv A0 outer s H E hr G F as Q hs => ?_
  obtain ⟨y1, y2, rfl, ok1, ok2, hQ1, hQ2⟩ := hs
  refine ⟨_, _, (pss_consA (ps_ifA (pt_ne (K := K) hr (pd_len (K := K) T.len (pda_cons (pd_ix (K := K) (pd_var 0) pd_int) pda_nil)) (pd_len (K := K) T.len (pda_cons (pd_ix (K := K) (pd_var 1) pd_int) pda_nil))) (pss_oneA (ps_retA (pd_lst pda_nil))) pss_nilA)
  (pss_consA (ps_setA (i := 3) sc_law_all.nd (pd_call c_law_kinds hr (by omega) (pda_cons (pd_var 0) pda_nil)))
  (pss_consA (ps_setA (i := 4) sc_law_all.nd (pd_call c_law_kinds hr (by omega) (pda_cons (pd_var 1) pda_nil)))
  (pss_consA (ps_setA (i := 5) sc_law_all.nd (pd_lst (pda_cons (pd_lst pda_nil) pda_nil)))
  (pss_consA (ps_fz 5 (ps_forA (pi_range1A T.range (pda_cons (pd_len (K := K) T.len (pda_cons (pd_ix (K := K) (pd_var 0) pd_int) pda_nil)) pda_nil)) (pg_nameA 6 sc_law_all.nd) (pss_consA (ps_setA (i := 7) sc_law_all.nd (pd_lst pda_nil))
  (pss_consA (ps_fz 5 (ps_forA (pi_listA (K := K) (pd_var 5)) (pg_nameA 8 sc_law_all.nd) (pss_consA (ps_setA (i := 9) sc_law_all.nd (pd_lstRg T.list (pr_1 T.range (pd_len (K := K) T.len (pda_cons (pd_ix (K := K) (pd_var 0) pd_int) pda_nil)))))
  (pss_consA (ps_ifA (pt_lt (pd_var 6) (pd_len (K := K) T.len (pda_cons (pd_var 2) pda_nil))) (pss_oneA (ps_setA (i := 9) sc_law_all.nd (pd_lst (pda_cons (pd_ix (K := K) (pd_var 2) (pd_var 6)) pda_nil)))) pss_nilA)
  (pss_oneA (ps_fz 9 (ps_forA (pi_listA (K := K) (pd_var 9)) (pg_nameA 10 sc_law_all.nd) (pss_consA (ps_setA (i := 11) sc_law_all.nd (pd_and (pd_nin (K := K) hr (pd_var 10) (pd_var 8)) (pd_one (pd_eq (K := K) hr (pd_ix (K := K) (pd_ix (K := K) (pd_var 0) pd_int) (pd_var 6)) (pd_ix (K := K) (pd_ix (K := K) (pd_var 1) pd_int) (pd_var 10))))))
  (pss_consA (ps_forA (pi_range1A T.range (pda_cons (pd_var 6) pda_nil)) (pg_nameA 12 sc_law_all.nd) (pss_oneA (ps_setA (i := 11) sc_law_all.nd (pd_and (pd_var 11) (pd_one (pd_eq (K := K) hr (pd_ix (K := K) (pd_ix (K := K) (pd_var 3) (pd_var 12)) (pd_var 6)) (pd_ix (K := K) (pd_ix (K := K) (pd_var 4) (pd_ix (K := K) (pd_var 8) (pd_var 12))) (pd_var 10))))))) PassesOwn.never)
  (pss_oneA (ps_ifA (pt_v (pd_var 11)) (pss_oneA (ps_appA (pd_var 7) (pd_add (K := K) (pd_var 8) (pd_lst (pda_cons (pd_var 10) pda_nil))))) pss_nilA)))) PassesOwn.never))))) PassesOwn.never))
  (pss_oneA (ps_fz 7 (ps_setA (i := 5) sc_law_all.nd (pd_var 7)))))) PassesOwn.never))
  (pss_oneA (ps_retA (pd_var 5)))))))), ?_⟩
  have h7 := ok1.n7
  walk_at "wp"
  refine ⟨_, rfl, ?_⟩
  walk_at "wp"
  refine ⟨_, rfl, ?_⟩
  walk_at "wp"
  refine ⟨fun h => ⟨by decide, hQ1 (by simp at h; omega)⟩, fun h => ⟨y1, rfl, ok1, ?_⟩⟩
  have h : y1.n = y2.n := by simp at h; omega
  have hQ := hQ2 h
  walk_at "wp"
  refine ⟨y2, rfl, ok2, ?_⟩
  walk_at "wp"
  have pw : ∀ p, p ≤ 7 → (lev y1 y2 p).length ≤ 7 ^ 7 := fun p hp => Nat.le_trans (lev_len y1 y2 p) (Nat.le_trans (Nat.pow_le_pow_left h7 p) (Nat.pow_le_pow_right (by decide) hp))
  have big : 7 ^ 7 * 7 + 7 < sizeLine := by decide
  refine ⟨by decide, by decide, _, rfl, ?_⟩
  walk_at "wp"
  refine ⟨by omega, by omega, fun p ρ => ∃ a b c d e f g, ρ = [.d (rowsD y1), .d (rowsD y2), .d (.list []), .d (.list (kd y1.kl)), .d (.list (kd y2.kl)), .d (.list ((lev y1 y2 p).map NL)), a, b, c, d, e, f, g], ⟨_, _, _, _, _, _, _, rfl⟩, fun p d ρ hd hI => ?_, fun ρ hI => ?_⟩
  · obtain ⟨hp, rfl⟩ := rgD0_get hd
    obtain ⟨a, b, c, d, e, f, g, rfl⟩ := hI
    walk_at "wp"
    refine ⟨by decide, fun j ρ => ∃ c d e f g, ρ = [.d (rowsD y1), .d (rowsD y2), .d (.list []), .d (.list (kd y1.kl)), .d (.list (kd y2.kl)), .d (.list ((lev y1 y2 p).map NL)), .d (nI p), .own ((((lev y1 y2 p).take j).flatMap fun ns => ext y1 y2 p ns y1.n).map NL), c, d, e, f, g], ⟨_, _, _, _, _, rfl⟩, fun j d ρ hd hI => ?_, fun ρ hI => ?_⟩
    · rw [List.getElem?_map] at hd
      obtain ⟨ns, en, rfl⟩ := Option.map_eq_some_iff.mp hd
      obtain ⟨c, d, e, f, g, rfl⟩ := hI
      have hj : j < (lev y1 y2 p).length := (List.getElem?_eq_some_iff.mp en).1
      obtain ⟨ln, pre⟩ := lev_pre (List.mem_of_getElem? en)
      have fl := flat_len (f := fun ns => ext y1 y2 p ns y1.n) (n := 7) (fun x => Nat.le_trans (ext_len _ _ _ _ _) h7) ((lev y1 y2 p).take j)
      have tj : ((lev y1 y2 p).take j).length ≤ 7 ^ 7 := Nat.le_trans (by rw [List.length_take]; omega) (pw p (by omega))
      have tj2 := Nat.mul_le_mul_right 7 tj
      walk_at "wp"
      refine ⟨_, rfl, ?_⟩
      walk_at "wp"
      have e0 : ((y1.n : Int) - 0).toNat = y1.n := by omega
      rw [e0]
      refine ⟨⟨by decide, by omega⟩, fun z => absurd (of_decide_eq_true z) (by omega), fun _ => ?_⟩
      generalize hL : ((lev y1 y2 p).take j).flatMap (fun ns => ext y1 y2 p ns y1.n) = L at fl
      have eL : ((lev y1 y2 p).take (j + 1)).flatMap (fun ns => ext y1 y2 p ns y1.n) = L ++ ext y1 y2 p ns y1.n := by
        rw [List.take_succ, en, List.flatMap_append, hL]
        simp
      rw [eL]
      refine ⟨fun q ρ => ∃ d e f g, ρ = [.d (rowsD y1), .d (rowsD y2), .d (.list []), .d (.list (kd y1.kl)), .d (.list (kd y2.kl)), .d (.list ((lev y1 y2 p).map NL)), .d (nI p), .own ((L ++ ext y1 y2 p ns q).map NL), .d (NL ns), d, e, f, g], ⟨_, _, _, _, by rw [show ext y1 y2 p ns 0 = [] from rfl, List.append_nil]⟩, fun q d ρ hd hI => ?_, fun ρ hI => ?_⟩
      · obtain ⟨hq, rfl⟩ := rgD0_get hd
        obtain ⟨d, e, f, g, rfl⟩ := hI
        have el := ext_len y1 y2 p ns q
        walk_at "wp"
        refine ⟨shaped_int _, shaped_names ns, ?_⟩
        rw [any_names]
        walk_at "wp"
        refine ⟨fun h3 => ?_, fun h3 => ?_⟩
        · have h3 : q ∉ ns := by simpa using h3
          refine ⟨_, rfl, ?_⟩
          walk_at "wp"
          refine ⟨_, at_marked y1 hp, _, rfl, ?_⟩
          walk_at "wp"
          refine ⟨_, at_marked y2 (by omega), ?_⟩
          walk_at "wp"
          rw [show decide (y1.m p = y2.m q) = gd y1 y2 p ns q 0 by simp [gd, h3]]
          clear h3
          refine ⟨by omega, by omega, fun i ρ => ∃ g, ρ = [.d (rowsD y1), .d (rowsD y2), .d (.list []), .d (.list (kd y1.kl)), .d (.list (kd y2.kl)), .d (.list ((lev y1 y2 p).map NL)), .d (nI p), .own ((L ++ ext y1 y2 p ns q).map NL), .d (NL ns), d, .d (nI q), .d (.bool (gd y1 y2 p ns q i)), g], ⟨_, rfl⟩, fun i d2 ρ hd hI => ?_, fun ρ hI => ?_⟩
          · obtain ⟨hi, rfl⟩ := rgD0_get hd
            obtain ⟨g, rfl⟩ := hI
            walk_at "wp"
            refine ⟨fun hg => ⟨_, at_kinds y1 (by omega), ?_⟩, fun hg => ⟨_, by rw [gd_succ, hg, Bool.false_and]⟩⟩
            have hk := pre.lt _ (getD_mem (ns := ns) (i := i) (by omega))
            walk_at "wp"
            refine ⟨_, at_kind y1 hp, ?_⟩
            walk_at "wp"
            refine ⟨_, at_names (by omega), ?_⟩
            walk_at "wp"
            refine ⟨_, at_kinds y2 (by omega), ?_⟩
            walk_at "wp"
            refine ⟨_, at_kind y2 (by omega), ?_⟩
            walk_at "wp"
            exact ⟨_, by rw [gd_succ, hg, Bool.true_and]⟩
          · obtain ⟨g, rfl⟩ := hI
            walk_at "wp"
            have ll : (L ++ ext y1 y2 p ns q).length < sizeLine := by rw [List.length_append]; omega
            refine ⟨fun hg => ?_, fun hg => ?_⟩
            · have e9 : (L ++ ext y1 y2 p ns (q + 1)).map NL = (L ++ ext y1 y2 p ns q).map NL ++ [.list (ns.map nI ++ [nI q])] := by
                rw [ext_succ, if_pos hg, names_snoc, NLs_snoc, List.append_assoc]
              rw [e9]
              exact ⟨by decide, sz_of (by omega), ll, _, _, _, _, rfl⟩
            · have e9 : ext y1 y2 p ns (q + 1) = ext y1 y2 p ns q := by
                rw [ext_succ, hg]; simp
              rw [e9]
              exact ⟨_, _, _, _, rfl⟩
        · have h3 : q ∈ ns := by simpa using h3
          rw [show A.d (PyData.bool false) = A.d (.bool (gd y1 y2 p ns q 0)) by simp [gd, h3]]
          clear h3
          refine ⟨by omega, by omega, fun i ρ => ∃ g, ρ = [.d (rowsD y1), .d (rowsD y2), .d (.list []), .d (.list (kd y1.kl)), .d (.list (kd y2.kl)), .d (.list ((lev y1 y2 p).map NL)), .d (nI p), .own ((L ++ ext y1 y2 p ns q).map NL), .d (NL ns), d, .d (nI q), .d (.bool (gd y1 y2 p ns q i)), g], ⟨_, rfl⟩, fun i d2 ρ hd hI => ?_, fun ρ hI => ?_⟩
          · obtain ⟨hi, rfl⟩ := rgD0_get hd
            obtain ⟨g, rfl⟩ := hI
            walk_at "wp"
            refine ⟨fun hg => ⟨_, at_kinds y1 (by omega), ?_⟩, fun hg => ⟨_, by rw [gd_succ, hg, Bool.false_and]⟩⟩
            have hk := pre.lt _ (getD_mem (ns := ns) (i := i) (by omega))
            walk_at "wp"
            refine ⟨_, at_kind y1 hp, ?_⟩
            walk_at "wp"
            refine ⟨_, at_names (by omega), ?_⟩
            walk_at "wp"
            refine ⟨_, at_kinds y2 (by omega), ?_⟩
            walk_at "wp"
            refine ⟨_, at_kind y2 (by omega), ?_⟩
            walk_at "wp"
            exact ⟨_, by rw [gd_succ, hg, Bool.true_and]⟩
          · obtain ⟨g, rfl⟩ := hI
            walk_at "wp"
            have ll : (L ++ ext y1 y2 p ns q).length < sizeLine := by rw [List.length_append]; omega
            refine ⟨fun hg => ?_, fun hg => ?_⟩
            · have e9 : (L ++ ext y1 y2 p ns (q + 1)).map NL = (L ++ ext y1 y2 p ns q).map NL ++ [.list (ns.map nI ++ [nI q])] := by
                rw [ext_succ, if_pos hg, names_snoc, NLs_snoc, List.append_assoc]
              rw [e9]
              exact ⟨by decide, sz_of (by omega), ll, _, _, _, _, rfl⟩
            · have e9 : ext y1 y2 p ns (q + 1) = ext y1 y2 p ns q := by
                rw [ext_succ, hg]; simp
              rw [e9]
              exact ⟨_, _, _, _, rfl⟩
      · obtain ⟨d, e, f, g, rfl⟩ := hI
        exact ⟨_, _, _, _, _, rfl⟩
    · obtain ⟨c, d, e, f, g, rfl⟩ := hI
      rw [List.take_length]
      walk_at "wp"
      exact ⟨_, _, _, _, _, _, _, rfl⟩
  · obtain ⟨a, b, c, d, e, f, g, rfl⟩ := hI
    walk_at "wp"
    exact hQ

/-! ### _law_alike of what is alike -/
mutual
def okD : PyData → Bool
  | .none => true
  | .bool _ => false
  | .int _ => true
  | .str _ => true
  | .list xs => decide (xs.length ≤ 100000) && okAll xs
  | .tuple xs => decide (xs.length ≤ 100000) && okAll xs
  | .dict _ => false
def okAll : List PyData → Bool
  | [] => true
  | x :: xs => okD x && okAll xs
end
theorem okAll_mem : ∀ {xs : List PyData}, okAll xs = true → ∀ x ∈ xs, okD x = true
  | [], _, x, h => by simp at h
  | y :: ys, h, x, hx => by
    rw [okAll, Bool.and_eq_true] at h
    rcases List.mem_cons.mp hx with z | z
    · rw [z]; exact h.1
    · exact okAll_mem h.2 x z
theorem depth_mem : ∀ {xs : List PyData}, ∀ x ∈ xs, PyData.depth x ≤ PyData.depthAll xs
  | [], x, h => by simp at h
  | y :: ys, x, hx => by
    rw [PyData.depthAll]
    rcases List.mem_cons.mp hx with z | z
    · rw [z]; omega
    · have := depth_mem x z
      omega
def spAlike (t : Nat) : Spc := fun as Q => ∃ x : PyData, as = [.d x, .d x] ∧ okD x = true ∧ PyData.depth x < t ∧ Q (.d (.bool true))
/-! ### reasons as trees -/
inductive Why where
  | word (s : Bool)
  | tie (e : Int)
  | cases (rows : List (Nat × Why))
mutual
def Why.toD : Why → PyData
  | .word s => .tuple [.str (if s then "mark" else "many")]
  | .tie e => .tuple [.str "tie", .int e]
  | .cases rows => .tuple [.str "cases", .tuple (Why.toDs rows)]
def Why.toDs : List (Nat × Why) → List PyData
  | [] => []
  | (q, w) :: r => .tuple [nI q, w.toD] :: Why.toDs r
end
mutual
def Why.rank : Why → Nat
  | .word _ => 0
  | .tie _ => 0
  | .cases rows => Why.ranks rows + 1
def Why.ranks : List (Nat × Why) → Nat
  | [] => 0
  | (_, w) :: r => max w.rank (Why.ranks r)
end
mutual
/-- is_shown's answer -/
def shown (y1 y2 : Y) (ns : List Nat) (q : Nat) : Why → Bool
  | .word s => s && !decide (y1.m ns.length = y2.m q)
  | .tie e => decide (0 ≤ e) && (decide (e < (ns.length : Int)) && !decide (y1.k e.toNat ns.length = y2.k (ns.getD e.toNat 0) q))
  | .cases rows => caseOk y1 y2 (ns ++ [q]) rows
def caseOk (y1 y2 : Y) (ns : List Nat) (rows : List (Nat × Why)) : Bool :=
  decide (ns.length < y1.n) && (decide (rows.map (·.1) = (List.range y1.n).filter fun q => !decide (q ∈ ns)) && allShown y1 y2 ns rows)
def allShown (y1 y2 : Y) (ns : List Nat) : List (Nat × Why) → Bool
  | [] => true
  | (q, w) :: r => shown y1 y2 ns q w && allShown y1 y2 ns r
end
mutual
def Why.fit : Why → Bool
  | .word _ => true
  | .tie _ => true
  | .cases rows => decide (rows.length ≤ 1000) && Why.fits rows
def Why.fits : List (Nat × Why) → Bool
  | [] => true
  | (_, w) :: r => w.fit && Why.fits r
end
def rowD (r : Nat × Why) : PyData := .tuple [nI r.1, r.2.toD]
theorem toDs_map : ∀ rows : List (Nat × Why), Why.toDs rows = rows.map rowD
  | [] => rfl
  | (q, w) :: r => by rw [Why.toDs, toDs_map r]; rfl
theorem fits_mem : ∀ {rows : List (Nat × Why)}, Why.fits rows = true → ∀ r ∈ rows, r.2.fit = true
  | [], _, x, h => by simp at h
  | (q, w) :: t, h, x, hx => by
    rw [Why.fits, Bool.and_eq_true] at h
    rcases List.mem_cons.mp hx with z | z
    · rw [z]; exact h.1
    · exact fits_mem h.2 x z
theorem ranks_mem : ∀ {rows : List (Nat × Why)}, ∀ r ∈ rows, r.2.rank ≤ Why.ranks rows
  | [], x, h => by simp at h
  | (q, w) :: t, x, hx => by
    rw [Why.ranks]
    rcases List.mem_cons.mp hx with z | z
    · rw [z]; exact Nat.le_max_left _ _
    · exact Nat.le_trans (ranks_mem x z) (Nat.le_max_right _ _)
theorem so_mark : PyData.strOk ("mark" : Str) = true := by decide +kernel
theorem so_many : PyData.strOk ("many" : Str) = true := by decide +kernel
theorem so_tie : PyData.strOk ("tie" : Str) = true := by decide +kernel
theorem so_cases : PyData.strOk ("cases" : Str) = true := by decide +kernel
mutual
theorem toD_lay : ∀ w : Why, PyData.canLay0 w.toD = true
  | .word s => by cases s <;> simp [Why.toD, PyData.canLay0, PyData.canLayAll0, so_mark, so_many]
  | .tie e => by simp [Why.toD, PyData.canLay0, PyData.canLayAll0, so_tie]
  | .cases rows => by simp [Why.toD, PyData.canLay0, PyData.canLayAll0, toDs_lay rows, so_cases]
theorem toDs_lay : ∀ rows : List (Nat × Why), PyData.canLayAll0 (Why.toDs rows) = true
  | [] => by simp [Why.toDs, PyData.canLayAll0]
  | (q, w) :: r => by simp [Why.toDs, PyData.canLay0, PyData.canLayAll0, toD_lay w, toDs_lay r]
end
mutual
theorem toD_depth : ∀ w : Why, PyData.depth w.toD ≤ 3 * w.rank + 2
  | .word s => by simp [Why.toD, PyData.depth, PyData.depthAll, Why.rank]
  | .tie e => by simp [Why.toD, PyData.depth, PyData.depthAll, Why.rank]
  | .cases rows => by
    have := toDs_depth rows
    simp only [Why.toD, PyData.depth, PyData.depthAll, Why.rank]
    omega
theorem toDs_depth : ∀ rows : List (Nat × Why), PyData.depthAll (Why.toDs rows) ≤ 3 * Why.ranks rows + 3
  | [] => by simp [Why.toDs, PyData.depthAll]
  | (q, w) :: r => by
    have h1 := toD_depth w
    have h2 := toDs_depth r
    simp only [Why.toDs, PyData.depth, PyData.depthAll, Why.ranks]
    omega
end
theorem shaped_rows {rows : List (Nat × Why)} (h : Why.ranks rows ≤ 18) : SeqAt.shaped (.list (Why.toDs rows)) = true := by
  have h1 := toDs_depth rows
  show (PyData.canLay0 (.list (Why.toDs rows)) && decide (PyData.depth (.list (Why.toDs rows)) ≤ 64)) = true
  rw [Bool.and_eq_true]
  refine ⟨?_, decide_eq_true ?_⟩
  · simp only [PyData.canLay0]; exact toDs_lay rows
  · simp only [PyData.depth]; omega
theorem ranks_filter (f : Nat × Why → Bool) : ∀ rows : List (Nat × Why), Why.ranks (rows.filter f) ≤ Why.ranks rows
  | [] => by simp [Why.ranks]
  | (q, w) :: r => by
    have := ranks_filter f r
    rw [List.filter_cons]
    split
    · simp only [Why.ranks]; omega
    · simp only [Why.ranks]; omega
theorem eqv_empty (xs : List PyData) : PyData.eqv (.list xs) (.list []) = xs.isEmpty := by
  cases xs <;> simp [PyData.eqv, PyData.eqvAll]
theorem allShown_filter (y1 y2 : Y) (ns : List Nat) : ∀ rows : List (Nat × Why), (rows.filter fun r => !shown y1 y2 ns r.1 r.2).isEmpty = allShown y1 y2 ns rows
  | [] => by simp [allShown]
  | (q, w) :: r => by
    have ih := allShown_filter y1 y2 ns r
    rw [List.filter_cons, allShown]
    cases h : shown y1 y2 ns q w
    · simp
    · simp [ih]
def isCase (y1 y2 : Y) (ns : List Nat) : Why → Bool
  | .cases rows => caseOk y1 y2 ns rows
  | _ => false
def leftOf (n : Nat) (ns : List Nat) : List Nat := (List.range n).filter fun q => !decide (q ∈ ns)
/-! ### how wide -/
mutual
def Why.wide : Why → Nat
  | .word _ => 0
  | .tie _ => 0
  | .cases rows => max rows.length (Why.wides rows)
def Why.wides : List (Nat × Why) → Nat
  | [] => 0
  | (_, w) :: r => max w.wide (Why.wides r)
end
mutual
theorem fit_of : ∀ w : Why, w.wide ≤ 1000 → w.fit = true
  | .word _, _ => rfl
  | .tie _, _ => rfl
  | .cases rows, h => by
    rw [Why.wide] at h
    have := fits_of rows (by omega)
    rw [Why.fit, this, decide_eq_true (by omega)]
    rfl
theorem fits_of : ∀ rows : List (Nat × Why), Why.wides rows ≤ 1000 → Why.fits rows = true
  | [], _ => rfl
  | (q, w) :: r, h => by
    rw [Why.wides] at h
    rw [Why.fits, fit_of w (by omega), fits_of r (by omega)]
    rfl
end

/-! ### is_case, is_shown, shows -/
def spIsCase (t : Nat) : Spc := fun as Q => ∃ (y1 y2 : Y) (ns : List Nat) (w : Why), as = [yA y1, yA y2, .d (NL ns), .d w.toD] ∧ y1.n = y2.n ∧ y1.n ≤ 7 ∧ Pre y1.n ns ∧ w.rank ≤ t ∧ t ≤ 18 ∧ w.fit = true ∧ Q (.d (.bool (isCase y1 y2 ns w)))
def spIsShown (t : Nat) : Spc := fun as Q => ∃ (y1 y2 : Y) (ns : List Nat) (q : Nat) (w : Why), as = [yA y1, yA y2, .d (NL ns), .d (nI q), .d w.toD] ∧ y1.n = y2.n ∧ y1.n ≤ 7 ∧ Pre y1.n ns ∧ q < y1.n ∧ q ∉ ns ∧ w.rank ≤ t ∧ t ≤ 18 ∧ w.fit = true ∧ Q (.d (.bool (shown y1 y2 ns q w)))
def showsB (y1 y2 : Y) : Why → Bool
  | .word false => !decide (y1.n = y2.n)
  | w => decide (y1.n = y2.n) && isCase y1 y2 [] w
def spShows : Spc := fun as Q => ∃ (y1 y2 : Y) (w : Why), as = [yA y1, yA y2, .d w.toD] ∧ y1.n ≤ 7 ∧ w.rank ≤ 10 ∧ w.fit = true ∧ Q (.d (.bool (showsB y1 y2 w)))
theorem pre_nil (n : Nat) : Pre n [] := ⟨.nil, by simp, Nat.zero_le _⟩
def alikeD (y1 y2 : Y) : PyData := if y1.n = y2.n then (match firstM y1 y2 [] with
  | some l => .tuple [.str "renaming", NL l]
  | none => .tuple [.str "apart", casesD y1 y2 y1.n []]) else .tuple [.str "apart", .tuple [.str "many"]]
def spAlikeY : Spc := fun as Q => ∃ (y1 y2 : Y), as = [yA y1, yA y2] ∧ y1.n ≤ 7 ∧ Q (.d (alikeD y1 y2))
/-! ### two rows -/
theorem cut_to {α : Type} (xs : List α) (k : Nat) : cutD xs none (some (k : Int)) = xs.take k := by
  unfold cutD
  rw [HT.sIx_none, HT.sIx_nat, List.drop_zero, Nat.sub_zero, ← List.take_eq_take_min]
theorem cut_from {α : Type} (xs : List α) (k : Nat) : cutD xs (some (k : Int)) none = xs.drop k := by
  unfold cutD
  rw [HT.sIx_none, HT.sIx_nat]
  by_cases h : k ≤ xs.length
  · rw [Nat.min_eq_left h, List.take_of_length_le (by rw [List.length_drop]; exact Nat.le_refl _)]
  · rw [Nat.min_eq_right (by omega), List.drop_of_length_le (Nat.le_refl _), List.drop_of_length_le (by omega)]
    simp
abbrev pD (p : Nat × Nat) : PyData := .tuple [nI p.1, nI p.2]
theorem eqv_pD (p q : Nat × Nat) : PyData.eqv (pD p) (pD q) = decide (p = q) := by
  have h1 : plainD (pD p) = true := by simp [plainD, plainAll]
  have h2 : plainD (pD q) = true := by simp [plainD, plainAll]
  rw [Bool.eq_iff_iff, eqv_iff _ _ h1 h2, decide_eq_true_iff]
  constructor
  · intro h
    injection h with h
    simp only [List.cons.injEq, PyData.int.injEq, and_true] at h
    exact Prod.ext (by omega) (by omega)
  · rintro rfl; rfl
theorem shaped_pD (p : Nat × Nat) : SeqAt.shaped (pD p) = true := by
  simp [SeqAt.shaped, PyData.canLay0, PyData.canLayAll0, PyData.depth, PyData.depthAll]
theorem shaped_pDs (ps : List (Nat × Nat)) : SeqAt.shaped (.list (ps.map pD)) = true := by
  have h1 : PyData.canLayAll0 (ps.map pD) = true := by
    induction ps with
    | nil => simp [PyData.canLayAll0]
    | cons a l ih => simp [PyData.canLayAll0, PyData.canLay0, ih]
  have h2 : PyData.depthAll (ps.map pD) ≤ 3 := by
    clear h1
    induction ps with
    | nil => simp [PyData.depthAll]
    | cons a l ih =>
      rw [List.map_cons]
      simp only [PyData.depthAll, PyData.depth]
      omega
  show (PyData.canLay0 (.list (ps.map pD)) && decide (PyData.depth (.list (ps.map pD)) ≤ 64)) = true
  rw [Bool.and_eq_true]
  refine ⟨by simp only [PyData.canLay0]; exact h1, decide_eq_true ?_⟩
  simp only [PyData.depth]
  omega
theorem shaped_ties (ts : List Tie) : SeqAt.shaped (.list (ts.map tieD)) = true := by
  have h1 : PyData.canLayAll0 (ts.map tieD) = true := by
    induction ts with
    | nil => simp [PyData.canLayAll0]
    | cons a l ih => simp [PyData.canLayAll0, PyData.canLay0, ih]
  have h2 : PyData.depthAll (ts.map tieD) ≤ 3 := by
    clear h1
    induction ts with
    | nil => simp [PyData.depthAll]
    | cons a l ih =>
      rw [List.map_cons]
      simp only [PyData.depthAll, PyData.depth]
      omega
  show (PyData.canLay0 (.list (ts.map tieD)) && decide (PyData.depth (.list (ts.map tieD)) ≤ 64)) = true
  rw [Bool.and_eq_true]
  refine ⟨by simp only [PyData.canLay0]; exact h1, decide_eq_true ?_⟩
  simp only [PyData.depth]
  omega
theorem any_pD (ts : List Tie) (p : Nat × Nat) : ((ts.map fun t => pD (t.1, t.2.1)).any fun z => PyData.eqv z (pD p)) = ts.any fun t => decide ((t.1, t.2.1) = p) := by
  rw [List.any_map]
  congr 1
  funext t
  exact eqv_pD _ _
/-- a pair that is free of ties -/
def FreeP (y : Y) (p : Nat × Nat) : Prop := p.1 < p.2 ∧ p.2 < y.n ∧ ∀ t ∈ y.ties, ¬ (t.1 = p.1 ∧ t.2.1 = p.2)
/-- a tie is moved to a free pair -/
theorem moved_ok {y : Y} (ok : y.Ok) {i : Nat} {t : Tie} (et : y.ties[i]? = some t) {p : Nat × Nat} (fp : FreeP y p) {us : List (List Int)}
    (pm : us.Perm ((y.ties.take i ++ y.ties.drop (i + 1) ++ [(p.1, p.2, t.2.2)]).map tI)) (so : us.Pairwise fun x y => TS.code 16 x ≤ TS.code 16 y) : ∃ ts : List Tie, us.map intsD = ts.map tieD ∧ STies y.n ts := by
  have h7 := ok.n7
  have st := ok.sties
  have sub : (y.ties.take i ++ y.ties.drop (i + 1)).Sublist y.ties := by
    have h := List.take_append_drop i y.ties
    conv => rhs; rw [← h]
    refine List.Sublist.append (List.Sublist.refl _) ?_
    rw [← List.drop_drop]
    exact List.drop_sublist _ _
  have bt := st.bd t (List.mem_of_getElem? et)
  have bd : ∀ u ∈ y.ties.take i ++ y.ties.drop (i + 1) ++ [(p.1, p.2, t.2.2)], u.1 < u.2.1 ∧ u.2.1 < y.n ∧ 1 ≤ u.2.2 ∧ u.2.2 ≤ 9 := fun u hu => by
    rcases List.mem_append.mp hu with z | z
    · exact st.bd u (sub.mem z)
    · have : u = (p.1, p.2, t.2.2) := by simpa using z
      subst this
      exact ⟨fp.1, fp.2.1, bt.2.2.1, bt.2.2.2⟩
  obtain ⟨ts, rfl, p2, s2⟩ := sorted_ties (fun u hu => by have := bd u hu; omega) (by
    rw [List.pairwise_append]
    refine ⟨(st.so.sublist sub).imp fun {a b} r z => ?_, by simp, fun a ha b hb => ?_⟩
    · unfold ltT at r
      omega
    · have : b = (p.1, p.2, t.2.2) := by simpa using hb
      subst this
      exact fp.2.2 a (sub.mem ha)) pm so
  exact ⟨ts, by rw [tieD_ints], fun u hu => bd u (p2.mem_iff.mp hu), s2⟩
def spTwo : Spc := fun as Q => ∃ most : Nat, as = [.box, .d (nI most)] ∧ 1 ≤ most ∧ most ≤ 7 ∧ ∀ y1 y2 : Y, y1.Ok → y2.Ok → y1.n ≤ most → y2.n ≤ most → Q (.d (.tuple [rowsD y1, rowsD y2]))
/-! ### place by place, and depth first -/
theorem gd_good {y1 y2 : Y} {ns : List Nat} {q : Nat} : gd y1 y2 ns.length ns q ns.length = good y1 y2 ns q := by
  unfold gd good clashW
  by_cases h : y1.m ns.length = y2.m q
  · rw [if_pos h, decide_eq_true h, Bool.and_true]
    congr 1
    rw [Option.isNone_map]
    cases e : (List.range ns.length).find? fun e => decide (y1.k e ns.length ≠ y2.k (ns.getD e 0) q) with
    | none =>
      rw [List.find?_eq_none] at e
      simp only [Option.isNone_none, List.all_eq_true]
      intro x hx
      have := e x hx
      simpa using this
    | some x =>
      have h1 := List.find?_some e
      have h2 := List.mem_of_find?_eq_some e
      simp only [Option.isNone_some]
      rw [List.all_eq_false]
      exact ⟨x, h2, by simpa using h1⟩
  · rw [if_neg h, decide_eq_false h]
    simp
def ex1 (y1 y2 : Y) (ns : List Nat) : List (List Nat) := ext y1 y2 ns.length ns y1.n
theorem some_filter {α β γ : Type} (f : α → Option β) (g : β → Option γ) : ∀ l : List α, (l.filterMap f).findSome? g = l.findSome? fun a => (f a).bind g
  | [] => rfl
  | a :: l => by
    rw [List.filterMap_cons, List.findSome?_cons]
    cases h : f a with
    | none => simp only [Option.bind_none]; exact some_filter f g l
    | some b =>
      simp only [Option.bind_some]
      rw [List.findSome?_cons, some_filter f g l]
def desc (y1 y2 : Y) : Nat → List Nat → List (List Nat)
  | 0, ns => [ns]
  | t + 1, ns => (ex1 y1 y2 ns).flatMap (desc y1 y2 t)
theorem led_desc (y1 y2 : Y) : ∀ (t : Nat) (ns : List Nat), led y1 y2 t ns = (desc y1 y2 t ns).head?
  | 0, _ => rfl
  | t + 1, ns => by
    rw [led, desc, List.head?_flatMap]
    unfold ex1 ext
    rw [some_filter]
    congr 1
    funext q
    rw [gd_good]
    by_cases h : good y1 y2 ns q = true
    · rw [if_pos h, if_pos h, led_desc y1 y2 t]; rfl
    · rw [if_neg h, if_neg h]; rfl
theorem flat_congr {α β : Type} {f g : α → List β} : ∀ {l : List α}, (∀ x ∈ l, f x = g x) → l.flatMap f = l.flatMap g
  | [], _ => rfl
  | x :: l, h => by
    rw [List.flatMap_cons, List.flatMap_cons, h x List.mem_cons_self, flat_congr fun y hy => h y (List.mem_cons_of_mem _ hy)]
theorem lev_desc (y1 y2 : Y) : ∀ (t p : Nat), (lev y1 y2 p).flatMap (desc y1 y2 t) = lev y1 y2 (p + t)
  | 0, p => by
    have : desc y1 y2 0 = fun ns => [ns] := by funext ns; rfl
    rw [this]
    simp
  | t + 1, p => by
    have e : lev y1 y2 (p + 1) = (lev y1 y2 p).flatMap (ex1 y1 y2) := flat_congr fun ns h => by
      unfold ex1
      rw [(lev_pre h).1]
    have e2 : (lev y1 y2 p).flatMap (desc y1 y2 (t + 1)) = ((lev y1 y2 p).flatMap (ex1 y1 y2)).flatMap (desc y1 y2 t) := by
      rw [List.flatMap_assoc]
      rfl
    rw [e2, ← e, lev_desc y1 y2 t (p + 1)]
    congr 1
    omega
/-- the first found is the head of all -/
theorem first_lev {y1 y2 : Y} (h : y1.n = y2.n) : firstM y1 y2 [] = (lev y1 y2 y1.n).head? := by
  unfold firstM
  rw [if_pos h, if_pos (by rfl), led_desc]
  have := lev_desc y1 y2 y1.n 0
  simp only [lev, List.flatMap_cons, List.flatMap_nil, List.append_nil, Nat.zero_add] at this
  rw [← this]
  rfl
theorem getD_left {l : List Nat} {q i : Nat} (h : i < l.length) : (l ++ [q]).getD i 0 = l.getD i 0 := by
  simp [List.getD, List.getElem?_append_left h]
theorem getD_last {l : List Nat} {q : Nat} : (l ++ [q]).getD l.length 0 = q := by
  simp [List.getD]
theorem lev_iso {y1 y2 : Y} : ∀ {p : Nat} {l : List Nat}, l ∈ lev y1 y2 p → ∀ i, i < p → y1.m i = y2.m (l.getD i 0) ∧ ∀ e, e < i → y1.k e i = y2.k (l.getD e 0) (l.getD i 0)
  | 0, _, _, i, hi => by omega
  | p + 1, l, h, i, hi => by
    obtain ⟨ms, hm, h2⟩ := List.mem_flatMap.mp h
    obtain ⟨q, hq, e⟩ := List.mem_filterMap.mp h2
    obtain ⟨ln, pre⟩ := lev_pre hm
    split at e
    · rename_i hg
      cases e
      by_cases z : i < p
      · have ih := lev_iso hm i z
        rw [getD_left (by omega)]
        refine ⟨ih.1, fun e he => ?_⟩
        rw [getD_left (by omega)]
        exact ih.2 e he
      · have z : i = ms.length := by omega
        subst z
        rw [getD_last]
        unfold gd at hg
        rw [Bool.and_eq_true, Bool.and_eq_true, List.all_eq_true] at hg
        rw [← ln] at hg
        refine ⟨of_decide_eq_true hg.1.2, fun e he => ?_⟩
        rw [getD_left he]
        exact of_decide_eq_true (hg.2 e (List.mem_range.mpr he))
    · cases e
theorem lev_nm {y1 y2 : Y} {l : List Nat} (h : l ∈ lev y1 y2 y1.n) : Nm y1.n l := ⟨(lev_pre h).1, (lev_pre h).2.nd, (lev_pre h).2.lt⟩
/-- what is found renames the one yard into the other -/
theorem ren_lev {y1 y2 : Y} (ok1 : y1.Ok) (ok2 : y2.Ok) (hn : y1.n = y2.n) {l : List Nat} (h : l ∈ lev y1 y2 y1.n) : rowsD (ren y1 l) = rowsD y2 := by
  have nm := lev_nm h
  have iso := lev_iso h
  have em : ∀ a, a < y1.n → y1.m (l.idxOf a) = y2.m a := fun a ha => by
    have := (iso _ (nm.idx_lt ha)).1
    rw [nm.get_idx ha] at this
    exact this
  have ek : ∀ a b, a < y1.n → b < y1.n → y1.k (l.idxOf a) (l.idxOf b) = y2.k a b := fun a b ha hb => by
    have ia := nm.idx_lt ha
    have ib := nm.idx_lt hb
    have ga := nm.get_idx ha
    have gb := nm.get_idx hb
    rcases Nat.lt_trichotomy (l.idxOf a) (l.idxOf b) with z | z | z
    · have := (iso _ ib).2 _ z
      rw [ga, gb] at this
      exact this
    · have e : a = b := by rw [← ga, ← gb, z]
      subst e
      rw [ok1.dg, ok2.dg]
    · have := (iso _ ia).2 _ z
      rw [ga, gb] at this
      rw [ok1.sy, this, ok2.sy]
  have e1 : (ren y1 l).ml = y2.ml := by
    show (List.range y1.n).map (fun a => y1.m (l.idxOf a)) = (List.range y2.n).map y2.m
    rw [← hn]
    exact List.map_congr_left fun a ha => em a (by simpa using ha)
  have e2 : (ren y1 l).ties = y2.ties := by
    refine sorted_ext ltT_irr ltT_asym (tiesOf_pw _ _ _) (tiesOf_pw _ _ _) fun x => ?_
    show x ∈ tiesOf _ y1.n y1.n ↔ x ∈ tiesOf y2.k y2.n y2.n
    rw [← hn, mem_tiesOf, mem_tiesOf]
    constructor
    · rintro ⟨h1, h2, h3, h4, h5⟩
      exact ⟨h1, h2, h3, by rw [h4]; exact ek _ _ h1 h3, h5⟩
    · rintro ⟨h1, h2, h3, h4, h5⟩
      exact ⟨h1, h2, h3, by rw [h4]; exact (ek _ _ h1 h3).symm, h5⟩
  show PyData.tuple [.list ((ren y1 l).ml.map PyData.int), .list ((ren y1 l).ties.map tieD)] = PyData.tuple [.list (y2.ml.map PyData.int), .list (y2.ties.map tieD)]
  rw [e1, e2]
/-! ### where nothing is found, the reasons are shown -/
theorem clash_why {y1 y2 : Y} {ns : List Nat} {q : Nat} {o : Option Nat} (h : clashW y1 y2 ns ns.length q = some o) : ∃ w : Why, w.toD = whyD (some o) ∧ w.rank = 0 ∧ w.wide = 0 ∧ shown y1 y2 ns q w = true := by
  unfold clashW at h
  by_cases z : y1.m ns.length = y2.m q
  · rw [if_pos z] at h
    obtain ⟨e, h1, rfl⟩ := Option.map_eq_some_iff.mp h
    have h2 := List.find?_some h1
    have h3 := List.mem_range.mp (List.mem_of_find?_eq_some h1)
    have h2 := of_decide_eq_true h2
    refine ⟨.tie e, by simp [Why.toD, whyD], rfl, rfl, ?_⟩
    simp only [shown, Int.toNat_natCast]
    rw [decide_eq_true (show (0 : Int) ≤ (e : Int) by omega), decide_eq_true (show (e : Int) < (ns.length : Int) by omega), decide_eq_false h2]
    rfl
  · rw [if_neg z] at h
    cases h
    refine ⟨.word true, by simp [Why.toD, whyD], rfl, rfl, ?_⟩
    simp [shown, z]
theorem ranks_snoc (r : Nat × Why) : ∀ rows, Why.ranks (rows ++ [r]) = max (Why.ranks rows) r.2.rank
  | [] => by obtain ⟨q, w⟩ := r; simp [Why.ranks]
  | (q, w) :: t => by
    rw [List.cons_append, Why.ranks, Why.ranks, ranks_snoc r t, Nat.max_assoc]
theorem wides_snoc (r : Nat × Why) : ∀ rows, Why.wides (rows ++ [r]) = max (Why.wides rows) r.2.wide
  | [] => by obtain ⟨q, w⟩ := r; simp [Why.wides]
  | (q, w) :: t => by
    rw [List.cons_append, Why.wides, Why.wides, wides_snoc r t, Nat.max_assoc]
theorem allShown_snoc (y1 y2 : Y) (ns : List Nat) (r : Nat × Why) : ∀ rows, allShown y1 y2 ns (rows ++ [r]) = (allShown y1 y2 ns rows && shown y1 y2 ns r.1 r.2)
  | [] => by obtain ⟨q, w⟩ := r; simp [allShown]
  | (q, w) :: t => by
    rw [List.cons_append, allShown, allShown, allShown_snoc y1 y2 ns r t, Bool.and_assoc]
theorem isCase_shown {y1 y2 : Y} {ns : List Nat} {q : Nat} {w : Why} (h : isCase y1 y2 (ns ++ [q]) w = true) : shown y1 y2 ns q w = true := by
  cases w with
  | word b => cases h
  | tie e => cases h
  | cases rows =>
    rw [shown]
    exact h
theorem some_none {β : Type} {n : Nat} {f : Nat → Option β} (h : (List.range n).findSome? f = none) : ∀ q, q < n → f q = none := fun q hq => List.findSome?_eq_none_iff.mp h q (List.mem_range.mpr hq)
theorem tree {y1 y2 : Y} (h7 : y1.n ≤ 7) : ∀ (t : Nat) (ns : List Nat), Pre y1.n ns → ns.length + t = y1.n → led y1 y2 t ns = none → ∃ w : Why, w.toD = casesD y1 y2 t ns ∧ w.rank ≤ t ∧ w.wide ≤ 7 ∧ isCase y1 y2 ns w = true
  | 0, ns, _, _, h => by cases h
  | t + 1, ns, pre, hl, h => by
    have hnone := some_none (by rw [led] at h; exact h)
    have rows : ∀ i, i ≤ y1.n → ∃ rows : List (Nat × Why), Why.toDs rows = caseRows y1 y2 (casesD y1 y2 t) ns i ∧ rows.map (·.1) = ((List.range i).filter fun q => !decide (q ∈ ns)) ∧ Why.ranks rows ≤ t ∧ Why.wides rows ≤ 7 ∧ allShown y1 y2 ns rows = true ∧ rows.length ≤ i := by
      intro i
      induction i with
      | zero => exact fun _ => ⟨[], rfl, rfl, Nat.zero_le _, Nat.zero_le _, by rw [allShown], Nat.le_refl _⟩
      | succ i ih =>
        intro hi
        obtain ⟨rows, e1, e2, e3, e4, e5, e6⟩ := ih (by omega)
        by_cases hm : i ∈ ns
        · refine ⟨rows, by rw [caseRows_in hm, e1], ?_, e3, e4, e5, by omega⟩
          rw [List.range_succ, List.filter_append, e2]
          simp [hm]
        · have one : ∃ w : Why, caseRows y1 y2 (casesD y1 y2 t) ns (i + 1) = caseRows y1 y2 (casesD y1 y2 t) ns i ++ [.tuple [nI i, w.toD]] ∧ w.rank ≤ t ∧ w.wide ≤ 7 ∧ shown y1 y2 ns i w = true := by
            cases c : clashW y1 y2 ns ns.length i with
            | some o =>
              obtain ⟨w, w1, w2, w3, w4⟩ := clash_why c
              refine ⟨w, ?_, by omega, by omega, w4⟩
              rw [caseRows_why hm (by rw [c]; rfl), w1, c]
            | none =>
              have hg : good y1 y2 ns i = true := by unfold good; rw [c]; simp [hm]
              have hz := hnone i (by omega)
              rw [if_pos hg] at hz
              obtain ⟨w, w1, w2, w3, w4⟩ := tree h7 t (ns ++ [i]) (pre.go (by omega) hm).1 (by simp; omega) hz
              refine ⟨w, ?_, w2, w3, isCase_shown w4⟩
              rw [caseRows_sub hm (by rw [c]; rfl), w1]
          obtain ⟨w, w1, w2, w3, w4⟩ := one
          refine ⟨rows ++ [(i, w)], ?_, ?_, ?_, ?_, ?_, by simp; omega⟩
          · rw [w1, toDs_map, List.map_append, ← toDs_map, e1]; rfl
          · rw [List.range_succ, List.filter_append, List.map_append, e2]
            simp [hm]
          · rw [ranks_snoc]; exact Nat.max_le.mpr ⟨e3, w2⟩
          · rw [wides_snoc]; exact Nat.max_le.mpr ⟨e4, w3⟩
          · rw [allShown_snoc, e5, w4]; rfl
    obtain ⟨rows, e1, e2, e3, e4, e5, e6⟩ := rows y1.n (Nat.le_refl _)
    refine ⟨.cases rows, ?_, ?_, ?_, ?_⟩
    · rw [Why.toD, e1, casesD]
    · rw [Why.rank]; omega
    · rw [Why.wide]; omega
    · rw [isCase, caseOk, decide_eq_true (show ns.length < y1.n by omega), decide_eq_true e2, e5]; rfl
/-- the tree of cases of two yards that are not alike -/
theorem tree0 {y1 y2 : Y} (h7 : y1.n ≤ 7) (n1 : 1 ≤ y1.n) (hn : y1.n = y2.n) (h : firstM y1 y2 [] = none) : ∃ w : Why, w.toD = casesD y1 y2 y1.n [] ∧ w.rank ≤ 7 ∧ w.fit = true ∧ showsB y1 y2 w = true := by
  unfold firstM at h
  rw [if_pos hn, if_pos (by rfl)] at h
  obtain ⟨w, w1, w2, w3, w4⟩ := tree h7 y1.n [] (pre_nil _) (by simp) h
  refine ⟨w, w1, by omega, fit_of w (by omega), ?_⟩
  cases w with
  | word b => cases w4
  | tie e => cases w4
  | cases rows =>
    show (decide (y1.n = y2.n) && isCase y1 y2 [] (.cases rows)) = true
    rw [decide_eq_true hn, w4]
    rfl

/-! ### plain data -/
theorem okAll_ints (l : List Nat) : okAll (l.map nI) = true := by
  induction l with
  | nil => rfl
  | cons a l ih => rw [List.map_cons, okAll, ih]; rfl
theorem okD_names {l : List Nat} (h : l.length ≤ 100000) : okD (NL l) = true := by
  show (decide ((l.map nI).length ≤ 100000) && okAll (l.map nI)) = true
  rw [okAll_ints, List.length_map, decide_eq_true h]
  rfl
mutual
theorem okD_why : ∀ w : Why, w.fit = true → okD w.toD = true
  | .word s, _ => by cases s <;> simp [Why.toD, okD, okAll]
  | .tie e, _ => by simp [Why.toD, okD, okAll]
  | .cases rows, h => by
    rw [Why.fit, Bool.and_eq_true] at h
    have h1 := okD_whys rows h.2
    have h2 := of_decide_eq_true h.1
    simp only [Why.toD, okD, okAll, h1]
    rw [toDs_map]
    simp
    omega
theorem okD_whys : ∀ rows : List (Nat × Why), Why.fits rows = true → okAll (Why.toDs rows) = true
  | [], _ => by rw [Why.toDs, okAll]
  | (q, w) :: r, h => by
    rw [Why.fits, Bool.and_eq_true] at h
    have h1 := okD_why w h.1
    have h2 := okD_whys r h.2
    simp [Why.toDs, okD, okAll, h1, h2]
end
theorem shaped_NLs (ls : List (List Nat)) : SeqAt.shaped (.list (ls.map NL)) = true := by
  have h1 : PyData.canLayAll0 (ls.map NL) = true := by
    induction ls with
    | nil => simp [PyData.canLayAll0]
    | cons a l ih => simp only [List.map_cons, PyData.canLayAll0, PyData.canLay0, ih, canLay_names, Bool.and_self]
  have h2 : PyData.depthAll (ls.map NL) ≤ 3 := by
    clear h1
    induction ls with
    | nil => simp [PyData.depthAll]
    | cons a l ih =>
      have := depth_names a
      rw [List.map_cons]
      simp only [PyData.depthAll, PyData.depth]
      omega
  show (PyData.canLay0 (.list (ls.map NL)) && decide (PyData.depth (.list (ls.map NL)) ≤ 64)) = true
  rw [Bool.and_eq_true]
  refine ⟨by simp only [PyData.canLay0]; exact h1, decide_eq_true ?_⟩
  simp only [PyData.depth]
  omega
theorem canLay_all : ∀ {xs : List PyData}, (∀ x ∈ xs, PyData.canLay0 x = true) → PyData.canLayAll0 xs = true
  | [], _ => by simp [PyData.canLayAll0]
  | x :: xs, h => by
    rw [PyData.canLayAll0, h x List.mem_cons_self, canLay_all fun y hy => h y (List.mem_cons_of_mem _ hy)]
    rfl
theorem depth_all {k : Nat} : ∀ {xs : List PyData}, (∀ x ∈ xs, PyData.depth x ≤ k) → PyData.depthAll xs ≤ k
  | [], _ => by simp [PyData.depthAll]
  | x :: xs, h => by
    have h1 := h x List.mem_cons_self
    have h2 := depth_all fun y hy => h y (List.mem_cons_of_mem _ hy)
    rw [PyData.depthAll]
    omega
theorem plain_all {xs : List PyData} (h : ∀ x ∈ xs, plainD x = true) : plainAll xs = true := (plainAll_iff xs).mpr h
theorem rowsD_lay (y : Y) : PyData.canLay0 (rowsD y) = true ∧ PyData.depth (rowsD y) ≤ 10 ∧ plainD (rowsD y) = true := by
  have a1 : PyData.canLayAll0 (y.ml.map PyData.int) = true := canLay_all fun x hx => by
    obtain ⟨i, _, rfl⟩ := List.mem_map.mp hx
    simp [PyData.canLay0]
  have a2 : PyData.canLayAll0 (y.ties.map tieD) = true := canLay_all fun x hx => by
    obtain ⟨i, _, rfl⟩ := List.mem_map.mp hx
    simp [PyData.canLay0, PyData.canLayAll0]
  have b1 : PyData.depthAll (y.ml.map PyData.int) ≤ 3 := depth_all fun x hx => by
    obtain ⟨i, _, rfl⟩ := List.mem_map.mp hx
    simp [PyData.depth]
  have b2 : PyData.depthAll (y.ties.map tieD) ≤ 3 := depth_all fun x hx => by
    obtain ⟨i, _, rfl⟩ := List.mem_map.mp hx
    simp [PyData.depth, PyData.depthAll]
  have c1 : plainAll (y.ml.map PyData.int) = true := plain_all fun x hx => by
    obtain ⟨i, _, rfl⟩ := List.mem_map.mp hx
    simp [plainD]
  have c2 : plainAll (y.ties.map tieD) = true := plain_all fun x hx => by
    obtain ⟨i, _, rfl⟩ := List.mem_map.mp hx
    simp [plainD, plainAll]
  refine ⟨?_, ?_, ?_⟩
  · simp only [PyData.canLay0, PyData.canLayAll0, a1, a2, Bool.and_self]
  · simp only [PyData.depth, PyData.depthAll]; omega
  · simp only [plainD, plainAll, c1, c2, Bool.and_self]
theorem shaped_rowsD (y : Y) : SeqAt.shaped (rowsD y) = true := by
  have h := rowsD_lay y
  show (PyData.canLay0 (rowsD y) && decide (PyData.depth (rowsD y) ≤ 64)) = true
  rw [h.1, decide_eq_true (by omega)]
  rfl
theorem eqv_rowsD (y : Y) : PyData.eqv (rowsD y) (rowsD y) = true := (eqv_iff _ _ (rowsD_lay y).2.2 (rowsD_lay y).2.2).mpr rfl
theorem dec_nat (a b : Nat) : decide ((a : Int) = (b : Int)) = decide (a = b) := by
  by_cases z : a = b
  · rw [decide_eq_true z, z]; simp
  · have : ¬ (a : Int) = (b : Int) := by omega
    rw [decide_eq_false z, decide_eq_false this]
theorem any_NL (ls : List (List Nat)) (l : List Nat) : ((ls.map NL).any fun z => PyData.eqv z (NL l)) = decide (l ∈ ls) := by
  induction ls with
  | nil => simp
  | cons a ls ih =>
    rw [List.map_cons, List.any_cons, ih, eqv_names]
    by_cases h : a = l
    · subst h; simp
    · have h2 : ¬ l = a := fun z => h z.symm
      simp [h, h2]

/-! ### all renamings, in order -/
def ltL : List Nat → List Nat → Prop
  | [], _ => False
  | _ :: _, [] => False
  | a :: l, b :: m => a < b ∨ (a = b ∧ ltL l m)
theorem ltL_irr : ∀ l : List Nat, ¬ ltL l l
  | [], h => h
  | a :: l, h => by
    rcases h with h | h
    · omega
    · exact ltL_irr l h.2
theorem ltL_asym : ∀ l m : List Nat, ltL l m → ¬ ltL m l
  | [], _, h, _ => h
  | _ :: _, [], h, _ => h
  | a :: l, b :: m, h, k => by
    rcases h with h | h
    · rcases k with k | k <;> omega
    · rcases k with k | k
      · omega
      · exact ltL_asym l m h.2 k.2
theorem ltL_trans : ∀ l m n : List Nat, ltL l m → ltL m n → ltL l n
  | [], _, _, h, _ => h.elim
  | _ :: _, [], _, h, _ => h.elim
  | _ :: _, _ :: _, [], _, h => h.elim
  | a :: l, b :: m, c :: n, h, k => by
    rcases h with h | h <;> rcases k with k | k
    · exact .inl (by omega)
    · exact .inl (by omega)
    · exact .inl (by omega)
    · exact .inr ⟨by omega, ltL_trans l m n h.2 k.2⟩
theorem ltL_snoc : ∀ {l m : List Nat} (q r : Nat), l.length = m.length → ltL l m → ltL (l ++ [q]) (m ++ [r])
  | [], [], _, _, _, h => h.elim
  | [], _ :: _, _, _, e, _ => by cases e
  | _ :: _, [], _, _, e, _ => by cases e
  | a :: l, b :: m, q, r, e, h => by
    rcases h with h | h
    · exact .inl h
    · exact .inr ⟨h.1, ltL_snoc q r (by simpa using e) h.2⟩
theorem ltL_last : ∀ (l : List Nat) {q r : Nat}, q < r → ltL (l ++ [q]) (l ++ [r])
  | [], _, _, h => .inl h
  | a :: l, _, _, h => .inr ⟨rfl, ltL_last l h⟩
theorem ltL_tri : ∀ {l m : List Nat}, l.length = m.length → ltL l m ∨ l = m ∨ ltL m l
  | [], [], _ => .inr (.inl rfl)
  | [], _ :: _, e => by cases e
  | _ :: _, [], e => by cases e
  | a :: l, b :: m, e => by
    rcases Nat.lt_trichotomy a b with z | z | z
    · exact .inl (.inl z)
    · subst z
      rcases ltL_tri (l := l) (m := m) (by simpa using e) with y | y | y
      · exact .inl (.inr ⟨rfl, y⟩)
      · exact .inr (.inl (by rw [y]))
      · exact .inr (.inr (.inr ⟨rfl, y⟩))
    · exact .inr (.inr (.inl z))
theorem ext_mem {y1 y2 : Y} {p : Nat} {ns l : List Nat} {i : Nat} : l ∈ ext y1 y2 p ns i ↔ ∃ q, q < i ∧ gd y1 y2 p ns q p = true ∧ l = ns ++ [q] := by
  unfold ext
  rw [List.mem_filterMap]
  constructor
  · rintro ⟨q, hq, e⟩
    split at e
    · rename_i hg
      cases e
      exact ⟨q, List.mem_range.mp hq, hg, rfl⟩
    · cases e
  · rintro ⟨q, hq, hg, rfl⟩
    exact ⟨q, List.mem_range.mpr hq, by rw [if_pos hg]⟩
theorem ext_sorted (y1 y2 : Y) (p : Nat) (ns : List Nat) : ∀ i, (ext y1 y2 p ns i).Pairwise ltL
  | 0 => by simp [ext]
  | i + 1 => by
    rw [ext_succ, List.pairwise_append]
    refine ⟨ext_sorted y1 y2 p ns i, by split <;> simp, fun a ha b hb => ?_⟩
    obtain ⟨q, hq, _, rfl⟩ := ext_mem.mp ha
    split at hb
    · have : b = ns ++ [i] := by simpa using hb
      subst this
      exact ltL_last ns hq
    · simp at hb
theorem lev_sorted (y1 y2 : Y) : ∀ p, (lev y1 y2 p).Pairwise ltL
  | 0 => by simp [lev]
  | p + 1 => by
    rw [lev]
    refine pairwise_flatMap (lev_sorted y1 y2 p) (fun a _ => ext_sorted y1 y2 p a y1.n) fun a ha b hb h x hx y hy => ?_
    obtain ⟨q, _, _, rfl⟩ := ext_mem.mp hx
    obtain ⟨r, _, _, rfl⟩ := ext_mem.mp hy
    exact ltL_snoc q r (by rw [(lev_pre ha).1, (lev_pre hb).1]) h
theorem lev_nodup (y1 y2 : Y) (p : Nat) : (lev y1 y2 p).Nodup := (lev_sorted y1 y2 p).imp fun {a b} h z => by
  subst z
  exact ltL_irr a h
/-- a beginning of a renaming -/
structure IsoP (y1 y2 : Y) (p : Nat) (l : List Nat) : Prop where
  len : l.length = p
  nd : l.Nodup
  lt : ∀ x ∈ l, x < y1.n
  m : ∀ i, i < p → y1.m i = y2.m (l.getD i 0)
  k : ∀ i, i < p → ∀ e, e < i → y1.k e i = y2.k (l.getD e 0) (l.getD i 0)
theorem take_lev {y1 y2 : Y} : ∀ {p : Nat} {l : List Nat}, l ∈ lev y1 y2 (p + 1) → l.take p ∈ lev y1 y2 p ∧ ∃ q, q < y1.n ∧ gd y1 y2 p (l.take p) q p = true ∧ l = l.take p ++ [q] := fun {p l} h => by
  obtain ⟨ms, hm, h2⟩ := List.mem_flatMap.mp h
  obtain ⟨q, hq, hg, rfl⟩ := ext_mem.mp h2
  have ln := (lev_pre hm).1
  have e : (ms ++ [q]).take p = ms := by rw [← ln, List.take_left]
  rw [e]
  exact ⟨hm, q, hq, hg, rfl⟩
theorem mem_lev {y1 y2 : Y} : ∀ {p : Nat} {l : List Nat}, l ∈ lev y1 y2 p ↔ IsoP y1 y2 p l
  | 0, l => by
    constructor
    · intro h
      have : l = [] := by simpa [lev] using h
      subst this
      exact ⟨rfl, .nil, by simp, fun i h => by omega, fun i h => by omega⟩
    · intro h
      have : l = [] := List.eq_nil_of_length_eq_zero h.len
      subst this
      simp [lev]
  | p + 1, l => by
    constructor
    · intro h
      have pr := lev_pre h
      exact ⟨pr.1, pr.2.nd, pr.2.lt, fun i hi => (lev_iso h i hi).1, fun i hi => (lev_iso h i hi).2⟩
    · intro h
      have hl : p < l.length := by have := h.len; omega
      have e : l = l.take p ++ [l.getD p 0] := by
        have := List.take_append_drop p l
        rw [List.drop_eq_getElem_cons hl, List.drop_of_length_le (by have := h.len; omega)] at this
        rw [getD_get hl]
        exact this.symm
      have tl : (l.take p).length = p := by rw [List.length_take]; omega
      have tg : ∀ i, i < p → (l.take p).getD i 0 = l.getD i 0 := fun i hi => by
        conv => rhs; rw [e]
        rw [getD_left (by omega)]
      have it : IsoP y1 y2 p (l.take p) := ⟨tl, h.nd.sublist (List.take_sublist _ _), fun x hx => h.lt x (List.mem_of_mem_take hx), fun i hi => by rw [tg i hi]; exact h.m i (by omega), fun i hi e he => by rw [tg i hi, tg e (by omega)]; exact h.k i (by omega) e he⟩
      rw [lev]
      refine List.mem_flatMap.mpr ⟨l.take p, mem_lev.mpr it, ext_mem.mpr ⟨l.getD p 0, h.lt _ (getD_mem hl), ?_, e⟩⟩
      have nin : l.getD p 0 ∉ l.take p := fun z => by
        have nd := h.nd
        rw [e, List.nodup_append] at nd
        exact nd.2.2 _ z _ (by simp) rfl
      unfold gd
      rw [decide_eq_true (h.m p (by omega)), decide_eq_false nin, Bool.not_false, Bool.true_and, Bool.true_and, List.all_eq_true]
      intro e he
      have he := List.mem_range.mp he
      rw [tg e he]
      exact decide_eq_true (h.k p (by omega) e he)
theorem lev_take {y1 y2 : Y} {l : List Nat} : ∀ {t p : Nat}, l ∈ lev y1 y2 (p + t) → l.take p ∈ lev y1 y2 p
  | 0, p, h => by
    rw [List.take_of_length_le (by rw [(lev_pre h).1]; omega)]
    exact h
  | t + 1, p, h => by
    have h1 := (take_lev (p := p + t) h).1
    have h2 := lev_take (t := t) (p := p) h1
    rw [List.take_take, Nat.min_eq_left (by omega)] at h2
    exact h2
theorem desc_pre {y1 y2 : Y} : ∀ {t : Nat} {ns l : List Nat}, l ∈ desc y1 y2 t ns → l.take ns.length = ns
  | 0, ns, l, h => by
    have : l = ns := by simpa [desc] using h
    subst this
    simp
  | t + 1, ns, l, h => by
    rw [desc] at h
    obtain ⟨ms, hm, h⟩ := List.mem_flatMap.mp h
    obtain ⟨q, _, _, rfl⟩ := ext_mem.mp hm
    have := desc_pre h
    have h2 := congrArg (List.take ns.length) this
    rw [List.take_take, List.length_append, Nat.min_eq_left (by omega), List.take_left] at h2
    exact h2
theorem filter_flatMap {α β : Type} (f : α → List β) (g : β → Bool) : ∀ l : List α, (l.flatMap f).filter g = l.flatMap fun a => (f a).filter g
  | [] => rfl
  | a :: l => by rw [List.flatMap_cons, List.flatMap_cons, List.filter_append, filter_flatMap f g l]
theorem flat_one {α β : Type} [DecidableEq α] (f : α → List β) {a : α} : ∀ {l : List α}, l.Nodup → a ∈ l → (l.flatMap fun b => if b = a then f b else []) = f a
  | [], _, h => by simp at h
  | b :: l, nd, h => by
    rw [List.nodup_cons] at nd
    rw [List.flatMap_cons]
    rcases List.mem_cons.mp h with z | z
    · subst z
      rw [if_pos rfl]
      have : (l.flatMap fun b => if b = a then f b else []) = [] := List.flatMap_eq_nil_iff.mpr fun x hx => by
        rw [if_neg (fun e => nd.1 (by rw [← e]; exact hx))]
      rw [this, List.append_nil]
    · rw [if_neg (fun e => nd.1 (by rw [e]; exact z)), List.nil_append]
      exact flat_one f nd.2 z
theorem desc_filter {y1 y2 : Y} {p t : Nat} {ns : List Nat} (h : ns ∈ lev y1 y2 p) : desc y1 y2 t ns = (lev y1 y2 (p + t)).filter fun l => decide (l.take p = ns) := by
  rw [← lev_desc y1 y2 t p, filter_flatMap]
  have e : (lev y1 y2 p).flatMap (fun a => (desc y1 y2 t a).filter fun l => decide (l.take p = ns)) = (lev y1 y2 p).flatMap fun a => if a = ns then desc y1 y2 t a else [] := flat_congr fun a ha => by
    have la := (lev_pre ha).1
    by_cases z : a = ns
    · rw [if_pos z, List.filter_eq_self.mpr fun l hl => ?_]
      subst z
      have := desc_pre hl
      rw [la] at this
      exact decide_eq_true this
    · rw [if_neg z, List.filter_eq_nil_iff.mpr fun l hl => ?_]
      have := desc_pre hl
      rw [la] at this
      rw [decide_eq_true_iff, this]
      exact z
  rw [e, flat_one _ (lev_nodup y1 y2 p) h]
theorem goods_lev {y1 y2 : Y} {given : List Nat} (hb : ∀ x ∈ given, x < y1.n) : ∀ {i : Nat}, i ≤ given.length → (goods y1 y2 given i = true ↔ given.take i ∈ lev y1 y2 i)
  | 0, _ => by simp [goods, lev]
  | i + 1, hi => by
    have ih := goods_lev (y1 := y1) (y2 := y2) hb (i := i) (by omega)
    have tl : (given.take i).length = i := by rw [List.length_take]; omega
    have g : good y1 y2 (given.take i) (given.getD i 0) = gd y1 y2 i (given.take i) (given.getD i 0) i := by
      have := gd_good (y1 := y1) (y2 := y2) (ns := given.take i) (q := given.getD i 0)
      rw [tl] at this
      exact this.symm
    rw [goods_succ, Bool.and_eq_true, ih, g]
    constructor
    · rintro ⟨h1, h2⟩
      rw [lev]
      exact List.mem_flatMap.mpr ⟨_, h1, ext_mem.mpr ⟨_, hb _ (getD_mem (by omega)), h2, (take_snoc (by omega)).symm⟩⟩
    · intro h
      obtain ⟨h1, q, _, h2, e⟩ := take_lev h
      have e1 : (given.take (i + 1)).take i = given.take i := by rw [List.take_take, Nat.min_eq_left (by omega)]
      rw [e1] at h1 h2 e
      refine ⟨h1, ?_⟩
      rw [← take_snoc (show i < given.length by omega)] at e
      have : given.getD i 0 = q := by simpa using e
      rw [this]
      exact h2
/-- first tells the first of all that begin as given -/
theorem first_filter {y1 y2 : Y} {given : List Nat} (hn : y1.n = y2.n) (hl : given.length ≤ y1.n) (hb : ∀ x ∈ given, x < y1.n) : firstM y1 y2 given = ((lev y1 y2 y1.n).filter fun l => decide (l.take given.length = given)).head? := by
  unfold firstM
  rw [if_pos hn]
  have gl := goods_lev (y1 := y1) (y2 := y2) hb (Nat.le_refl _)
  rw [List.take_length] at gl
  by_cases h : goods y1 y2 given given.length = true
  · rw [if_pos h, led_desc, desc_filter (gl.mp h), show given.length + (y1.n - given.length) = y1.n by omega]
  · rw [if_neg h]
    have e : ((lev y1 y2 y1.n).filter fun l => decide (l.take given.length = given)) = [] := List.filter_eq_nil_iff.mpr fun l hl2 z => by
      have z := of_decide_eq_true z
      have := lev_take (y1 := y1) (y2 := y2) (l := l) (p := given.length) (t := y1.n - given.length) (by rw [show given.length + (y1.n - given.length) = y1.n by omega]; exact hl2)
      rw [z] at this
      exact h (gl.mpr this)
    rw [e]
    rfl

/-! ### renamings as a whole; one behind another; turned back -/
structure IsoF (y1 y2 : Y) (l : List Nat) : Prop where
  nm : Nm y1.n l
  m : ∀ i, i < y1.n → y1.m i = y2.m (l.getD i 0)
  k : ∀ e i, e < y1.n → i < y1.n → y1.k e i = y2.k (l.getD e 0) (l.getD i 0)
theorem isoF_iff {y1 y2 : Y} (ok1 : y1.Ok) (ok2 : y2.Ok) {l : List Nat} : l ∈ lev y1 y2 y1.n ↔ IsoF y1 y2 l := by
  rw [mem_lev]
  constructor
  · intro h
    refine ⟨⟨h.len, h.nd, h.lt⟩, h.m, fun e i he hi => ?_⟩
    rcases Nat.lt_trichotomy e i with z | z | z
    · exact h.k i hi e z
    · subst z
      rw [ok1.dg, ok2.dg]
    · rw [ok1.sy, ok2.sy]
      exact h.k e he i z
  · intro h
    exact ⟨h.nm.len, h.nm.nd, h.nm.lt, h.m, fun i hi e he => h.k e i (by omega) hi⟩
/-- one renaming, and then another one -/
def beh (a b : List Nat) : List Nat := a.map fun x => b.getD x 0
theorem beh_len (a b : List Nat) : (beh a b).length = a.length := by simp [beh]
theorem beh_get {a b : List Nat} {i : Nat} (h : i < a.length) : (beh a b).getD i 0 = b.getD (a.getD i 0) 0 := by
  rw [getD_get (by rw [beh_len]; exact h), getD_get h]
  simp [beh]
theorem ext_getD {n : Nat} {a b : List Nat} (ha : a.length = n) (hb : b.length = n) (h : ∀ i, i < n → a.getD i 0 = b.getD i 0) : a = b := by
  apply List.ext_getElem (by omega)
  intro i h1 h2
  have := h i (by omega)
  rw [getD_get h1, getD_get h2] at this
  exact this
theorem nm_of_inj {n : Nat} {l : List Nat} (hl : l.length = n) (lt : ∀ i, i < n → l.getD i 0 < n) (inj : ∀ i j, i < n → j < n → l.getD i 0 = l.getD j 0 → i = j) : Nm n l := by
  refine ⟨hl, ?_, fun x hx => ?_⟩
  · rw [List.nodup_iff_pairwise_ne, List.pairwise_iff_getElem]
    intro i j hi hj hij e
    have := inj i j (by omega) (by omega) (by rw [getD_get hi, getD_get hj]; exact e)
    omega
  · obtain ⟨i, hi, rfl⟩ := List.mem_iff_getElem.mp hx
    have := lt i (by omega)
    rw [getD_get hi] at this
    exact this
theorem Nm.inj {n : Nat} {l : List Nat} (h : Nm n l) {i j : Nat} (hi : i < n) (hj : j < n) (e : l.getD i 0 = l.getD j 0) : i = j := by
  have a := h.idx_get hi
  have b := h.idx_get hj
  rw [e, b] at a
  exact a.symm
theorem beh_nm {n : Nat} {a b : List Nat} (ha : Nm n a) (hb : Nm n b) : Nm n (beh a b) := by
  have hl := ha.len
  refine nm_of_inj (by rw [beh_len, hl]) (fun i hi => ?_) fun i j hi hj e => ?_
  · rw [beh_get (by omega)]
    exact hb.get_lt (ha.get_lt hi)
  · rw [beh_get (by omega), beh_get (by omega)] at e
    exact ha.inj hi hj (hb.inj (ha.get_lt hi) (ha.get_lt hj) e)
/-- turned back -/
def inv (l : List Nat) : List Nat := (List.range l.length).map fun a => l.idxOf a
theorem inv_len (l : List Nat) : (inv l).length = l.length := by simp [inv]
theorem inv_get {l : List Nat} {i : Nat} (h : i < l.length) : (inv l).getD i 0 = l.idxOf i := by
  rw [getD_get (by rw [inv_len]; exact h)]
  simp [inv]
theorem inv_nm {n : Nat} {l : List Nat} (h : Nm n l) : Nm n (inv l) := by
  have hl := h.len
  refine nm_of_inj (by rw [inv_len, hl]) (fun i hi => ?_) fun i j hi hj e => ?_
  · rw [inv_get (by omega)]
    exact h.idx_lt hi
  · rw [inv_get (by omega), inv_get (by omega)] at e
    have a := h.get_idx hi
    have b := h.get_idx hj
    rw [e, b] at a
    exact a.symm
def idn (n : Nat) : List Nat := List.range n
theorem idn_get {n i : Nat} (h : i < n) : (idn n).getD i 0 = i := by
  rw [getD_get (by simpa [idn] using h)]
  simp [idn]
theorem idn_nm (n : Nat) : Nm n (idn n) := ⟨by simp [idn], List.nodup_range, fun x hx => List.mem_range.mp hx⟩
theorem beh_inv {n : Nat} {l : List Nat} (h : Nm n l) : beh l (inv l) = idn n := by
  refine ext_getD (n := n) (by rw [beh_len, h.len]) (by simp [idn]) fun i hi => ?_
  have hl := h.len
  rw [beh_get (by omega), idn_get hi, inv_get (by rw [hl]; exact h.get_lt hi), h.idx_get hi]
theorem inv_beh {n : Nat} {l : List Nat} (h : Nm n l) : beh (inv l) l = idn n := by
  have hl := h.len
  refine ext_getD (n := n) (by rw [beh_len, inv_len, hl]) (by simp [idn]) fun i hi => ?_
  rw [beh_get (by rw [inv_len]; omega), idn_get hi, inv_get (by omega), h.get_idx hi]
theorem beh_assoc {n : Nat} {a b c : List Nat} (ha : Nm n a) (hb : Nm n b) : beh (beh a b) c = beh a (beh b c) := by
  have la := ha.len
  have lb := hb.len
  refine ext_getD (n := n) (by rw [beh_len, beh_len, la]) (by rw [beh_len, la]) fun i hi => ?_
  rw [beh_get (by rw [beh_len]; omega), beh_get (by omega), beh_get (by omega), beh_get (by rw [lb]; exact ha.get_lt hi)]
theorem beh_id {n : Nat} {a : List Nat} (ha : Nm n a) : beh a (idn n) = a := by
  have la := ha.len
  refine ext_getD (n := n) (by rw [beh_len, la]) la fun i hi => ?_
  rw [beh_get (by omega), idn_get (ha.get_lt hi)]
theorem id_beh {n : Nat} {a : List Nat} (ha : a.length = n) : beh (idn n) a = a := by
  refine ext_getD (n := n) (by rw [beh_len]; simp [idn]) ha fun i hi => ?_
  rw [beh_get (by simpa [idn] using hi), idn_get hi]
theorem iso_id (y : Y) : IsoF y y (idn y.n) := ⟨idn_nm _, fun i hi => by rw [idn_get hi], fun e i he hi => by rw [idn_get hi, idn_get he]⟩
theorem iso_beh {y1 y2 y3 : Y} {a b : List Nat} (e12 : y1.n = y2.n) (ha : IsoF y1 y2 a) (hb : IsoF y2 y3 b) : IsoF y1 y3 (beh a b) := by
  have la := ha.nm.len
  have nb : Nm y1.n b := by rw [e12]; exact hb.nm
  refine ⟨beh_nm ha.nm nb, fun i hi => ?_, fun e i he hi => ?_⟩
  · rw [beh_get (by omega), ha.m i hi, hb.m _ (by rw [← e12]; exact ha.nm.get_lt hi)]
  · rw [beh_get (by omega), beh_get (by omega), ha.k e i he hi, hb.k _ _ (by rw [← e12]; exact ha.nm.get_lt he) (by rw [← e12]; exact ha.nm.get_lt hi)]
theorem iso_inv {y1 y2 : Y} {a : List Nat} (e12 : y1.n = y2.n) (ha : IsoF y1 y2 a) : IsoF y2 y1 (inv a) := by
  have la := ha.nm.len
  refine ⟨by rw [← e12]; exact inv_nm ha.nm, fun i hi => ?_, fun e i he hi => ?_⟩
  · have hi' : i < y1.n := by omega
    rw [inv_get (by omega), ha.m _ (ha.nm.idx_lt hi'), ha.nm.get_idx hi']
  · have hi' : i < y1.n := by omega
    have he' : e < y1.n := by omega
    rw [inv_get (by omega), inv_get (by omega), ha.k _ _ (ha.nm.idx_lt he') (ha.nm.idx_lt hi'), ha.nm.get_idx hi', ha.nm.get_idx he']
/-- a renaming makes the renamed yard -/
theorem iso_ren {y : Y} {ns : List Nat} (h : Nm y.n ns) : IsoF y (ren y ns) ns := ⟨h, fun i hi => by show _ = y.m _; rw [h.idx_get hi], fun e i he hi => by show _ = y.k _ _; rw [h.idx_get hi, h.idx_get he]⟩
theorem iso_of_ren {y y2 : Y} {ns l : List Nat} (hn : Nm y.n ns) (h : IsoF (ren y ns) y2 l) : IsoF y y2 (beh ns l) := iso_beh (y2 := ren y ns) rfl (iso_ren hn) h
theorem iso_to_ren {y y2 : Y} {ns l : List Nat} (hn : Nm y.n ns) (h : IsoF y y2 l) : IsoF (ren y ns) y2 (beh (inv ns) l) := iso_beh (y2 := y) (show (ren y ns).n = y.n from rfl) (iso_inv (y2 := ren y ns) rfl (iso_ren hn)) h
/-! ### ties by other names -/
theorem find_map {α β : Type} (f : α → β) (g : β → Bool) : ∀ l : List α, (l.map f).find? g = (l.find? fun a => g (f a)).map f
  | [] => rfl
  | a :: l => by
    rw [List.map_cons, List.find?_cons, List.find?_cons]
    cases g (f a)
    · exact find_map f g l
    · rfl
def nmT (ns : List Nat) (t : Tie) : Tie := (ns.getD t.1 0, ns.getD t.2.1 0, t.2.2)
theorem find_congr {α : Type} {f g : α → Bool} : ∀ {l : List α}, (∀ x ∈ l, f x = g x) → l.find? f = l.find? g
  | [], _ => rfl
  | a :: l, h => by
    rw [List.find?_cons, List.find?_cons, h a List.mem_cons_self, find_congr fun x hx => h x (List.mem_cons_of_mem _ hx)]
theorem kmt_nm {n : Nat} {ns : List Nat} (hn : Nm n ns) {t : Tie} (h1 : t.1 < n) (h2 : t.2.1 < n) {a b : Nat} (ha : a < n) (hb : b < n) : kmt (nmT ns t) (ns.getD a 0) (ns.getD b 0) = kmt t a b := by
  have e : ∀ x y, x < n → y < n → (ns.getD x 0 == ns.getD y 0) = (x == y) := fun x y hx hy => by
    by_cases z : x = y
    · subst z; simp
    · have : ns.getD x 0 ≠ ns.getD y 0 := fun w => z (hn.inj hx hy w)
      rw [beq_eq_false_iff_ne.mpr this, beq_eq_false_iff_ne.mpr z]
  unfold kmt nmT
  show (ns.getD t.1 0 == ns.getD a 0 && ns.getD t.2.1 0 == ns.getD b 0 || ns.getD t.1 0 == ns.getD b 0 && ns.getD t.2.1 0 == ns.getD a 0) = _
  rw [e _ _ h1 ha, e _ _ h2 hb, e _ _ h1 hb, e _ _ h2 ha]
theorem nmT_k {y : Y} (ok : y.Ok) {ns : List Nat} (hn : Nm y.n ns) {a b : Nat} (ha : a < y.n) (hb : b < y.n) : kOf (y.ties.map (nmT ns)) a b = (ren y ns).k a b := by
  show _ = y.k (ns.idxOf a) (ns.idxOf b)
  have ia := hn.idx_lt ha
  have ib := hn.idx_lt hb
  rw [← kOf_ties ok ia ib]
  unfold kOf
  rw [find_map]
  have e : y.ties.find? (fun t => kmt (nmT ns t) a b) = y.ties.find? fun t => kmt t (ns.idxOf a) (ns.idxOf b) := find_congr fun t ht => by
    have := ok.sties.bd t ht
    have := kmt_nm hn (t := t) (by omega) (by omega) ia ib
    rw [hn.get_idx ha, hn.get_idx hb] at this
    exact this
  rw [e]
  cases y.ties.find? fun t => kmt t (ns.idxOf a) (ns.idxOf b) <;> rfl
theorem nmT_ok {y : Y} (ok : y.Ok) {ns : List Nat} (hn : Nm y.n ns) : TiesOk y.n (y.ties.map (nmT ns)) where
  bd := fun t ht => by
    obtain ⟨u, hu, rfl⟩ := List.mem_map.mp ht
    have b := ok.sties.bd u hu
    refine ⟨hn.get_lt (by omega), hn.get_lt (by omega), fun z => ?_, b.2.2.1, b.2.2.2⟩
    have := hn.inj (by omega) (by omega) z
    omega
  pw := by
    rw [List.pairwise_map]
    refine List.Pairwise.imp_of_mem (fun {t u} ht hu h => ?_) ok.sties.pw
    have b := ok.sties.bd t ht
    have c := ok.sties.bd u hu
    show kmt (nmT ns t) (ns.getD u.1 0) (ns.getD u.2.1 0) = false
    rw [kmt_nm hn (by omega) (by omega) (by omega) (by omega)]
    exact h
  sz := by
    rw [List.length_map]
    exact ok.tok.sz
theorem nmT_kl {y : Y} (ok : y.Ok) {ns : List Nat} (hn : Nm y.n ns) : matL y.n (kOf (y.ties.map (nmT ns))) = (ren y ns).kl := by
  unfold matL
  apply List.map_congr_left
  intro i hi
  apply List.map_congr_left
  intro j hj
  exact nmT_k ok hn (by simpa using hi) (by simpa using hj)
/-! ### a place called 0, those ahead of it one more -/
def mv (k o : Nat) : Nat := if o = k then 0 else if o < k then o + 1 else o
def nmv (n k : Nat) : List Nat := (List.range n).map (mv k)
theorem nmv_get {n k i : Nat} (h : i < n) : (nmv n k).getD i 0 = mv k i := by
  rw [getD_get (by simpa [nmv] using h)]
  simp [nmv]
theorem nmv_nm {n k : Nat} (hk : k < n) : Nm n (nmv n k) := by
  refine nm_of_inj (by simp [nmv]) (fun i hi => ?_) fun i j hi hj e => ?_
  · rw [nmv_get hi]
    unfold mv
    by_cases h1 : i = k
    · rw [if_pos h1]; omega
    · rw [if_neg h1]
      by_cases h2 : i < k
      · rw [if_pos h2]; omega
      · rw [if_neg h2]; exact hi
  · rw [nmv_get hi, nmv_get hj] at e
    have key : ∀ x, (x = k ∧ mv k x = 0) ∨ (x < k ∧ mv k x = x + 1) ∨ (k < x ∧ mv k x = x) := fun x => by
      unfold mv
      rcases Nat.lt_trichotomy x k with z | z | z
      · exact .inr (.inl ⟨z, by rw [if_neg (by omega), if_pos z]⟩)
      · exact .inl ⟨z, by rw [if_pos z]⟩
      · exact .inr (.inr ⟨z, by rw [if_neg (by omega), if_neg (by omega)]⟩)
    have a := key i
    have b := key j
    omega
/-- what comes of o :: t -/
def ins (k : Nat) (l : List Nat) : List Nat := (l.drop 1).take k ++ [l.getD 0 0] ++ l.drop (k + 1)
theorem ins_beh {n k : Nat} {l : List Nat} (hl : l.length = n) (hk : k < n) : ins k l = beh (nmv n k) l := by
  have lt : ((l.drop 1).take k).length = k := by rw [List.length_take, List.length_drop]; omega
  have li : (ins k l).length = n := by unfold ins; simp; omega
  refine ext_getD (n := n) li (by rw [beh_len]; simp [nmv]) fun i hi => ?_
  rw [beh_get (by simpa [nmv] using hi), nmv_get hi]
  unfold mv ins
  rcases Nat.lt_trichotomy i k with z | z | z
  · rw [if_neg (by omega), if_pos z, List.append_assoc]
    simp only [List.getD]
    rw [List.getElem?_append_left (by omega), List.getElem?_take, if_pos z, List.getElem?_drop, Nat.add_comm]
  · subst z
    rw [if_pos rfl]
    simp only [List.getD]
    rw [List.getElem?_append_left (by rw [List.length_append, lt]; simp), List.getElem?_append_right (by omega), lt]
    simp
  · rw [if_neg (by omega), if_neg (by omega)]
    simp only [List.getD]
    rw [List.getElem?_append_right (by rw [List.length_append, lt]; simp; omega), List.length_append, lt, List.length_singleton, List.getElem?_drop, show k + 1 + (i - (k + 1)) = i by omega]
theorem ltL_pre : ∀ (p : List Nat) {l m : List Nat}, ltL (p ++ l) (p ++ m) ↔ ltL l m
  | [], _, _ => Iff.rfl
  | a :: p, l, m => by
    constructor
    · intro h
      rcases h with h | h
      · omega
      · exact (ltL_pre p).mp h.2
    · exact fun h => .inr ⟨rfl, (ltL_pre p).mpr h⟩
theorem ltL_ins {o : Nat} : ∀ (k : Nat) {l m : List Nat}, l.length = m.length → (ltL (l.take k ++ o :: l.drop k) (m.take k ++ o :: m.drop k) ↔ ltL l m)
  | 0, l, m, _ => by
    simp only [List.take_zero, List.nil_append, List.drop_zero]
    exact ltL_pre [o]
  | k + 1, [], [], _ => by
    simp only [List.take_nil, List.nil_append, List.drop_nil]
    exact ltL_pre [o]
  | k + 1, [], _ :: _, e => by cases e
  | k + 1, _ :: _, [], e => by cases e
  | k + 1, a :: l, b :: m, e => by
    simp only [List.take_succ_cons, List.drop_succ_cons, List.cons_append]
    constructor
    · intro h
      rcases h with h | h
      · exact .inl h
      · exact .inr ⟨h.1, (ltL_ins k (by simpa using e)).mp h.2⟩
    · intro h
      rcases h with h | h
      · exact .inl h
      · exact .inr ⟨h.1, (ltL_ins k (by simpa using e)).mpr h.2⟩
theorem ins_cons (k o : Nat) (t : List Nat) : ins k (o :: t) = t.take k ++ o :: t.drop k := by simp [ins]
/-- the turns that lead k to o, by the yard with k ahead -/
theorem led_turns {y : Y} (ok : y.Ok) {k o : Nat} (hk : k < y.n) : ((lev (ren y (nmv y.n k)) y y.n).filter fun l => decide (l.take 1 = [o])).map (ins k) = (lev y y y.n).filter fun l => decide (l.getD k 0 = o) := by
  have nk := nmv_nm hk
  have okr := ren_ok ok nk
  have hd : ∀ l ∈ lev (ren y (nmv y.n k)) y y.n, (l.take 1 = [o] ↔ ∃ t, l = o :: t) := fun l hl => by
    have := (lev_pre hl).1
    cases l with
    | nil => simp at this; omega
    | cons a t => simp
  refine sorted_ext ltL_irr ltL_asym ?_ ((lev_sorted y y y.n).filter _) fun x => ?_
  · rw [List.pairwise_map]
    refine List.Pairwise.imp_of_mem (fun {a b} ha hb r => ?_) ((lev_sorted (ren y (nmv y.n k)) y y.n).filter _)
    rw [List.mem_filter, decide_eq_true_iff] at ha hb
    obtain ⟨t, rfl⟩ := (hd a ha.1).mp ha.2
    obtain ⟨u, rfl⟩ := (hd b hb.1).mp hb.2
    have l1 := (lev_pre ha.1).1
    have l2 := (lev_pre hb.1).1
    rw [ins_cons, ins_cons, ltL_ins k (by simp at l1 l2; omega)]
    exact (ltL_pre [o]).mp r
  · rw [List.mem_map, List.mem_filter, decide_eq_true_iff, isoF_iff ok ok]
    constructor
    · rintro ⟨l, hl, rfl⟩
      rw [List.mem_filter, decide_eq_true_iff] at hl
      obtain ⟨t, rfl⟩ := (hd l hl.1).mp hl.2
      have iso := (isoF_iff okr ok).mp hl.1
      have ll : (o :: t).length = y.n := iso.nm.len
      rw [ins_beh ll hk]
      refine ⟨iso_of_ren nk iso, ?_⟩
      rw [beh_get (by rw [nk.len]; exact hk), nmv_get hk]
      simp [mv]
    · rintro ⟨iso, e⟩
      have i2 := iso_to_ren nk iso
      have mm : beh (inv (nmv y.n k)) x ∈ lev (ren y (nmv y.n k)) y y.n := (isoF_iff okr ok).mpr i2
      have nl := nk.len
      have il : (inv (nmv y.n k)).length = y.n := by rw [inv_len, nl]
      have e0 : (beh (inv (nmv y.n k)) x).getD 0 0 = o := by
        rw [beh_get (by omega), inv_get (by omega)]
        have := nk.idx_get hk
        rw [nmv_get hk, show mv k k = 0 by simp [mv]] at this
        rw [this, e]
      refine ⟨beh (inv (nmv y.n k)) x, List.mem_filter.mpr ⟨mm, decide_eq_true ?_⟩, ?_⟩
      · have ll := (lev_pre mm).1
        have h1 := ok.n1
        cases hb : beh (inv (nmv y.n k)) x with
        | nil => rw [hb] at ll; simp at ll; omega
        | cons a t =>
          rw [hb] at e0
          have : a = o := by simpa using e0
          rw [this]
          rfl
      · rw [ins_beh (n := y.n) (by rw [beh_len, il]) hk, ← beh_assoc nk (inv_nm nk), beh_inv nk, id_beh iso.nm.len]
def leadW (y : Y) (k o : Nat) : Option (List Nat) := ((lev y y y.n).filter fun l => decide (l.getD k 0 = o)).head?
theorem lead_first {y : Y} (ok : y.Ok) {k o : Nat} (hk : k < y.n) (ho : o < y.n) : (firstM (ren y (nmv y.n k)) y [o]).map (ins k) = leadW y k o := by
  have h := first_filter (y1 := ren y (nmv y.n k)) (y2 := y) (given := [o]) rfl (by show 1 ≤ y.n; omega) (fun x hx => by
    have : x = o := by simpa using hx
    rw [this]; exact ho)
  rw [h]
  unfold leadW
  rw [← led_turns ok hk, List.head?_map]
  rfl

/-! ### a place that there is; a place called 0 -/
def spNeed : Spc := fun as Q => ∃ (y : Y) (p : Nat), as = [yA y, .d (nI p)] ∧ p < y.n ∧ Q (.d .none)
theorem m_need_place (T : Txt K mg C) : CalM P w K mg base C "need_place" 2 spNeed := by
  have m_many := m_many (P := P) (w := w) (base := base) T
  refine calM_of T.d_Yard_need_place T.cY sc_Yard_need_place (fun as Q h => by obtain ⟨_, _, rfl, _⟩ := h; rfl) fun f cdv A0 outer s H E hr G F as Q hs => ?_
  obtain ⟨y, p, rfl, hp, hQ⟩ := hs
  refine ⟨_, _, (pss_oneA (ps_ifA (pt_notA (pt_chain2 c_le c_lt pd_int (pd_var 1) (pd_meth0 m_many hr (by omega) (pd_var 0)))) (pss_oneA ps_neverA) pss_nilA)), ?_⟩
  walk_at "wp"
  refine ⟨fun h => ⟨y, rfl, ?_⟩, fun h => absurd (of_decide_eq_false h) (by omega)⟩
  walk_at "wp"
  refine ⟨fun h => absurd h (by rw [decide_eq_true (show (p : Int) < (y.n : Int) by omega)]; exact Bool.false_ne_true), fun _ => hQ⟩
theorem mv_list (n k : Nat) : ((List.range n).map fun o => nI (o + if o < k then 1 else 0)).set k (.int 0) = (nmv n k).map nI := by
  rw [set_range]
  unfold nmv
  rw [List.map_map]
  apply List.map_congr_left
  intro o _
  show (if o = k then PyData.int 0 else nI (o + if o < k then 1 else 0)) = nI (mv k o)
  unfold mv
  by_cases h1 : o = k
  · rw [if_pos h1, if_pos h1]; rfl
  · rw [if_neg h1, if_neg h1]
    by_cases h2 : o < k
    · rw [if_pos h2, if_pos h2]
    · rw [if_neg h2, if_neg h2, Nat.add_zero]
theorem mv_snoc (i k : Nat) : ((List.range i).map fun o => nI (o + if o < k then 1 else 0)) ++ [.int ((i : Int) + if decide ((i : Int) < (k : Int)) = true then (1 : Int) else 0)] = (List.range (i + 1)).map fun o => nI (o + if o < k then 1 else 0) := by
  rw [List.range_succ, List.map_append]
  congr 2
  by_cases h : i < k
  · show PyData.int _ = nI (i + if i < k then 1 else 0)
    rw [if_pos (decide_eq_true (show (i : Int) < (k : Int) by omega)), if_pos h]; rfl
  · show PyData.int _ = nI (i + if i < k then 1 else 0)
    rw [if_neg (by rw [decide_eq_true_iff]; omega), if_neg h]; simp
def spMoved : Spc := fun as Q => ∃ (y : Y) (k : Nat), as = [yA y, .d (nI k)] ∧ y.Ok ∧ k < y.n ∧ Q (yA (ren y (nmv y.n k)))
theorem c_moved_ahead (T : Txt K mg C) (cI : CalI P w K mg base C 2 spYd) : Cal P w K mg base C "moved_ahead" 4 spMoved := by
  have m_many := m_many (P := P) (w := w) (base := base) T
  have m_ties := m_ties (P := P) (w := w) (base := base) T m_many
  refine cal_of T.d_moved_ahead sc_moved_ahead (fun as Q h => by obtain ⟨_, _, rfl, _⟩ := h; rfl) fun f cdv A0 outer s H E hr G F as Q hs => ?_
  obtain ⟨y, k, rfl, ok, hk, hQ⟩ := hs
  refine ⟨_, _, (pss_consA (ps_setA (i := 3) sc_moved_ahead.nd (pd_lc [("other", 2)] sc_moved_ahead.nd (pi_range1A T.range (pda_cons (pd_meth0 m_many hr (by omega) (pd_var 0)) pda_nil)) (blkOk_by (N := n_moved_ahead) (sc := defScope s_moved_ahead) (by decide +kernel)) (fun _ _ _ _ _ => (pg_nameA 2 sc_moved_ahead.nd)) (fun _ _ _ _ _ => pts_nilA) (fun _ _ _ _ _ => (pd_add (K := K) (pd_var 2) (pd_toint T.int (pda_cons (pd_lt (pd_var 2) (pd_var 1)) pda_nil)))) (gw_name (by decide))))
  (pss_consA (ps_putA (pd_var 3) (pd_var 1) pd_int)
  (pss_consA (ps_fz 3 (ps_setLcA (i := 4) [("other", 2)] sc_moved_ahead.nd (pi_listA (K := K) (pd_var 3)) (blkOk_by (N := n_moved_ahead) (sc := defScope s_moved_ahead) (by decide +kernel)) (fun _ _ _ _ _ => (pg_nameA 2 sc_moved_ahead.nd)) (fun _ _ _ _ _ => pts_nilA) (fun _ _ _ _ _ => pd_int) (gw_name (by decide)) (sw_true rfl rfl rfl (by decide +kernel))))
  (pss_consA (ps_forA (pi_range1A T.range (pda_cons (pd_meth0 m_many hr (by omega) (pd_var 0)) pda_nil)) (pg_nameA 2 sc_moved_ahead.nd) (pss_oneA (ps_putA (pd_var 4) (pd_ix (K := K) (pd_var 3) (pd_var 2)) (pd_ix (K := K) (pd_marked (K := K) T.cY T.n_marked (pd_var 0)) (pd_var 2)))) PassesOwn.never)
  (pss_oneA (ps_fz 4 (ps_retA (pd_make cI hr (by omega) (pda_cons (pd_var 4) (pda_cons (pd_lc [("one", 5), ("other", 2), ("kind", 6)] sc_moved_ahead.nd (pi_listA (K := K) (pd_meth0 m_ties hr (by omega) (pd_var 0))) (blkOk_by (N := n_moved_ahead) (sc := defScope s_moved_ahead) (by decide +kernel)) (fun _ _ _ _ _ => (pg_tupA (K := K) (n := 3) (pgs_consA (pg_nameA 5 sc_moved_ahead.nd) (pgs_consA (pg_nameA 2 sc_moved_ahead.nd) (pgs_consA (pg_nameA 6 sc_moved_ahead.nd) pgs_nilA))))) (fun _ _ _ _ _ => pts_nilA) (fun _ _ _ _ _ => (pd_tup (pda_cons (pd_ix (K := K) (pd_var 3) (pd_var 5)) (pda_cons (pd_ix (K := K) (pd_var 3) (pd_var 2)) (pda_cons (pd_var 6) pda_nil))))) (gw_tup (gw_cons (gw_name (by decide)) (gw_cons (gw_name (by decide)) (gw_cons (gw_name (by decide)) gw_nil mono_name mono_nil) mono_name (mono_cons mono_name mono_nil)) mono_name (mono_cons mono_name (mono_cons mono_name mono_nil))))) pda_nil)))))))))), ?_⟩
  have h7 := ok.n7
  have hn := nmv_nm hk
  have hl := hn.len
  walk_at "wp"
  refine ⟨y, rfl, ?_⟩
  walk_at "wp"
  refine ⟨by omega, by omega, fun i acc => acc = (List.range i).map fun o => nI (o + if o < k then 1 else 0), rfl, fun i d acc hd hI => ⟨fun _ => ?_, fun z => (by cases z)⟩, ?_⟩
  · obtain ⟨hi, rfl⟩ := rgD0_get hd
    subst hI
    walk_at "wp"
    exact ⟨sz_lt (by omega), mv_snoc i k⟩
  rintro acc rfl
  refine ⟨k, ixN_nat (by rw [List.length_map, List.length_range]; exact hk), ?_⟩
  rw [mv_list]
  walk_at "wp"
  refine ⟨fun i acc => acc = ((List.range i).map fun _ => (0 : Int)).map PyData.int, rfl, fun i d acc hd hI => ⟨fun _ => ?_, fun z => (by cases z)⟩, ?_⟩
  · subst hI
    have hi : i < y.n := by
      have := (List.getElem?_eq_some_iff.mp hd).1
      rw [List.length_map, hl] at this
      exact this
    refine ⟨sz_lt (by first | omega | (simp; omega)), ?_⟩
    show _ = ((List.range (i + 1)).map fun _ => (0 : Int)).map PyData.int
    rw [List.range_succ, List.map_append, List.map_append]
    rfl
  rintro acc rfl
  rw [hl]
  refine ⟨y, rfl, ?_⟩
  walk_at "wp"
  refine ⟨by omega, by omega, fun i ρ => ∃ a, ρ = [yA y, .d (nI k), a, .d (NL (nmv y.n k)), .own (((List.range y.n).map (renMs y (nmv y.n k) i)).map PyData.int), .un, .un], ⟨.un, ?_⟩, fun i d ρ hd hI => ?_, fun ρ hI => ?_⟩
  · have : (fun _ : Nat => (0 : Int)) = renMs y (nmv y.n k) 0 := by funext a; unfold renMs; rw [if_neg (Nat.not_lt_zero _)]
    rw [this]
  · obtain ⟨hi, rfl⟩ := rgD0_get hd
    obtain ⟨a, rfl⟩ := hI
    walk_at "wp"
    refine ⟨_, at_marked y hi, ?_⟩
    walk_at "wp"
    refine ⟨_, at_names (by omega), ?_⟩
    walk_at "wp"
    refine ⟨(nmv y.n k).getD i 0, ixN_nat (hn.get_lt hi), .d (nI i), ?_⟩
    rw [renMs_step hn hi]
  obtain ⟨a, rfl⟩ := hI
  rw [renMs_end hn]
  walk_at "wp"
  have tl := ties_len y
  have t49 : y.n * y.n ≤ 7 * 7 := Nat.mul_le_mul h7 h7
  refine ⟨y, rfl, h7, ?_⟩
  walk_at "wp"
  refine ⟨fun i acc => acc = ((y.ties.take i).map (nmT (nmv y.n k))).map tieD, rfl, fun i d acc hd hI => ?_, ?_⟩
  · obtain ⟨t, et, rfl⟩ := ties_get hd
    have hi : i < y.ties.length := (List.getElem?_eq_some_iff.mp et).1
    obtain ⟨m1, m2, m3, m4, m5⟩ := mem_tiesOf.mp (List.mem_of_getElem? et)
    subst hI
    walk_at "wp"
    refine ⟨trivial, fun _ => ⟨_, at_names (i := t.1) (by omega), ?_⟩, fun z => (by cases z)⟩
    walk_at "wp"
    refine ⟨_, at_names (i := t.2.1) (by omega), ?_⟩
    walk_at "wp"
    refine ⟨by decide, sz_lt (by rw [List.length_take]; omega), ?_⟩
    rw [List.take_succ, et]
    simp only [List.map_append, Option.toList]
    rfl
  rintro acc rfl
  rw [List.take_length]
  have okr := ren_ok ok hn
  refine ⟨y.n, (ren y (nmv y.n k)).m, y.ties.map (nmT (nmv y.n k)), rfl, ok.n1, h7, okr.m0, nmT_ok ok hn, ?_⟩
  rw [nmT_kl ok hn]
  walk_at "wp"
  exact hQ
/-! ### led or not -/
def whyLead (y : Y) (k o : Nat) : PyData := match clashW (ren y (nmv y.n k)) y [] 0 o with
  | none => casesD (ren y (nmv y.n k)) y (y.n - 1) [o]
  | some w => whyD (some w)
def leadD (y : Y) (k o : Nat) : PyData := match leadW y k o with
  | some l => .tuple [.str "turn", NL l]
  | none => .tuple [.str "apart", whyLead y k o]
theorem cut_mid {α : Type} (xs : List α) {a b : Nat} (h : a ≤ b) (hb : b ≤ xs.length) : cutD xs (some (a : Int)) (some (b : Int)) = (xs.drop a).take (b - a) := by
  unfold cutD
  rw [HT.sIx_nat, HT.sIx_nat, Nat.min_eq_left hb, Nat.min_eq_left (Nat.le_trans h hb)]
theorem first_given {y1 y2 : Y} {o : Nat} {l : List Nat} (hn : y1.n = y2.n) (h1 : 1 ≤ y1.n) (ho : o < y1.n) (h : firstM y1 y2 [o] = some l) : l ∈ lev y1 y2 y1.n ∧ l.getD 0 0 = o := by
  rw [first_filter (given := [o]) hn h1 (fun x hx => by
    have : x = o := by simpa using hx
    rw [this]; exact ho)] at h
  have hm := List.mem_of_mem_head? h
  rw [List.mem_filter, decide_eq_true_iff] at hm
  refine ⟨hm.1, ?_⟩
  have ll := (lev_pre hm.1).1
  cases l with
  | nil => simp at ll; omega
  | cons a t =>
    have : a = o := by simpa using hm.2
    rw [this]
    rfl
theorem names_cut {l : List Nat} {k o n : Nat} (ll : l.length = n) (hk : k < n) (h0 : l.getD 0 0 = o) : cutD (l.map nI) (some 1) (some ((k : Int) + 1)) ++ [nI o] ++ cutD (l.map nI) (some ((k : Int) + 1)) none = (ins k l).map nI := by
  rw [show (1 : Int) = ((1 : Nat) : Int) from rfl, show ((k : Int) + ((1 : Nat) : Int)) = ((k + 1 : Nat) : Int) by omega, cut_mid _ (by omega) (by rw [List.length_map]; omega), cut_from]
  unfold ins
  rw [h0, List.map_append, List.map_append, List.map_take, List.map_drop, List.map_drop]
  rfl
theorem one_mem {n o x : Nat} (ho : o < n) (hx : x ∈ [o]) : x < n := by
  have : x = o := by simpa using hx
  omega
def spLead : Spc := fun as Q => ∃ (y : Y) (k o : Nat), as = [yA y, .d (nI k), .d (nI o)] ∧ y.Ok ∧ k < y.n ∧ o < y.n ∧ Q (.d (leadD y k o))
theorem c_lead (T : Txt K mg C) (cI : CalI P w K mg base C 2 spYd) : Cal P w K mg base C "lead" 12 spLead := by
  have m_need_place := m_need_place (P := P) (w := w) (base := base) T
  have c_moved_ahead := c_moved_ahead (P := P) (w := w) (base := base) T cI
  have c_first := c_first (P := P) (w := w) (base := base) T
  have c_clash := c_clash (P := P) (w := w) (base := base) T
  have c_cases := c_cases (P := P) (w := w) (base := base) T 8
  refine cal_of T.d_lead sc_lead (fun as Q h => by obtain ⟨_, _, _, rfl, _⟩ := h; rfl) fun f cdv A0 outer s H E hr G F as Q hs => ?_
  obtain ⟨y, k, o, rfl, ok, hk, ho, hQ⟩ := hs
  refine ⟨_, _, (pss_consA (ps_exprA (pd_meth1 m_need_place hr (by omega) (pd_var 0) (pda_cons (pd_var 1) pda_nil)))
  (pss_consA (ps_exprA (pd_meth1 m_need_place hr (by omega) (pd_var 0) (pda_cons (pd_var 2) pda_nil)))
  (pss_consA (ps_setA (i := 3) sc_lead.nd (pd_call c_moved_ahead hr (by omega) (pda_cons (pd_var 0) (pda_cons (pd_var 1) pda_nil))))
  (pss_consA (ps_setA (i := 4) sc_lead.nd (pd_call c_first hr (by omega) (pda_cons (pd_var 3) (pda_cons (pd_var 0) (pda_cons (pd_lst (pda_cons (pd_var 2) pda_nil)) pda_nil)))))
  (pss_consA (ps_ifA (pt_isnot (pd_var 4) pd_non) (pss_oneA (ps_retA (pd_tup (pda_cons pd_str (pda_cons (pd_add (K := K) (pd_add (K := K) (pd_sl (K := K) (pd_var 4) (po_someA pd_int) (po_someA (pd_add (K := K) (pd_var 1) pd_int))) (pd_lst (pda_cons (pd_var 2) pda_nil))) (pd_sl (K := K) (pd_var 4) (po_someA (pd_add (K := K) (pd_var 1) pd_int)) po_noneA)) pda_nil))))) pss_nilA)
  (pss_consA (ps_setA (i := 5) sc_lead.nd (pd_call c_clash hr (by omega) (pda_cons (pd_var 3) (pda_cons (pd_var 0) (pda_cons (pd_lst pda_nil) (pda_cons pd_int (pda_cons (pd_var 2) pda_nil)))))))
  (pss_consA (ps_ifA (pt_is (pd_var 5) pd_non) (pss_oneA (ps_setA (i := 5) sc_lead.nd (pd_call c_cases hr (by omega) (pda_cons (pd_var 3) (pda_cons (pd_var 0) (pda_cons (pd_lst (pda_cons (pd_var 2) pda_nil)) pda_nil)))))) pss_nilA)
  (pss_oneA (ps_retA (pd_tup (pda_cons pd_str (pda_cons (pd_var 5) pda_nil)))))))))))), ?_⟩
  have h7 := ok.n7
  have n1 := ok.n1
  have lf := lead_first ok hk ho
  walk_at "wp"
  refine ⟨y, k, rfl, hk, ?_⟩
  walk_at "wp"
  refine ⟨y, o, rfl, ho, ?_⟩
  walk_at "wp"
  refine ⟨y, k, rfl, ok, hk, ?_⟩
  walk_at "wp"
  refine ⟨by decide, ren y (nmv y.n k), y, [o], rfl, h7, by show 1 ≤ y.n; omega, fun x hx => one_mem ho hx, ?_⟩
  unfold leadD at hQ
  rw [← lf] at hQ
  cases e : firstM (ren y (nmv y.n k)) y [o] with
  | some l =>
    rw [e] at hQ
    obtain ⟨hm, h0⟩ := first_given (y1 := ren y (nmv y.n k)) (y2 := y) rfl n1 ho e
    have ll : l.length = y.n := (lev_pre hm).1
    show frK (.d (NL l)) _
    walk_at "wx"
    rw [names_cut ll hk h0]
    refine ⟨by decide, sz_of (by simp [cutD]; omega), sz_of (by simp [cutD]; omega), by decide, hQ⟩
  | none =>
    rw [e] at hQ
    show frK (.d .none) _
    walk_at "wx"
    have hQ : Q (.d (.tuple [.str "apart", whyLead y k o])) := hQ
    unfold whyLead at hQ
    refine ⟨by decide, ren y (nmv y.n k), y, [], 0, o, rfl, by show 0 < y.n; omega, ho, h7, Nat.zero_le _, by simp, ?_⟩
    cases hc : clashW (ren y (nmv y.n k)) y [] 0 o with
    | some w =>
      rw [hc] at hQ
      have hQ : Q (.d (.tuple [.str "apart", whyD (some w)])) := hQ
      cases w <;> unfold whyD at hQ ⊢ <;> walk_at "wx" <;> exact ⟨by decide, hQ⟩
    | none =>
      rw [hc] at hQ
      show frK (.d .none) _
      walk_at "wx"
      refine ⟨by decide, ren y (nmv y.n k), y, [o], rfl, rfl, h7, ⟨by simp, fun x hx => one_mem ho hx, n1⟩, by show y.n < 1 + 8; omega, ?_⟩
      walk_at "wx"
      exact ⟨by decide, hQ⟩

/-! ### kin -/
def rel (y : Y) (p q : Nat) : Bool := (lev y y y.n).any fun t => decide (t.getD p 0 = q)
theorem rel_iff {y : Y} {p q : Nat} : rel y p q = true ↔ ∃ t ∈ lev y y y.n, t.getD p 0 = q := by
  unfold rel
  rw [List.any_eq_true]
  constructor
  · rintro ⟨t, h1, h2⟩
    exact ⟨t, h1, of_decide_eq_true h2⟩
  · rintro ⟨t, h1, h2⟩
    exact ⟨t, h1, decide_eq_true h2⟩
theorem rel_refl {y : Y} (ok : y.Ok) {p : Nat} (hp : p < y.n) : rel y p p = true := rel_iff.mpr ⟨idn y.n, (isoF_iff ok ok).mpr (iso_id y), idn_get hp⟩
theorem rel_symm {y : Y} (ok : y.Ok) {p q : Nat} (hp : p < y.n) (h : rel y p q = true) : rel y q p = true := by
  obtain ⟨t, ht, e⟩ := rel_iff.mp h
  have iso := (isoF_iff ok ok).mp ht
  refine rel_iff.mpr ⟨inv t, (isoF_iff ok ok).mpr (iso_inv rfl iso), ?_⟩
  have hq : q < y.n := by rw [← e]; exact iso.nm.get_lt hp
  rw [inv_get (by rw [iso.nm.len]; exact hq), ← e, iso.nm.idx_get hp]
theorem rel_trans {y : Y} (ok : y.Ok) {p q r : Nat} (hp : p < y.n) (h : rel y p q = true) (h2 : rel y q r = true) : rel y p r = true := by
  obtain ⟨t, ht, e⟩ := rel_iff.mp h
  obtain ⟨u, hu, e2⟩ := rel_iff.mp h2
  have iso := (isoF_iff ok ok).mp ht
  refine rel_iff.mpr ⟨beh t u, (isoF_iff ok ok).mpr (iso_beh rfl iso ((isoF_iff ok ok).mp hu)), ?_⟩
  rw [beh_get (by rw [iso.nm.len]; exact hp), e, e2]
theorem rel_lt {y : Y} (ok : y.Ok) {p q : Nat} (hp : p < y.n) (h : rel y p q = true) : q < y.n := by
  obtain ⟨t, ht, e⟩ := rel_iff.mp h
  rw [← e]
  exact ((isoF_iff ok ok).mp ht).nm.get_lt hp
theorem leadW_rel (y : Y) (k o : Nat) : (leadW y k o).isSome = rel y k o := by
  unfold leadW rel
  induction lev y y y.n with
  | nil => rfl
  | cons a l ih =>
    rw [List.filter_cons, List.any_cons]
    by_cases h : a.getD k 0 = o
    · rw [decide_eq_true h]; rfl
    · rw [decide_eq_false h, if_neg Bool.false_ne_true, Bool.false_or]; exact ih
def orbit (y : Y) (p : Nat) : List Nat := (List.range y.n).filter (rel y p)
def isRep (y : Y) (p : Nat) : Bool := !(List.range p).any fun q => rel y q p
def reps (y : Y) (i : Nat) : List Nat := (List.range i).filter (isRep y)
theorem isRep_iff {y : Y} {p : Nat} : isRep y p = true ↔ ∀ q, q < p → rel y q p = false := by
  unfold isRep
  rw [Bool.not_eq_true', List.any_eq_false]
  constructor
  · intro h q hq
    have := h q (List.mem_range.mpr hq)
    simpa using this
  · intro h q hq
    rw [h q (List.mem_range.mp hq)]
    exact Bool.false_ne_true
theorem mem_reps {y : Y} {i p : Nat} : p ∈ reps y i ↔ p < i ∧ isRep y p = true := by
  unfold reps
  rw [List.mem_filter, List.mem_range]
theorem rep_of {y : Y} (ok : y.Ok) : ∀ (q : Nat), q < y.n → ∃ r, r ≤ q ∧ isRep y r = true ∧ rel y r q = true := by
  intro q
  induction q using Nat.strongRecOn with
  | _ q ih =>
    intro hq
    by_cases h : isRep y q = true
    · exact ⟨q, Nat.le_refl _, h, rel_refl ok hq⟩
    · have h2 : ∃ q', q' < q ∧ rel y q' q = true := Classical.byContradiction fun z => h (isRep_iff.mpr fun q' h1 => by
        rw [← Bool.not_eq_true]
        exact fun w => z ⟨q', h1, w⟩)
      obtain ⟨q', h1, h3⟩ := h2
      obtain ⟨r, r1, r2, r3⟩ := ih q' h1 (by omega)
      exact ⟨r, by omega, r2, rel_trans ok (by omega) r3 h3⟩
theorem rep_eq {y : Y} (ok : y.Ok) {r s i : Nat} (hr : r < y.n) (hs : s < y.n) (h1 : isRep y r = true) (h2 : isRep y s = true) (a : rel y r i = true) (b : rel y s i = true) : r = s := by
  have c : rel y r s = true := rel_trans ok hr a (rel_symm ok hs b)
  rcases Nat.lt_trichotomy r s with z | z | z
  · rw [isRep_iff.mp h2 r z] at c; cases c
  · exact z
  · have := rel_symm ok hr c
    rw [isRep_iff.mp h1 s z] at this
    cases this
theorem filter_one {α : Type} (f : α → Bool) (x : α) : [x].filter f = if f x then [x] else [] := by
  rw [List.filter_cons, List.filter_nil]
theorem reps_succ (y : Y) (i : Nat) : reps y (i + 1) = reps y i ++ (if isRep y i then [i] else []) := by
  unfold reps
  rw [List.range_succ, List.filter_append, filter_one]
theorem reps_nodup (y : Y) (i : Nat) : (reps y i).Nodup := List.nodup_range.filter _
/-- the groups by the document's least places -/
def kinD (y : Y) : List (List Nat) := (reps y y.n).map (orbit y)
/-- the groups so far, a place by itself or one more of a group -/
def kinStep (y : Y) (grs : List (List Nat)) (i : Nat) : List (List Nat) := match (List.range grs.length).find? fun t => rel y ((grs.getD t []).getD 0 0) i with
  | none => grs ++ [[i]]
  | some t => grs.set t (grs.getD t [] ++ [i])
def kinG (y : Y) : Nat → List (List Nat)
  | 0 => []
  | i + 1 => kinStep y (kinG y i) i
theorem head_filter {α : Type} (f : α → Bool) : ∀ l : List α, (l.filter f).head? = l.find? f
  | [] => rfl
  | a :: l => by
    rw [List.filter_cons, List.find?_cons]
    cases h : f a
    · exact head_filter f l
    · rfl
theorem getD0_head (l : List Nat) : l.getD 0 0 = l.head?.getD 0 := by cases l <;> rfl
theorem rep_head {y : Y} (ok : y.Ok) {r i : Nat} (hi : i ≤ y.n) (hr : r < i) (h : isRep y r = true) : ((List.range i).filter (rel y r)).getD 0 0 = r := by
  rw [getD0_head, head_filter, find_first (i := r) (fun e he => ?_) (rel_refl ok (by omega)) hr]
  · rfl
  · rw [← Bool.not_eq_true]
    intro z
    have := rel_symm ok (by omega) z
    rw [isRep_iff.mp h e he] at this
    cases this
theorem kin_reps {y : Y} (ok : y.Ok) : ∀ i, i ≤ y.n → kinG y i = (reps y i).map fun r => (List.range i).filter (rel y r)
  | 0, _ => rfl
  | i + 1, hi => by
    have ih := kin_reps ok i (by omega)
    rw [kinG, ih]
    have gt : ∀ t, t < (reps y i).length → (((reps y i).map fun r => (List.range i).filter (rel y r)).getD t []).getD 0 0 = (reps y i).getD t 0 ∧ (reps y i).getD t 0 < i ∧ isRep y ((reps y i).getD t 0) = true ∧ ((reps y i).map fun r => (List.range i).filter (rel y r)).getD t [] = (List.range i).filter (rel y ((reps y i).getD t 0)) := fun t ht => by
      have m := mem_reps.mp (getD_mem ht)
      have e : ((reps y i).map fun r => (List.range i).filter (rel y r)).getD t [] = (List.range i).filter (rel y ((reps y i).getD t 0)) := by
        rw [getD_get ht]
        simp [List.getD, ht]
      rw [e]
      exact ⟨rep_head ok (by omega) m.1 m.2, m.1, m.2, rfl⟩
    unfold kinStep
    rw [List.length_map]
    have more : ∀ r, (List.range (i + 1)).filter (rel y r) = (List.range i).filter (rel y r) ++ (if rel y r i then [i] else []) := fun r => by
      rw [List.range_succ, List.filter_append, filter_one]
    cases hf : (List.range (reps y i).length).find? fun t => rel y ((((reps y i).map fun r => (List.range i).filter (rel y r)).getD t []).getD 0 0) i with
    | none =>
      rw [List.find?_eq_none] at hf
      have no : ∀ r ∈ reps y i, rel y r i = false := fun r hr => by
        obtain ⟨t, ht, e⟩ := List.mem_iff_getElem.mp hr
        have := hf t (List.mem_range.mpr ht)
        rw [(gt t ht).1, getD_get ht, e] at this
        simpa using this
      have rp : isRep y i = true := isRep_iff.mpr fun q hq => by
        rw [← Bool.not_eq_true]
        intro z
        obtain ⟨r, r1, r2, r3⟩ := rep_of ok q (by omega)
        have := rel_trans ok (by omega) r3 z
        rw [no r (mem_reps.mpr ⟨by omega, r2⟩)] at this
        cases this
      rw [reps_succ, if_pos rp, List.map_append]
      show ((reps y i).map fun r => (List.range i).filter (rel y r)) ++ [[i]] = _
      congr 1
      · apply List.map_congr_left
        intro r hr
        rw [more, no r hr]
        simp
      · rw [List.map_singleton, more, rel_refl ok (by omega), if_pos rfl]
        have e : (List.range i).filter (rel y i) = [] := List.filter_eq_nil_iff.mpr fun q hq z => by
          have := rel_symm ok (by omega) z
          rw [isRep_iff.mp rp q (List.mem_range.mp hq)] at this
          cases this
        rw [e]
        rfl
    | some t =>
      have h1 := List.find?_some hf
      have h2 := List.mem_range.mp (List.mem_of_find?_eq_some hf)
      obtain ⟨g1, g2, g3, g4⟩ := gt t h2
      have h1 : rel y ((((reps y i).map fun r => (List.range i).filter (rel y r)).getD t []).getD 0 0) i = true := h1
      rw [g1] at h1
      have nr : isRep y i = false := by
        rw [← Bool.not_eq_true]
        intro z
        rw [isRep_iff.mp z _ g2] at h1
        cases h1
      rw [reps_succ, nr, if_neg Bool.false_ne_true, List.append_nil]
      show ((reps y i).map fun r => (List.range i).filter (rel y r)).set t (((reps y i).map fun r => (List.range i).filter (rel y r)).getD t [] ++ [i]) = _
      rw [g4]
      apply List.ext_getElem?
      intro s
      rw [List.getElem?_set, List.getElem?_map, List.getElem?_map]
      by_cases hs : s < (reps y i).length
      · rw [List.getElem?_eq_getElem hs]
        obtain ⟨k1, k2, k3, _⟩ := gt s hs
        rw [getD_get hs] at k2 k3
        by_cases e : t = s
        · subst e
          rw [if_pos rfl, if_pos (by rw [List.length_map]; exact hs)]
          show some _ = some ((List.range (i + 1)).filter (rel y (reps y i)[t]))
          rw [more]
          rw [getD_get hs] at h1 ⊢
          rw [h1, if_pos rfl]
        · rw [if_neg e]
          show some ((List.range i).filter (rel y (reps y i)[s])) = some ((List.range (i + 1)).filter (rel y (reps y i)[s]))
          rw [more]
          have : rel y (reps y i)[s] i = false := by
            rw [← Bool.not_eq_true]
            intro z
            have := rep_eq ok (by omega) (by omega) g3 k3 h1 z
            rw [getD_get h2] at this
            exact e ((List.getElem_inj (reps_nodup y i)).mp this)
          rw [this]
          simp
      · rw [List.getElem?_eq_none (by omega)]
        by_cases e : t = s
        · omega
        · rw [if_neg e]
          rfl
theorem kin_all {y : Y} (ok : y.Ok) : kinG y y.n = kinD y := kin_reps ok y.n (Nat.le_refl _)
theorem orbit_mem {y : Y} {p q : Nat} : q ∈ orbit y p ↔ q < y.n ∧ rel y p q = true := by
  unfold orbit
  rw [List.mem_filter, List.mem_range]
theorem orbit_eq {y : Y} (ok : y.Ok) {p q : Nat} (hp : p < y.n) (hq : q < y.n) : orbit y p = orbit y q ↔ rel y p q = true := by
  constructor
  · intro h
    have := orbit_mem.mpr ⟨hq, rel_refl ok hq⟩
    rw [← h] at this
    exact (orbit_mem.mp this).2
  · intro h
    have e : rel y p = rel y q := by
      funext x
      rw [Bool.eq_iff_iff]
      exact ⟨fun z => rel_trans ok hq (rel_symm ok hp h) z, fun z => rel_trans ok hp h z⟩
    unfold orbit
    rw [e]
/-- by orbits gone through -/
theorem due_step {y : Y} (ok : y.Ok) {i : Nat} (hi : i < y.n) : (orbit y i ∈ (reps y i).map (orbit y) ↔ isRep y i = false) := by
  rw [List.mem_map]
  constructor
  · rintro ⟨r, hr, e⟩
    have m := mem_reps.mp hr
    have := (orbit_eq ok (by omega) hi).mp e
    rw [← Bool.not_eq_true]
    intro z
    rw [isRep_iff.mp z r m.1] at this
    cases this
  · intro h
    obtain ⟨r, r1, r2, r3⟩ := rep_of ok i hi
    have : r ≠ i := fun z => by subst z; rw [h] at r2; cases r2
    exact ⟨r, mem_reps.mpr ⟨by omega, r2⟩, (orbit_eq ok (by omega) hi).mpr r3⟩
theorem due_next {y : Y} (ok : y.Ok) {i : Nat} (hi : i < y.n) : (reps y (i + 1)).map (orbit y) = if orbit y i ∈ (reps y i).map (orbit y) then (reps y i).map (orbit y) else (reps y i).map (orbit y) ++ [orbit y i] := by
  rw [reps_succ]
  by_cases h : isRep y i = true
  · rw [if_pos h, if_neg (fun z => by rw [(due_step ok hi).mp z] at h; cases h)]
    simp
  · have h : isRep y i = false := by simpa using h
    rw [if_pos ((due_step ok hi).mpr h), h]
    simp
theorem kin_head {y : Y} (ok : y.Ok) {i t : Nat} (hi : i ≤ y.n) (ht : t < (kinG y i).length) : ∃ r rest, (kinG y i).getD t [] = r :: rest ∧ r < i ∧ rest.length < i := by
  have e := kin_reps ok i hi
  have hl : t < (reps y i).length := by rw [e, List.length_map] at ht; exact ht
  have m := mem_reps.mp (getD_mem hl)
  have e2 : (kinG y i).getD t [] = (List.range i).filter (rel y ((reps y i).getD t 0)) := by
    rw [e, getD_get hl]
    simp [List.getD, hl]
  have ln : ((List.range i).filter (rel y ((reps y i).getD t 0))).length ≤ i := Nat.le_trans (List.length_filter_le _ _) (by simp)
  have hm : (reps y i).getD t 0 ∈ (List.range i).filter (rel y ((reps y i).getD t 0)) := List.mem_filter.mpr ⟨List.mem_range.mpr m.1, rel_refl ok (by omega)⟩
  have h0 := rep_head ok hi m.1 m.2
  rw [e2]
  cases hL : (List.range i).filter (rel y ((reps y i).getD t 0)) with
  | nil => rw [hL] at hm; simp at hm
  | cons r rest =>
    rw [hL] at h0 ln
    refine ⟨r, rest, rfl, ?_, by simp at ln; omega⟩
    have : r = (reps y i).getD t 0 := h0
    rw [this]
    exact m.1

/-! ### kin: groups that grow in place -/
structure GrpAt (H0 : Hp) (G : Gh) (H : Hp) (p : Addr) (gs : List Addr) (grs : List (List Nat)) : Prop where
  keep : ∀ a o, H0 a = some o → ¬ isBox G a → H a = some o
  gi : gInv G H
  top : H p = some (.lst (gs.map V.ref))
  p0 : H0 p = none
  nd : (p :: gs).Nodup
  new : ∀ g ∈ gs, H0 g = none
  len : gs.length = grs.length
  row : ∀ (j : Nat) (g : Addr), gs[j]? = some g → H g = some (.lst ((grs.getD j []).map fun x : Nat => V.int (x : Int)))
theorem GrpAt.off {H0 : Hp} {G : Gh} {H : Hp} {p : Addr} {gs : List Addr} {grs : List (List Nat)} (h : GrpAt H0 G H p gs grs) (g0 : gInv G H0) {H' : Hp} (gi : gInv G H') (k : ∀ a o, H a = some o → ¬ isBox G a → H' a = some o) : GrpAt H0 G H' p gs grs where
  keep := fun a o e n => k a o (h.keep a o e n) n
  gi := gi
  top := k _ _ h.top fun z => g0.box z h.p0
  p0 := h.p0
  nd := h.nd
  new := h.new
  len := h.len
  row := fun j g e => k _ _ (h.row j g e) fun z => g0.box z (h.new g (List.mem_of_getElem? e))
theorem GrpAt.upd_new {H0 : Hp} {G : Gh} {H : Hp} {p : Addr} {gs : List Addr} {grs : List (List Nat)} (h : GrpAt H0 G H p gs grs) (g0 : gInv G H0) {D : Addr} {o : HO} (hD : ∀ u, H D = some u → ∀ a, a = D → a ≠ p ∧ a ∉ gs) (h0 : H0 D = none) : GrpAt H0 G (upd H D o) p gs grs := by
  have np : p ≠ D := fun z => by
    have := hD _ (by rw [← z]; exact h.top) p z
    exact this.1 rfl
  have ng : ∀ g ∈ gs, g ≠ D := fun g hg z => by
    obtain ⟨j, hj⟩ := List.mem_iff_getElem?.mp hg
    have := hD _ (by rw [← z]; exact h.row j g hj) g z
    exact this.2 hg
  refine ⟨fun a u e n => ?_, h.gi.upd fun z => g0.box z h0, ?_, h.p0, h.nd, h.new, h.len, fun j g e => ?_⟩
  · rw [upd_ne (fun z => by rw [z, h0] at e; cases e)]
    exact h.keep a u e n
  · rw [upd_ne np]; exact h.top
  · rw [upd_ne (ng g (List.mem_of_getElem? e))]; exact h.row j g e
/-- a group more -/
theorem GrpAt.more {H0 : Hp} {G : Gh} {H : Hp} {p g : Addr} {gs : List Addr} {grs : List (List Nat)} (h : GrpAt H0 G H p gs grs) (g0 : gInv G H0) {i : Nat} (hg : H g = some (.lst [.int (i : Int)])) (n0 : H0 g = none) (nw : g ∉ p :: gs) : GrpAt H0 G (upd H p (.lst (gs.map V.ref ++ [.ref g]))) p (gs ++ [g]) (grs ++ [[i]]) := by
  have npg : p ∉ gs := (List.nodup_cons.mp h.nd).1
  have nd2 := (List.nodup_cons.mp h.nd).2
  have ngp : g ≠ p := fun z => nw (by rw [z]; exact List.mem_cons_self)
  have ngg : g ∉ gs := fun z => nw (List.mem_cons_of_mem _ z)
  refine ⟨fun a u e n => ?_, h.gi.upd fun z => g0.box z h.p0, by rw [upd_same]; simp, h.p0, ?_, fun a ha => ?_, by simp [h.len], fun j a e => ?_⟩
  · rw [upd_ne (fun z => by rw [z, h.p0] at e; cases e)]
    exact h.keep a u e n
  · rw [List.nodup_cons]
    refine ⟨fun z => ?_, List.nodup_append.mpr ⟨nd2, by simp, fun a ha b hb z => ?_⟩⟩
    · rcases List.mem_append.mp z with y | y
      · exact npg y
      · have : p = g := by simpa using y
        exact ngp this.symm
    · have : b = g := by simpa using hb
      rw [z, this] at ha
      exact ngg ha
  · rcases List.mem_append.mp ha with z | z
    · exact h.new a z
    · have : a = g := by simpa using z
      rw [this]; exact n0
  · by_cases hj : j < gs.length
    · rw [List.getElem?_append_left hj] at e
      have hm := List.mem_of_getElem? e
      have e2 : (grs ++ [[i]]).getD j [] = grs.getD j [] := by simp [List.getD, List.getElem?_append_left (show j < grs.length by rw [← h.len]; exact hj)]
      rw [upd_ne (fun z => npg (by rw [← z]; exact hm)), e2]
      exact h.row j a e
    · rw [List.getElem?_append_right (by omega)] at e
      have hj2 : j - gs.length = 0 := by
        have := (List.getElem?_eq_some_iff.mp e).1
        simp at this
        omega
      rw [hj2] at e
      have e : g = a := by simpa using e
      subst e
      have e2 : (grs ++ [[i]]).getD j [] = [i] := by
        have : j = grs.length := by rw [← h.len]; omega
        subst this
        simp [List.getD]
      rw [upd_ne ngp, e2, hg]
      rfl
/-- one more of a group -/
theorem GrpAt.grow {H0 : Hp} {G : Gh} {H : Hp} {p g : Addr} {gs : List Addr} {grs : List (List Nat)} (h : GrpAt H0 G H p gs grs) (g0 : gInv G H0) {i t : Nat} (e : gs[t]? = some g) : GrpAt H0 G (upd H g (.lst (((grs.getD t []).map fun x : Nat => V.int (x : Int)) ++ [.int (i : Int)]))) p gs (grs.set t (grs.getD t [] ++ [i])) := by
  have npg : p ∉ gs := (List.nodup_cons.mp h.nd).1
  have nd2 := (List.nodup_cons.mp h.nd).2
  have hm := List.mem_of_getElem? e
  have ht : t < grs.length := by rw [← h.len]; exact (List.getElem?_eq_some_iff.mp e).1
  refine ⟨fun a u e2 n => ?_, h.gi.upd fun z => g0.box z (h.new g hm), ?_, h.p0, h.nd, h.new, by simp [h.len], fun j a e2 => ?_⟩
  · rw [upd_ne (fun z => by rw [z, h.new g hm] at e2; cases e2)]
    exact h.keep a u e2 n
  · rw [upd_ne (fun z => npg (by rw [z]; exact hm))]; exact h.top
  · by_cases hj : j = t
    · subst hj
      rw [e] at e2; cases e2
      have : (grs.set j (grs.getD j [] ++ [i])).getD j [] = grs.getD j [] ++ [i] := by simp [List.getD, ht]
      rw [upd_same, this, List.map_append]
      rfl
    · have : (grs.set t (grs.getD t [] ++ [i])).getD j [] = grs.getD j [] := by simp [List.getD, List.getElem?_set_ne (fun z => hj z.symm)]
      rw [upd_ne (fun z => hj (L2.nd_ix nd2 e2 (by rw [z]; exact e))), this]
      exact h.row j a e2
theorem pe_ixL {X : Cx} {K : PySem.W.Frag} {a b : Expr} {ta tb : TE} {pos : Pos} (ha : PE X a ta) (hb : PE X b tb) (hs : PlainIx b := by exact fun _ _ => rfl) (hK : X.K = K := by rfl) : PE X (.Subscript a b pos) (tOp (rIxL K) ta tb) := by
  subst hK
  exact pe_ix ix_list ha hb hs
theorem pe_ixT {X : Cx} {K : PySem.W.Frag} {a b : Expr} {ta tb : TE} {pos : Pos} (ha : PE X a ta) (hb : PE X b tb) (hs : PlainIx b := by exact fun _ _ => rfl) (hK : X.K = K := by rfl) : PE X (.Subscript a b pos) (tOp (rIxT K) ta tb) := by
  subst hK
  exact pe_ix ix_tup ha hb hs
theorem leadD_word (y : Y) (k o : Nat) : ∃ d, leadD y k o = .tuple [.str (if rel y k o then "turn" else "apart"), d] := by
  have e := leadW_rel y k o
  unfold leadD
  cases h : leadW y k o with
  | some l => rw [h] at e; rw [← e]; exact ⟨_, rfl⟩
  | none => rw [h] at e; rw [← e]; exact ⟨_, rfl⟩
theorem word_turn (b : Bool) : decide (V.str (if b then "turn" else "apart") = V.str "turn") = b := by
  cases b
  · decide +kernel
  · simp
def spKin : Spc := fun as Q => ∃ (y : Y), as = [yA y] ∧ y.Ok ∧ Q (.d (.list ((kinD y).map NL)))
def hitsK (y : Y) (grs : List (List Nat)) (i j : Nat) : List Nat := (List.range j).filter fun t => rel y ((grs.getD t []).getD 0 0) i
theorem hitsK_succ (y : Y) (grs : List (List Nat)) (i j : Nat) : hitsK y grs i (j + 1) = hitsK y grs i j ++ (if rel y ((grs.getD j []).getD 0 0) i then [j] else []) := by
  unfold hitsK
  rw [List.range_succ, List.filter_append, filter_one]
theorem kinStep_hits (y : Y) (grs : List (List Nat)) (i : Nat) : kinStep y grs i = match (hitsK y grs i grs.length).head? with
  | none => grs ++ [[i]]
  | some t => grs.set t (grs.getD t [] ++ [i]) := by
  unfold kinStep hitsK
  rw [head_filter]
  all_goals rfl
theorem c_kin (T : Txt K mg C) (cI : CalI P w K mg base C 2 spYd) : Cal P w K mg base C "kin" 13 spKin := by
  obtain ⟨fl, fdl, psl, FL, hml, kpl, bdl⟩ := c_lead (P := P) (w := w) (base := base) T cI
  obtain ⟨fm, fdm, psm, FM, hmm, bdm, cm⟩ := m_many (P := P) (w := w) (base := base) T
  obtain ⟨f, fd, F, hm, bd⟩ := T.d_kin
  refine ⟨f, fd, p_kin, F.ok sc_kin (fun vs H Q E h => spA_len (fun as P h => by obtain ⟨_, rfl, _⟩ := h; rfl) h) (fun cdv A outer s H vs Q E hr h => ?_), hm, F.kp, bd⟩
  obtain ⟨G, F0, as, P0, fh, gi, gb, ar, ⟨y, rfl, ok, hP⟩, k⟩ := h
  cases ar with
  | cons r1 t =>
  cases t
  rename_i yv
  have hy : YardAt G C F0 yv y.ml y.kl := r1
  have hu := room64 hr
  refine ⟨_, pss_cons (ps_set (i := 1) sc_kin.nd rfl (Or.inl rfl) (pe_lst pa_nil))
    (pss_cons (ps_for PassesOwn.never rfl (pi_range1 (by rfl) T.range (pa_cons (pe_meth0 (pv 0) cm hmm FM (hr.mono (by decide)) bdm .nil pass0) pa_nil)) (pg_name (i := 2) sc_kin.nd rfl (by first | exact Or.inl rfl | exact Or.inr rfl))
      (pss_cons (ps_setLc (i := 3) (own := [("group", 4)]) (g := gName 4) rfl sc_kin.nd rfl rfl (sw_true rfl rfl rfl (by decide +kernel)) (pi_list (pv 1)) (blkOk_by (N := n_kin) (sc := defScope s_kin) (by decide +kernel))
          (fun _ _ _ _ _ => pg_name (i := 4) sc_kin.nd rfl (Or.inl rfl))
          (fun _ _ _ _ _ => pts_one (pt_cmpR op_eq (pe_ixT (K := K) (pe_call FL (hr.mono (by decide)) (by rfl) hml kpl bdl .nil pass0 (pa_cons (pv 0) (pa_cons (pe_ixL (K := K) (pv 4) pe_int) (pa_cons (pv 2) pa_nil)))) pe_int) pe_str (nomark _)))
          (fun _ _ _ _ _ => pv 4))
      (pss_one (ps_if (pt_cmpR (op_eqD hu) (pv 3) (pe_lst pa_nil) (nomark _))
        (pss_one (ps_expr (pe_bm PySem.F.plainAttrs_list PySem.F.slot_list_append PySem.F.type_list_append mt_append (pv 1) (pa_cons (pe_lst (pa_cons (pv 2) pa_nil)) pa_nil))))
        (pss_one (ps_expr (pe_bm PySem.F.plainAttrs_list PySem.F.slot_list_append PySem.F.type_list_append mt_append (pe_ix ix_list (pv 3) pe_int (fun _ _ => rfl)) (pa_cons (pv 2) pa_nil))))))))
    (pss_one (ps_ret (pv 1)))), ?_⟩
  have h7 := ok.n7
  obtain ⟨a, dx, t, q, rfl, ha, ht, hq⟩ := hy
  have sk : Same (kn G F0) H := kn.same fh gi
  refine ⟨by decide, fun p hp => ?_⟩
  refine ⟨_, rfl, a, dx, _, rfl, ?_, yf_no t q (by decide +kernel) (by decide +kernel), ?_⟩
  · rw [upd_ne (ne_of_none (sk _ _ ha) hp)]; exact sk _ _ ha
  have keep1 : ∀ {H2 : Hp}, (∀ a o, H a = some o → ¬ isBox G a → H2 a = some o) → gInv G H2 → Same (kn G F0) H2 := fun {H2} k1 g1 => by
    refine kn.same (fun b o e => ?_) g1
    exact k1 b o (fh b o e) (fun z => by rw [gb b z] at e; cases e)
  have start : GrpAt H G (upd H p (.lst [])) p [] [] := ⟨fun a o e n => by rw [upd_ne (ne_of_none e hp)]; exact e, gi.upd fun z => gi.box z hp, upd_same, hp, by simp, by simp, rfl, fun j g e => by simp at e⟩
  have hyd : YardAt G C F0 (.ref a) y.ml y.kl := ⟨a, dx, t, q, rfl, ha, ht, hq⟩
  have same1 : ∀ {H2 : Hp}, (∀ a o, H a = some o → ¬ isBox G a → H2 a = some o) → Same F0 H2 := fun {H2} k1 b o e => k1 b o (fh b o e) fun z => by rw [gb b z] at e; cases e
  refine ⟨G, F0, [yA y], fun r => r = .d (nI y.n), same1 start.keep, start.gi, gb, .cons hyd .nil, ⟨y, rfl, rfl⟩, fun F1 H1 v r st rr hr1 => ?_⟩
  subst hr1
  cases (show Rp F1 v (.int _) from rr)
  have g1 := start.off gi st.gi st.keep
  refine ⟨_, rfl, by omega, by omega, ?_⟩
  refine for_range (lo := 0) (n := ((y.n : Int)).toNat) (fun i σ H2 => ∃ gs v2 v3 v4, σ = [some (.ref a), some (.ref p), v2, v3, v4] ∧ GrpAt H G H2 p gs (kinG y i)) ⟨[], _, _, _, rfl, g1⟩ ?_ ?_
  · rintro i σ H2 hi ⟨gs, v2, v3, v4, rfl, g2⟩
    have hi' : i < y.n := by simpa using hi
    have eK := kin_reps ok i (by omega)
    have lK : (kinG y i).length ≤ i := by
      rw [eK, List.length_map]
      exact Nat.le_trans (List.length_filter_le _ _) (by simp)
    refine ⟨_, rfl, p, rfl, ⟨_, SqL.of g2.top⟩, fun D hD => ?_⟩
    have hD0 : H D = none := by
      cases e : H D with
      | none => rfl
      | some o =>
        by_cases z : isBox G D
        · exact absurd hD (g2.gi.box z)
        · rw [g2.keep D o e z] at hD; cases hD
    have nbD : ¬ isBox G D := fun z => gi.box z hD0
    have fr : ∀ {H3 : Hp} {D : Addr}, GrpAt H G H3 p gs (kinG y i) → H3 D = none → D ≠ p ∧ D ∉ gs := fun {H3 D} g3 h3 => by
      refine ⟨fun z => ?_, fun z => ?_⟩
      · rw [z, g3.top] at h3
        cases h3
      · obtain ⟨j, hj⟩ := List.mem_iff_getElem?.mp z
        rw [g3.row j D hj] at h3
        cases h3
    obtain ⟨nDp, nDg⟩ := fr g2 hD
    have put : ∀ {H3 : Hp} {D : Addr} {o : HO}, GrpAt H G H3 p gs (kinG y i) → D ≠ p → D ∉ gs → H D = none → GrpAt H G (upd H3 D o) p gs (kinG y i) := fun {H3 D o} g3 h1 h2 h3 => g3.upd_new gi (fun _ _ a e => by subst e; exact ⟨h1, h2⟩) h3
    refine lc_list (K := K) (a := p) (xs := gs.map V.ref) (fun j H3 => GrpAt H G H3 p gs (kinG y i) ∧ H3 D = some (.lst ((hitsK y (kinG y i) i j).map fun t => V.ref (gs.getD t 0)))) ⟨put g2 nDp nDg hD0, by rw [upd_same]; rfl⟩ (fun j H3 _ h => SqL.of h.1.top) ?_ ?_
    · rintro j x H3 hx ⟨g3, d3⟩
      rw [List.getElem?_map] at hx
      obtain ⟨g, eg, rfl⟩ := Option.map_eq_some_iff.mp hx
      have hj : j < (kinG y i).length := by rw [← g3.len]; exact (List.getElem?_eq_some_iff.mp eg).1
      obtain ⟨r, rest, er, hr1, _⟩ := kin_head ok (by omega) hj
      have rowj := g3.row j g eg
      rw [er] at rowj
      obtain ⟨d2, ed⟩ := leadD_word y r i
      refine ⟨rfl, ?_⟩
      refine ⟨_, rfl, _, rfl, g, _, 0, _, rfl, rfl, SqL.of rowj, atI_nat (j := 0) rfl, _, rfl, ?_⟩
      refine ⟨G, F0, [yA y, .d (nI r), .d (nI i)], fun z => z = .d (leadD y r i), same1 g3.keep, g3.gi, gb, .cons hyd (.cons (Rp.int _) (.cons (show Rp F0 (.int (0 + (i : Int))) (nI i) by rw [Int.zero_add]; exact Rp.int _) .nil)), ⟨y, r, i, rfl, ok, by omega, hi', rfl⟩, fun F4 H4 v z st rr hz => ?_⟩
      subst hz
      have rr : Rp F4 v (leadD y r i) := rr
      rw [ed] at rr
      cases rr with
      | @tup p4 vs4 _ f4 l4 =>
      cases l4 with
      | cons l4a l4 =>
      cases l4a
      have g4 := g3.off gi st.gi st.keep
      have d4 := st.keep D _ d3 nbD
      refine ⟨p4, _, 0, _, rfl, rfl, SqT.of (st.fh _ _ f4), atI_nat (j := 0) rfl, rfl, _, rfl, ?_⟩
      rw [word_turn]
      have e3 : ((kinG y i).getD j []).getD 0 0 = r := by rw [er]; rfl
      have hs := hitsK_succ y (kinG y i) i j
      rw [e3] at hs
      cases hb : rel y r i with
      | true =>
        rw [hb] at hs
        refine iteT ⟨_, rfl, _, d4, sz_lt ?_, put g4 nDp nDg hD0, ?_⟩
        · rw [List.length_map]
          exact Nat.lt_of_le_of_lt (Nat.le_trans (List.length_filter_le _ _) (by simp; exact Nat.le_refl _)) (by omega)
        · rw [upd_same, hs, if_pos rfl, List.map_append]
          have : gs.getD j 0 = g := by simp [List.getD, eg]
          rw [List.map_singleton, this]
      | false =>
        rw [hb] at hs
        refine iteF ⟨g4, ?_⟩
        rw [d4, hs]
        simp
    · rintro H3 ⟨g3, d3⟩
      rw [List.length_map, g3.len] at d3
      have hup := kinStep_hits y (kinG y i) i
      have rpg : ∀ {H5 : Hp}, GrpAt H G H5 p gs (kinG y i) → ∀ (l : List Nat), (∀ t ∈ l, t < (kinG y i).length) → RpL H5 (l.map fun t => V.ref (gs.getD t 0)) ((l.map fun t => (kinG y i).getD t []).map NL) := fun {H5} g5 l hl => by
        refine RpL.of_get (by simp) fun m v d e1 e2 => ?_
        rw [List.getElem?_map] at e1
        rw [List.map_map, List.getElem?_map] at e2
        obtain ⟨t, et, rfl⟩ := Option.map_eq_some_iff.mp e1
        rw [et] at e2
        cases e2
        have ht := hl t (List.mem_of_getElem? et)
        have eg : gs[t]? = some (gs.getD t 0) := by
          have h2 : t < gs.length := by rw [g5.len]; exact ht
          rw [getD_get h2]
          exact List.getElem?_eq_getElem h2
        refine .lst (g5.row t _ eg) ?_
        have e := RpL.ints (F := H5) (((kinG y i).getD t []).map fun x : Nat => (x : Int))
        rw [List.map_map, List.map_map] at e
        exact e
      have hl : ∀ t ∈ hitsK y (kinG y i) i (kinG y i).length, t < (kinG y i).length := fun t ht => List.mem_range.mp (List.mem_filter.mp ht).1
      refine ⟨_, rfl, by decide, fun l hl0 => ?_⟩
      have nl := fr g3 hl0
      have lD : l ≠ D := fun z => by rw [z, d3] at hl0; cases hl0
      have hl1 : H l = none := by
        cases e : H l with
        | none => rfl
        | some o =>
          by_cases z : isBox G l
          · exact absurd hl0 (g3.gi.box z)
          · rw [g3.keep l o e z] at hl0; cases hl0
      have g5 := put (o := .lst []) g3 nl.1 nl.2 hl1
      have d5 : upd H3 l (.lst []) D = some (.lst ((hitsK y (kinG y i) i (kinG y i).length).map fun t => V.ref (gs.getD t 0))) := by rw [upd_ne lD.symm]; exact d3
      have l5 : upd H3 l (.lst []) l = some (.lst []) := upd_same
      generalize upd H3 l (.lst []) = H5 at g5 d5 l5 ⊢
      refine ⟨_, _, Rp.dp (Same.refl H5) _ _ (Rp.lst d5 (rpg g5 _ hl)), Rp.dp (Same.refl H5) _ _ (Rp.lst l5 .nil), shaped_NLs _, shaped_names [], _, rfl, ?_⟩
      rw [eqv_empty]
      cases hh : hitsK y (kinG y i) i (kinG y i).length with
      | nil =>
        rw [hh] at hup
        have hup : kinG y (i + 1) = kinG y i ++ [[i]] := hup
        refine iteT ?_
        refine ⟨_, rfl, ty_list g5.top, _, rfl, (by show 1 ≤ sizeLine; decide), fun g hg => ?_⟩
        have ng := fr g5 hg
        have hg1 : H g = none := by
          cases e : H g with
          | none => rfl
          | some o =>
            by_cases z : isBox G g
            · exact absurd hg (g5.gi.box z)
            · rw [g5.keep g o e z] at hg; cases hg
        have g6 := put (o := .lst [.int (0 + (i : Int))]) g5 ng.1 ng.2 hg1
        refine ⟨p, _, _, rfl, rfl, g6.top, sz_lt (by rw [List.length_map, g6.len]; omega), ?_⟩
        refine ⟨gs ++ [g], _, _, _, rfl, ?_⟩
        rw [hup]
        exact g6.more gi (by rw [upd_same, Int.zero_add]) hg1 (fun z => by
          rcases List.mem_cons.mp z with z | z
          · exact ng.1 z
          · exact ng.2 z)
      | cons t0 ts =>
        rw [hh] at hup d5
        have hup : kinG y (i + 1) = (kinG y i).set t0 ((kinG y i).getD t0 [] ++ [i]) := hup
        have ht0 : t0 < (kinG y i).length := hl t0 (by rw [hh]; exact List.mem_cons_self)
        have eg : gs[t0]? = some (gs.getD t0 0) := by
          have h2 : t0 < gs.length := by rw [g5.len]; exact ht0
          rw [getD_get h2]
          exact List.getElem?_eq_getElem h2
        obtain ⟨r, rest, er, hr1, hr2⟩ := kin_head ok (by omega) ht0
        refine iteF ?_
        refine ⟨_, rfl, D, _, 0, _, rfl, rfl, SqL.of d5, atI_nat (j := 0) rfl, ty_list (g5.row t0 _ eg), _, rfl, _, _, _, rfl, rfl, g5.row t0 _ eg, sz_lt (by rw [List.length_map, er, List.length_cons]; omega), ?_⟩
        refine ⟨gs, _, _, _, rfl, ?_⟩
        rw [hup, Int.zero_add]
        exact g5.grow gi eg
  · rintro σ H2 ⟨gs, v2, v3, v4, rfl, g2⟩
    refine ⟨_, rfl, ?_⟩
    rw [show ((y.n : Int)).toNat = y.n by omega, kin_all ok] at g2
    classical
    have hS : ∀ b, (b = p ∨ b ∈ gs) → H b = none := fun b hb => by
      rcases hb with z | z
      · rw [z]; exact hp
      · exact g2.new b z
    have hF : ∀ b, (b = p ∨ b ∈ gs) → F0 b = none := fun b hb => fh.free (hS b hb)
    refine k (fun b => if b = p ∨ b ∈ gs then H2 b else F0 b) H2 (.ref p) (.d (.list ((kinD y).map NL))) ⟨fun b o e => ?_, fun b o e => ?_, g2.gi, g2.keep, fun b e => ?_, fun b hb => ?_⟩ ?_ hP
    · show (if _ then _ else _) = _
      rw [if_neg (fun z => by rw [hF b z] at e; cases e)]
      exact e
    · have e : (if b = p ∨ b ∈ gs then H2 b else F0 b) = some o := e
      split at e
      · exact e
      · exact same1 g2.keep b o e
    · have e : (if b = p ∨ b ∈ gs then H2 b else F0 b) ≠ none := e
      split at e
      · rename_i z
        exact .inr (hS b z)
      · exact .inl e
    · show (if _ then _ else _) = _
      rw [if_neg (fun z => gi.box hb (hS b z))]
      exact gb b hb
    · refine .lst (vs := gs.map V.ref) ((if_pos (.inl rfl)).trans g2.top) (RpL.of_get (by rw [List.length_map, List.length_map, g2.len]) fun m v d e1 e2 => ?_)
      rw [List.getElem?_map] at e1 e2
      obtain ⟨g, eg, rfl⟩ := Option.map_eq_some_iff.mp e1
      obtain ⟨r, er, rfl⟩ := Option.map_eq_some_iff.mp e2
      have row := g2.row m g eg
      rw [show (kinD y).getD m [] = r by simp [List.getD, er]] at row
      refine .lst ((if_pos (.inr (List.mem_of_getElem? eg))).trans row) ?_
      have e := RpL.ints (F := fun b => if b = p ∨ b ∈ gs then H2 b else F0 b) (r.map fun x : Nat => (x : Int))
      rw [List.map_map, List.map_map] at e
      exact e

/-! ### shades, plainly -/
def tieS (y : Y) (s : List Nat) (p : Nat) : List PyData := ((List.range y.n).filter fun q => decide (0 < y.k p q)).map fun q => .tuple [.int (y.k p q), nI (s.getD q 0)]
abbrev srt (ds : List PyData) : List PyData := ds.mergeSort leD
def lookT (y : Y) (s : List Nat) (p : Nat) : PyData := .tuple [nI (s.getD p 0), .tuple (srt (tieS y s p))]
def lookL (y : Y) (s : List Nat) (p : Nat) : PyData := .tuple [nI (s.getD p 0), .list (srt (tieS y s p))]
def looksT (y : Y) (s : List Nat) (i : Nat) : List PyData := (List.range i).map (lookT y s)
def looksL (y : Y) (s : List Nat) (i : Nat) : List PyData := (List.range i).map (lookL y s)
def shN (y : Y) (s : List Nat) : List Nat := rks (looksT y s y.n)
def sh (y : Y) : Nat → List Nat
  | 0 => rks (y.ml.map PyData.int)
  | i + 1 => shN y (sh y i)
theorem rks_toks (xs : List PyData) : rks xs = (xs.map PySem.W.keyToks).map (rkT (xs.map PySem.W.keyToks)) := by
  rw [List.map_map]
  rfl
theorem toks_look (y : Y) (s : List Nat) (p : Nat) : PySem.W.keyToks (lookL y s p) = PySem.W.keyToks (lookT y s p) := by
  simp only [lookL, lookT, PySem.W.keyToks, PySem.W.keyToksAll]
theorem rks_looks (y : Y) (s : List Nat) (i : Nat) : rks (looksL y s i) = rks (looksT y s i) := by
  have : (looksL y s i).map PySem.W.keyToks = (looksT y s i).map PySem.W.keyToks := by
    rw [looksL, looksT, List.map_map, List.map_map]
    exact List.map_congr_left fun p _ => toks_look y s p
  rw [rks_toks, rks_toks, this]
theorem rks_len (xs : List PyData) : (rks xs).length = xs.length := by simp [rks]
theorem rks_lt {xs : List PyData} : ∀ r ∈ rks xs, r < xs.length := by
  intro r hr
  obtain ⟨x, hx, rfl⟩ := List.mem_map.mp hr
  have h1 := rkT_lt (List.mem_map.mpr ⟨x, hx, rfl⟩ : PySem.W.keyToks x ∈ xs.map PySem.W.keyToks)
  have h2 := dd_len (xs.map PySem.W.keyToks)
  rw [List.length_map] at h2
  exact Nat.lt_of_lt_of_le h1 h2
theorem sh_len (y : Y) (i : Nat) : (sh y i).length = y.n := by
  cases i with
  | zero => rw [sh, rks_len]; simp [Y.ml]
  | succ i => rw [sh, shN, rks_len, looksT]; simp
theorem sh_lt (y : Y) (i : Nat) : ∀ r ∈ sh y i, r < y.n := by
  intro r hr
  cases i with
  | zero => have := rks_lt r hr; simpa [Y.ml] using this
  | succ i => have := rks_lt r hr; simpa [looksT] using this
/-! the looks as keys -/
def toK : PyData → NestedKey
  | .tuple [.int a, .int b] => .tup [.num a, .num b]
  | _ => .none
def isP (x : PyData) : Prop := ∃ a b : Int, x = .tuple [.int a, .int b]
theorem tie_isP {y : Y} {s : List Nat} {p : Nat} : ∀ x ∈ tieS y s p, isP x := by
  intro x hx
  obtain ⟨q, _, rfl⟩ := List.mem_map.mp hx
  exact ⟨_, _, rfl⟩
theorem srt_isP {y : Y} {s : List Nat} {p : Nat} : ∀ x ∈ srt (tieS y s p), isP x := fun x hx => tie_isP x (List.mem_mergeSort.mp hx)
def lookK (y : Y) (s : List Nat) (p : Nat) : NestedKey := .tup [.num (s.getD p 0 : Nat), .tup ((srt (tieS y s p)).map toK)]
theorem look_data (y : Y) (s : List Nat) (p : Nat) : (lookK y s p).data = lookT y s p := by
  have h : (srt (tieS y s p)).map (NestedKey.data ∘ toK) = srt (tieS y s p) := by
    have : ∀ x ∈ srt (tieS y s p), (NestedKey.data ∘ toK) x = id x := fun x hx => by
      obtain ⟨a, b, rfl⟩ := srt_isP x hx
      simp [toK, NestedKey.data, NestedKey.datas]
    rw [List.map_congr_left this, List.map_id]
  rw [lookK, lookT, NestedKey.data, NestedKey.datas, NestedKey.datas, NestedKey.datas, NestedKey.data, NestedKey.data, datas_map, List.map_map, h]
theorem alike_isP {x z : PyData} (hx : isP x) (hz : isP z) : PySem.W.alike x z = true := by
  obtain ⟨a, b, rfl⟩ := hx
  obtain ⟨c, d, rfl⟩ := hz
  simp [PySem.W.alike, PySem.W.alikeAll]
theorem alikeAll_of : ∀ {xs ys : List PyData}, (∀ x ∈ xs, ∀ z ∈ ys, PySem.W.alike x z = true) → PySem.W.alikeAll xs ys = true
  | [], _, _ => by simp [PySem.W.alikeAll]
  | _ :: _, [], _ => by simp [PySem.W.alikeAll]
  | x :: xs, z :: ys, h => by
    rw [PySem.W.alikeAll, h x List.mem_cons_self z List.mem_cons_self, alikeAll_of fun a ha b hb => h a (List.mem_cons_of_mem _ ha) b (List.mem_cons_of_mem _ hb)]
    rfl
theorem alike_look (y : Y) (s : List Nat) (p q : Nat) : PySem.W.alike (lookT y s p) (lookT y s q) = true ∧ PySem.W.alike (lookL y s p) (lookL y s q) = true := by
  have h := alikeAll_of fun x (hx : x ∈ srt (tieS y s p)) z (hz : z ∈ srt (tieS y s q)) => alike_isP (srt_isP x hx) (srt_isP z hz)
  constructor
  · simp only [lookT, PySem.W.alike, PySem.W.alikeAll, h, Bool.and_self]
  · simp only [lookL, PySem.W.alike, PySem.W.alikeAll, h, Bool.and_self]
theorem tie_len (y : Y) (s : List Nat) (p : Nat) : (tieS y s p).length ≤ y.n := by
  rw [tieS, List.length_map]
  exact Nat.le_trans (List.length_filter_le _ _) (by simp)
theorem srt_len (y : Y) (s : List Nat) (p : Nat) : (srt (tieS y s p)).length ≤ y.n := by rw [srt, List.length_mergeSort]; exact tie_len y s p
theorem lay_ties (y : Y) (s : List Nat) (p : Nat) : PyData.canLayAll0 (srt (tieS y s p)) = true ∧ PyData.depthAll (srt (tieS y s p)) ≤ 3 ∧ plainAll (srt (tieS y s p)) = true := by
  refine ⟨canLay_all fun x hx => ?_, depth_all fun x hx => ?_, plain_all fun x hx => ?_⟩
  · obtain ⟨a, b, rfl⟩ := srt_isP x hx
    simp [PyData.canLay0, PyData.canLayAll0]
  · obtain ⟨a, b, rfl⟩ := srt_isP x hx
    simp [PyData.depth, PyData.depthAll]
  · obtain ⟨a, b, rfl⟩ := srt_isP x hx
    simp [plainD, plainAll]
theorem lay_look (y : Y) (s : List Nat) (p : Nat) : (PyData.canLay0 (lookT y s p) = true ∧ PyData.depth (lookT y s p) ≤ 10) ∧ (PyData.canLay0 (lookL y s p) = true ∧ PyData.depth (lookL y s p) ≤ 10) := by
  obtain ⟨h1, h2, h3⟩ := lay_ties y s p
  refine ⟨⟨?_, ?_⟩, ?_, ?_⟩
  · simp only [lookT, PyData.canLay0, PyData.canLayAll0, h1, Bool.and_self]
  · simp only [lookT, PyData.depth, PyData.depthAll]; omega
  · simp only [lookL, PyData.canLay0, PyData.canLayAll0, h1, Bool.and_self]
  · simp only [lookL, PyData.depth, PyData.depthAll]; omega
theorem nums_map : ∀ {xs : List PyData}, (∀ x ∈ xs, isP x) → numKs (xs.map toK) = true
  | [], _ => by rw [List.map_nil, numKs]
  | x :: xs, h => by
    obtain ⟨a, b, rfl⟩ := h x List.mem_cons_self
    rw [List.map_cons, numKs, nums_map fun z hz => h z (List.mem_cons_of_mem _ hz)]
    simp [toK, numK, numKs]
theorem deps_map : ∀ {xs : List PyData}, (∀ x ∈ xs, isP x) → NestedKey.depthAll (xs.map toK) ≤ 4
  | [], _ => by rw [List.map_nil, NestedKey.depthAll]; omega
  | x :: xs, h => by
    obtain ⟨a, b, rfl⟩ := h x List.mem_cons_self
    have := deps_map fun z hz => h z (List.mem_cons_of_mem _ hz)
    rw [List.map_cons, NestedKey.depthAll]
    have h2 : NestedKey.depth (toK (.tuple [.int a, .int b])) ≤ 4 := by simp [toK, NestedKey.depth, NestedKey.depthAll]
    omega
theorem tup_look (y : Y) (s : List Nat) (p : Nat) : TupK (lookK y s p) where
  tu := ⟨_, rfl⟩
  nm := by rw [lookK, numK, numKs, numKs, numKs, numK, numK, nums_map srt_isP]; rfl
  dp := by
    have := deps_map (srt_isP (y := y) (s := s) (p := p))
    simp only [lookK, NestedKey.depth, NestedKey.depthAll]
    omega
  dd := by rw [look_data]; have := (lay_look y s p).1.2; omega
theorem numb_looks (y : Y) (ok : y.Ok) (s : List Nat) : NumbOk (looksT y s y.n) where
  al := fun d hd d' hd' => by
    obtain ⟨p, _, rfl⟩ := List.mem_map.mp hd
    obtain ⟨q, _, rfl⟩ := List.mem_map.mp hd'
    exact (alike_look y s p q).1
  few := by have := ok.n7; simpa [looksT] using this
  lay := fun x hx => by
    obtain ⟨p, _, rfl⟩ := List.mem_map.mp hx
    exact (lay_look y s p).1
  kd := .inr ⟨⟨(List.range y.n).map (lookK y s), by rw [List.map_map, looksT]; exact List.map_congr_left fun p _ => (look_data y s p).symm, fun k hk => by
      obtain ⟨p, _, rfl⟩ := List.mem_map.mp hk
      exact tup_look y s p⟩, .inl fun d hd => by
      obtain ⟨p, _, rfl⟩ := List.mem_map.mp hd
      exact ⟨_, _, rfl⟩⟩
theorem numb_ints {ns : List Int} (h : ns.length ≤ 7) : NumbOk (ns.map PyData.int) where
  al := fun d hd d' hd' => by
    obtain ⟨p, _, rfl⟩ := List.mem_map.mp hd
    obtain ⟨q, _, rfl⟩ := List.mem_map.mp hd'
    simp [PySem.W.alike]
  few := by simpa using h
  lay := fun x hx => by
    obtain ⟨p, _, rfl⟩ := List.mem_map.mp hx
    simp [PyData.canLay0, PyData.depth]
  kd := .inl ⟨ns, rfl⟩
/-! shades grow -/
theorem nodup_le_tk : ∀ (D l : List Tk), l.Nodup → (∀ x ∈ l, x ∈ D) → l.length ≤ D.length
  | [], l, _, h => by
    cases l with
    | nil => exact Nat.le_refl _
    | cons a l => have := h a List.mem_cons_self; simp at this
  | d :: D, l, nd, h => by
    have e1 := nodup_le_tk D (l.erase d) (nd.erase d) fun x hx => by
      have h1 := h x (List.mem_of_mem_erase hx)
      have h2 : x ≠ d := ((nd.mem_erase_iff).mp hx).1
      exact (List.mem_cons.mp h1).resolve_left h2
    have e2 : l.length ≤ (l.erase d).length + 1 := by
      rw [List.length_erase]
      split <;> omega
    rw [List.length_cons]
    omega
/-- finer ones, in the same order: the numbers rise -/
theorem rk_rise {n : Nat} {k m : Nat → Tk} (h : ∀ p q, p < n → q < n → rkT ((List.range n).map k) (k p) < rkT ((List.range n).map k) (k q) → tLt (m p) (m q) = true) {p : Nat} (hp : p < n) :
    rkT ((List.range n).map k) (k p) ≤ rkT ((List.range n).map m) (m p) := by
  generalize hK : (List.range n).map k = Ks at h ⊢
  generalize hM : (List.range n).map m = Ms
  have back : ∀ u ∈ dd Ks, ∃ q, q < n ∧ k q = u := fun u hu => by
    rw [mem_dd, ← hK] at hu
    obtain ⟨q, hq, e⟩ := List.mem_map.mp hu
    exact ⟨q, List.mem_range.mp hq, e⟩
  have mK : ∀ q, q < n → k q ∈ Ks := fun q hq => by rw [← hK]; exact List.mem_map.mpr ⟨q, List.mem_range.mpr hq, rfl⟩
  have mM : ∀ q, q < n → m q ∈ Ms := fun q hq => by rw [← hM]; exact List.mem_map.mpr ⟨q, List.mem_range.mpr hq, rfl⟩
  let f : Tk → Tk := fun u => if hu : u ∈ dd Ks then m (back u hu).choose else []
  have fs : ∀ u, u ∈ dd Ks → ∃ q, q < n ∧ k q = u ∧ f u = m q := fun u hu => ⟨(back u hu).choose, (back u hu).choose_spec.1, (back u hu).choose_spec.2, by show (if hu : u ∈ dd Ks then m (back u hu).choose else []) = _; rw [dif_pos hu]⟩
  have ne : ∀ u v, u ∈ dd Ks → v ∈ dd Ks → u ≠ v → f u ≠ f v := fun u v hu hv huv => by
    obtain ⟨a, ha, rfl, ea⟩ := fs u hu
    obtain ⟨b, hb, rfl, eb⟩ := fs v hv
    rw [ea, eb]
    intro e
    rcases q : tLt (k a) (k b) with _ | _
    · rcases q2 : tLt (k b) (k a) with _ | _
      · exact huv (PyProof.Rows.lex_total (O := PyProof.Rows.itemOrd) _ _ q q2)
      · have := h b a hb ha (rkT_mono (mK b hb) q2)
        rw [e] at this
        rw [show tLt (m b) (m b) = false from PyProof.Rows.lex_irrefl _] at this
        cases this
    · have := h a b ha hb (rkT_mono (mK a ha) q)
      rw [e] at this
      rw [show tLt (m b) (m b) = false from PyProof.Rows.lex_irrefl _] at this
      cases this
  unfold rkT
  rw [List.countP_eq_length_filter, List.countP_eq_length_filter, ← List.length_map (f := f)]
  refine nodup_le_tk _ _ ?_ fun x hx => ?_
  · refine List.pairwise_map.mpr (((nd_dd Ks).filter _).imp_of_mem fun {u v} hu hv huv => ne u v (List.mem_filter.mp hu).1 (List.mem_filter.mp hv).1 huv)
  · obtain ⟨u, hu, rfl⟩ := List.mem_map.mp hx
    obtain ⟨hu1, hu2⟩ := List.mem_filter.mp hu
    obtain ⟨q, hq, rfl, e⟩ := fs u hu1
    rw [e]
    refine List.mem_filter.mpr ⟨(mem_dd _ _).mpr (mM q hq), h q p hq hp (rkT_mono (mK q hq) hu2)⟩
theorem look_lt {y : Y} {s : List Nat} {p q : Nat} (h : s.getD p 0 < s.getD q 0) : tLt (PySem.W.keyToks (lookT y s p)) (PySem.W.keyToks (lookT y s q)) = true := by
  show PySem.W.dataLt (lookT y s p) (lookT y s q) = true
  rw [lookT, lookT, PySem.W.dataLt_tuple, PySem.W.dataLt_all_no (by simp [PySem.W.alike]) (by
    have : ¬ ((s.getD p 0 : Nat) : Int) = ((s.getD q 0 : Nat) : Int) := by omega
    simp only [PyData.eqv]
    exact beq_eq_false_iff_ne.mpr this), PySem.W.dataLt_int]
  exact decide_eq_true (by omega)
/-- the keys that the shades of a round come of -/
def keyS (y : Y) : Nat → Nat → Tk
  | 0, p => PySem.W.keyToks (.int (y.m p))
  | i + 1, p => PySem.W.keyToks (lookT y (sh y i) p)
theorem sh_keys (y : Y) (i : Nat) : sh y i = (List.range y.n).map fun p => rkT ((List.range y.n).map (keyS y i)) (keyS y i p) := by
  have fin : ∀ (f : Nat → Tk) (Ks : List Tk), (List.range y.n).map f = Ks → Ks.map (rkT Ks) = (List.range y.n).map fun p => rkT ((List.range y.n).map f) (f p) := fun f Ks e => by
    rw [← e, List.map_map]
    rfl
  cases i with
  | zero =>
    rw [sh, rks_toks]
    exact fin (keyS y 0) _ (by rw [Y.ml, List.map_map, List.map_map]; rfl)
  | succ i =>
    rw [sh, shN, rks_toks]
    exact fin (keyS y (i + 1)) _ (by rw [looksT, List.map_map]; rfl)
theorem sh_at {y : Y} {i p : Nat} (hp : p < y.n) : (sh y i).getD p 0 = rkT ((List.range y.n).map (keyS y i)) (keyS y i p) := by
  rw [sh_keys, List.getD_eq_getElem?_getD, List.getElem?_map, List.getElem?_range hp]
  rfl
theorem sh_rise {y : Y} {i p : Nat} (hp : p < y.n) : (sh y i).getD p 0 ≤ (sh y (i + 1)).getD p 0 := by
  rw [sh_at hp, sh_at hp]
  refine rk_rise (fun a b ha hb lt => ?_) hp
  rw [← sh_at ha, ← sh_at hb] at lt
  exact look_lt lt
theorem sum_rise : ∀ {l m : List Nat}, l.length = m.length → (∀ p, p < l.length → l.getD p 0 ≤ m.getD p 0) → l.sum ≤ m.sum ∧ (l ≠ m → l.sum < m.sum)
  | [], [], _, _ => ⟨Nat.le_refl _, fun z => absurd rfl z⟩
  | a :: l, b :: m, e, h => by
    obtain ⟨h1, h2⟩ := sum_rise (l := l) (m := m) (by simpa using e) fun p hp => by simpa using h (p + 1) (by simpa using hp)
    have h0 : a ≤ b := by simpa using h 0 (by simp)
    refine ⟨by simp only [List.sum_cons]; omega, fun ne => ?_⟩
    simp only [List.sum_cons]
    by_cases z : l = m
    · have : a ≠ b := fun w => ne (by rw [w, z])
      omega
    · have := h2 z
      omega
theorem sum_le : ∀ {l : List Nat} {k : Nat}, (∀ r ∈ l, r ≤ k) → l.sum ≤ l.length * k
  | [], _, _ => by simp
  | a :: l, k, h => by
    have h1 := h a List.mem_cons_self
    have h2 := sum_le fun r hr => h r (List.mem_cons_of_mem _ hr)
    rw [List.sum_cons, List.length_cons, Nat.succ_mul]
    omega
theorem sh_sum (y : Y) (ok : y.Ok) (i : Nat) : (sh y i).sum ≤ 49 := by
  have := sum_le fun r hr => Nat.le_of_lt (sh_lt y i r hr)
  rw [sh_len] at this
  exact Nat.le_trans this (Nat.mul_le_mul ok.n7 ok.n7)
theorem sh_more {y : Y} {i : Nat} (ne : sh y (i + 1) ≠ sh y i) : (sh y i).sum < (sh y (i + 1)).sum :=
  (sum_rise (by rw [sh_len, sh_len]) fun p hp => sh_rise (by rwa [sh_len] at hp)).2 fun e => ne e.symm
/-- the round from which on nothing more is told apart -/
structure LastR (y : Y) (r : Nat) : Prop where
  st : sh y (r + 1) = sh y r
  un : ∀ j, j < r → sh y (j + 1) ≠ sh y j
theorem LastR.one {y : Y} {r r' : Nat} (h : LastR y r) (h' : LastR y r') : r = r' := by
  rcases Nat.lt_trichotomy r r' with z | z | z
  · exact absurd h.st (h'.un r z)
  · exact z
  · exact absurd h'.st (h.un r' z)
def shL (y : Y) (i : Nat) : List PyData := (List.range i).map fun j => NL (sh y j)
theorem shL_succ (y : Y) (i : Nat) : shL y (i + 1) = shL y i ++ [NL (sh y i)] := by rw [shL, List.range_succ, List.map_append]; rfl

local macro_rules | `(tactic| walk_at "wz") => `(tactic| ((walk_at "wp"); (try simp only [e_index, lxK_o, lxK_b, lxK_d, dxK_o, dxK_b, dxK_d, e_guard, e_ei, e_ssN, sortSetA_o, sortSetA_d, ssN_o, ssN_d, sortDA_o, sortDA_d, sortDA_b, e_clrF, clrFK_l, e_clr1, clr1K_l]); (walk_at "wp"); (try simp only [e_index, lxK_o, lxK_b, lxK_d, dxK_o, dxK_b, dxK_d, e_guard, e_ei, e_ssN, sortSetA_o, sortSetA_d, ssN_o, ssN_d, sortDA_o, sortDA_d, sortDA_b, e_clrF, clrFK_l, e_clr1, clr1K_l]); (walk_at "wp"); (try simp only [e_index, lxK_o, lxK_b, lxK_d, dxK_o, dxK_b, dxK_d, e_guard, e_ei, e_ssN, sortSetA_o, sortSetA_d, ssN_o, ssN_d, sortDA_o, sortDA_d, sortDA_b, e_clrF, clrFK_l, e_clr1, clr1K_l]); (walk_at "wp")))
/-! ### numbered, looks_of -/
def spNumb : Spc := fun as Q => ∃ xs : List PyData, as = [.d (.list xs)] ∧ NumbOk xs ∧ Q (.own ((rks xs).map nI))
theorem c_numbered (T : Txt K mg C) : Cal P w K mg base C "numbered" 3 spNumb := by
  refine cal_of T.d_numbered sc_numbered (fun as Q h => by obtain ⟨_, rfl, _⟩ := h; rfl) fun f cdv A0 outer s H E hr G F as Q hs => ?_
  obtain ⟨xs, rfl, ok, hQ⟩ := hs
  have few := ok.few
  refine ⟨_, _, (pss_consA (ps_setA (i := 1) sc_numbered.nd (pd_sortSetN (K := K) (w := w) hr rfl T.sorted T.set (pd_var 0)))
  (pss_oneA (ps_retA (pd_lc [("look", 2)] sc_numbered.nd (pi_listA (K := K) (pd_var 0)) (blkOk_by (N := n_numbered) (sc := defScope s_numbered) (by decide +kernel)) (fun _ _ _ _ _ => (pg_nameA 2 sc_numbered.nd)) (fun _ _ _ _ _ => pts_nilA) (fun _ _ _ _ _ => (pd_index (K := K) hr (by omega) (pd_var 1) (pd_var 2))) (gw_name (by decide)))))), ?_⟩
  walk_at "wz"
  refine numb_ev ok fun us ev => ?_
  walk_at "wz"
  refine ⟨fun i acc => acc = ((rks xs).take i).map nI, rfl, fun i d acc hd hI => ⟨fun _ => ?_, fun z => (by cases z)⟩, ?_⟩
  · subst hI
    have hm := List.mem_of_getElem? hd
    obtain ⟨z, e1, e2, e3⟩ := ev.idx ok.al hm
    have hi := (List.getElem?_eq_some_iff.mp hd).1
    walk_at "wz"
    refine ⟨shaped_all fun x hx => ok.lay x (ev.sub x hx), shaped_one (ok.lay d hm), _, z, e1, e2, e3, ?_⟩
    walk_at "wz"
    refine ⟨sz_lt (by rw [List.length_take, rks_len]; omega), ?_⟩
    rw [List.take_succ]
    unfold rks
    rw [List.getElem?_map, hd]
    simp
  rintro acc rfl
  rw [List.take_of_length_le (by rw [rks_len]; exact Nat.le_refl _)]
  exact hQ
theorem tieS_at {y : Y} {s : List Nat} {p i : Nat} : (((List.range (i + 1)).filter fun q => decide (0 < y.k p q)).map fun q => (PyData.tuple [.int (y.k p q), nI (s.getD q 0)])) = (((List.range i).filter fun q => decide (0 < y.k p q)).map fun q => (PyData.tuple [.int (y.k p q), nI (s.getD q 0)])) ++ (if 0 < y.k p i then [PyData.tuple [.int (y.k p i), nI (s.getD i 0)]] else []) := by
  rw [List.range_succ, List.filter_append, List.map_append]
  congr 1
  by_cases z : 0 < y.k p i
  · rw [if_pos z]; simp [z]
  · rw [if_neg z]; simp [z]
def tieI (y : Y) (s : List Nat) (p i : Nat) : List PyData := ((List.range i).filter fun q => decide (0 < y.k p q)).map fun q => .tuple [.int (y.k p q), nI (s.getD q 0)]
theorem tieI_succ (y : Y) (s : List Nat) (p i : Nat) : tieI y s p (i + 1) = tieI y s p i ++ (if 0 < y.k p i then [PyData.tuple [.int (y.k p i), nI (s.getD i 0)]] else []) := tieS_at
theorem tieI_len (y : Y) (s : List Nat) (p i : Nat) : (tieI y s p i).length ≤ i := by
  rw [tieI, List.length_map]
  exact Nat.le_trans (List.length_filter_le _ _) (by simp)
theorem looksT_succ (y : Y) (s : List Nat) (i : Nat) : looksT y s (i + 1) = looksT y s i ++ [lookT y s i] := by rw [looksT, List.range_succ, List.map_append]; rfl
theorem looksL_succ (y : Y) (s : List Nat) (i : Nat) : looksL y s (i + 1) = looksL y s i ++ [lookL y s i] := by rw [looksL, List.range_succ, List.map_append]; rfl
theorem tie_sort {y : Y} {s : List Nat} {p : Nat} {Q : A → Prop} (h : Q (.own (srt (tieS y s p)))) : sortDK (tieS y s p) Q :=
  ⟨fun a ha b hb => alike_isP (tie_isP a ha) (tie_isP b hb), .inl fun d hd => by
    obtain ⟨a, b, rfl⟩ := tie_isP d hd
    exact ⟨_, _, rfl⟩, fun d hd => by
    obtain ⟨a, b, rfl⟩ := tie_isP d hd
    simp [PyData.depth, PyData.depthAll], h⟩
def spLooks : Spc := fun as Q => ∃ (y : Y) (s : List Nat), as = [yA y, .d (NL s)] ∧ y.Ok ∧ s.length = y.n ∧ Q (.own (looksT y s y.n))
theorem c_looks_of (T : Txt K mg C) : Cal P w K mg base C "looks_of" 3 spLooks := by
  have m_many := m_many (P := P) (w := w) (base := base) T
  refine cal_of T.d_looks_of sc_looks_of (fun as Q h => by obtain ⟨_, _, rfl, _⟩ := h; rfl) fun f cdv A0 outer s H E hr G F as Q hs => ?_
  obtain ⟨y, t, rfl, ok, ln, hQ⟩ := hs
  have h7 := ok.n7
  have n1 := ok.n1
  refine ⟨_, _, (pss_consA (ps_setA (i := 2) sc_looks_of.nd (pd_lst pda_nil))
  (pss_consA (ps_forA (pi_range1A T.range (pda_cons (pd_meth0 m_many hr (by omega) (pd_var 0)) pda_nil)) (pg_nameA 3 sc_looks_of.nd) (pss_consA (ps_setA (i := 4) sc_looks_of.nd (pd_lst pda_nil))
  (pss_consA (ps_forA (pi_range1A T.range (pda_cons (pd_meth0 m_many hr (by omega) (pd_var 0)) pda_nil)) (pg_nameA 5 sc_looks_of.nd) (pss_oneA (ps_ifA (pt_gt (pd_ix (K := K) (pd_ix (K := K) (pd_kinds (K := K) T.cY T.n_kinds (pd_var 0)) (pd_var 3)) (pd_var 5)) pd_int) (pss_oneA (ps_appA (pd_var 4) (pd_tup (pda_cons (pd_ix (K := K) (pd_ix (K := K) (pd_kinds (K := K) T.cY T.n_kinds (pd_var 0)) (pd_var 3)) (pd_var 5)) (pda_cons (pd_ix (K := K) (pd_var 1) (pd_var 5)) pda_nil))))) pss_nilA)) PassesOwn.never)
  (pss_oneA (ps_appA (pd_var 2) (pd_tup (pda_cons (pd_ix (K := K) (pd_var 1) (pd_var 3)) (pda_cons (pd_tuple (K := K) T.tuple (pda_cons (pd_sortD (K := K) hr T.sorted (pda_cons (pd_var 4) pda_nil)) pda_nil)) pda_nil))))))) PassesOwn.never)
  (pss_oneA (ps_retA (pd_var 2))))), ?_⟩
  walk_at "wz"
  refine ⟨by decide, y, rfl, ?_⟩
  walk_at "wz"
  refine ⟨by omega, by omega, fun i ρ => ∃ a3 a4 a5, ρ = [yA y, .d (NL t), .own (looksT y t i), a3, a4, a5], ⟨_, _, _, rfl⟩, fun p d ρ hd hI => ?_, fun ρ hI => ?_⟩
  · obtain ⟨hp, rfl⟩ := rgD0_get hd
    obtain ⟨a3, a4, a5, rfl⟩ := hI
    walk_at "wz"
    refine ⟨by decide, y, rfl, ?_⟩
    walk_at "wz"
    refine ⟨by omega, by omega, fun i ρ => ∃ a5, ρ = [yA y, .d (NL t), .own (looksT y t p), .d (nI p), .own (tieI y t p i), a5], ⟨_, rfl⟩, fun q d ρ hd hI => ?_, fun ρ hI => ?_⟩
    · obtain ⟨hq, rfl⟩ := rgD0_get hd
      obtain ⟨a5, rfl⟩ := hI
      walk_at "wz"
      refine ⟨_, at_kinds y hp, ?_⟩
      walk_at "wz"
      refine ⟨_, at_kind y hq, ?_⟩
      walk_at "wz"
      have lt := tieI_len y t p q
      refine ⟨fun z => ⟨_, at_kinds y hp, ?_⟩, fun z => ⟨.d (nI q), ?_⟩⟩
      · walk_at "wz"
        refine ⟨_, at_kind y hq, _, at_names (show q < t.length by omega), ?_⟩
        walk_at "wz"
        refine ⟨by decide, sz_lt (by omega), .d (nI q), ?_⟩
        rw [tieI_succ, if_pos (by simpa using z)]
      · rw [tieI_succ, if_neg (by simpa using z), List.append_nil]
    obtain ⟨a5, rfl⟩ := hI
    walk_at "wz"
    refine ⟨_, at_names (show p < t.length by omega), tie_sort ?_⟩
    walk_at "wz"
    rw [looksT_succ]
    exact ⟨by decide, sz_lt (by rw [looksT, List.length_map, List.length_range]; omega), _, _, _, rfl⟩
  obtain ⟨a3, a4, a5, rfl⟩ := hI
  walk_at "wz"
  exact hQ
/-! ### _law_numbers, _law_round -/
structure NumbL (xs : List PyData) : Prop where
  al : PySem.W.AllAlike xs
  so : PySem.W.Sortable xs
  few : xs.length ≤ 7
  lay : ∀ x ∈ xs, PyData.canLay0 x = true ∧ PyData.depth x ≤ 10
def spNumbL : Spc := fun as Q => ∃ xs : List PyData, as = [.d (.list xs)] ∧ NumbL xs ∧ Q (.own ((rks xs).map nI))
theorem numbL_looks (y : Y) (ok : y.Ok) (s : List Nat) : NumbL (looksL y s y.n) where
  al := fun d hd d' hd' => by
    obtain ⟨p, _, rfl⟩ := List.mem_map.mp hd
    obtain ⟨q, _, rfl⟩ := List.mem_map.mp hd'
    exact (alike_look y s p q).2
  so := .inl fun d hd => by
    obtain ⟨p, _, rfl⟩ := List.mem_map.mp hd
    exact ⟨_, _, rfl⟩
  few := by have := ok.n7; simpa [looksL] using this
  lay := fun x hx => by
    obtain ⟨p, _, rfl⟩ := List.mem_map.mp hx
    exact (lay_look y s p).2
theorem numbL_ints {ns : List Int} (h : ns.length ≤ 7) : NumbL (ns.map PyData.int) where
  al := (numb_ints h).al
  so := .inr fun d hd => by
    obtain ⟨p, _, rfl⟩ := List.mem_map.mp hd
    exact ⟨nofun, fun xs => nofun⟩
  few := (numb_ints h).few
  lay := (numb_ints h).lay
def spRound : Spc := fun as Q => ∃ (y : Y) (s : List Nat), as = [.d (rowsD y), .d (NL s)] ∧ y.Ok ∧ s.length = y.n ∧ Q (.own ((shN y s).map nI))
local macro_rules | `(tactic| walk_at "wz") => `(tactic| ((walk_at "wp"); (try simp only [e_index, lxK_o, lxK_b, lxK_d, dxK_o, dxK_b, dxK_d, e_guard, e_ei, e_ssN, sortSetA_o, sortSetA_d, ssN_o, ssN_d, sortDA_o, sortDA_d, sortDA_b, e_clrF, clrFK_l, e_clr1, clr1K_l]); (walk_at "wp"); (try simp only [e_index, lxK_o, lxK_b, lxK_d, dxK_o, dxK_b, dxK_d, e_guard, e_ei, e_ssN, sortSetA_o, sortSetA_d, ssN_o, ssN_d, sortDA_o, sortDA_d, sortDA_b, e_clrF, clrFK_l, e_clr1, clr1K_l]); (walk_at "wp"); (try simp only [e_index, lxK_o, lxK_b, lxK_d, dxK_o, dxK_b, dxK_d, e_guard, e_ei, e_ssN, sortSetA_o, sortSetA_d, ssN_o, ssN_d, sortDA_o, sortDA_d, sortDA_b, e_clrF, clrFK_l, e_clr1, clr1K_l]); (walk_at "wp")))
/-! ### rounds, shades -/
def spRounds : Spc := fun as Q => ∃ y : Y, as = [yA y] ∧ y.Ok ∧ ∀ r, LastR y r → Q (.own (shL y (r + 1)))
theorem shL_last (y : Y) (i : Nat) : atI (shL y (i + 1)) (-1) = some (NL (sh y i)) := by
  rw [shL_succ]
  have l : (shL y i).length = i := by simp [shL]
  unfold atI ixN
  have e1 : (-1 + ((i : Int) + 1)).toNat = i := by omega
  have e2 : (1 : Int) ≤ (i : Int) + 1 := by omega
  simp [l, e1, e2]
theorem c_rounds (T : Txt K mg C) : Cal P w K mg base C "rounds" 5 spRounds := by
  have c_numbered := c_numbered (P := P) (w := w) (base := base) T
  have c_looks_of := c_looks_of (P := P) (w := w) (base := base) T
  refine cal_of T.d_rounds sc_rounds (fun as Q h => by obtain ⟨_, rfl, _⟩ := h; rfl) fun f cdv A0 outer s H E hr G F as Q hs => ?_
  obtain ⟨y, rfl, ok, hQ⟩ := hs
  have h7 := ok.n7
  have n1 := ok.n1
  have ml7 : y.ml.length ≤ 7 := by simp [Y.ml]; omega
  refine ⟨_, _, (pss_consA (ps_setA (i := 1) sc_rounds.nd (pd_lst (pda_cons (pd_call c_numbered hr (by omega) (pda_cons (pd_list (K := K) T.list (pda_cons (pd_marked (K := K) T.cY T.n_marked (pd_var 0)) pda_nil)) pda_nil)) pda_nil)))
  (pss_consA (ps_setA (i := 2) sc_rounds.nd (pd_call c_numbered hr (by omega) (pda_cons (pd_call c_looks_of hr (by omega) (pda_cons (pd_var 0) (pda_cons (pd_ix (K := K) (pd_var 1) (pd_neg pd_int)) pda_nil))) pda_nil)))
  (pss_consA (ps_whileA (pt_ne (K := K) hr (pd_var 2) (pd_ix (K := K) (pd_var 1) (pd_neg pd_int))) (pss_consA (ps_fz 2 (ps_appA (pd_var 1) (pd_var 2)))
  (pss_oneA (ps_fz 2 (ps_setA (i := 2) sc_rounds.nd (pd_call c_numbered hr (by omega) (pda_cons (pd_call c_looks_of hr (by omega) (pda_cons (pd_var 0) (pda_cons (pd_var 2) pda_nil))) pda_nil)))))) PassesOwn.never)
  (pss_oneA (ps_retA (pd_var 1)))))), ?_⟩
  walk_at "wz"
  refine ⟨_, rfl, _, rfl, numb_ints ml7, ?_⟩
  walk_at "wz"
  refine ⟨by decide, _, shL_last y 0, y, sh y 0, rfl, ok, sh_len y 0, ?_⟩
  walk_at "wz"
  refine ⟨_, rfl, numb_looks y ok _, ?_⟩
  walk_at "wz"
  refine ⟨fun m ρ => ∃ i, (∀ j, j < i → sh y (j + 1) ≠ sh y j) ∧ m = 50 - (sh y i).sum ∧ ρ = [yA y, .own (shL y (i + 1)), .own ((sh y (i + 1)).map nI)], ⟨_, 0, fun j hj => by omega, rfl, rfl⟩, ?_⟩
  rintro m ρ ⟨i, un, rfl, rfl⟩
  walk_at "wz"
  refine ⟨_, shL_last y i, ?_⟩
  walk_at "wz"
  refine ⟨shaped_names _, shaped_names _, ?_⟩
  rw [eqv_names]
  walk_at "wz"
  have l : (shL y (i + 1)).length = i + 1 := by simp [shL]
  have su : i ≤ (sh y i).sum := by
    clear l
    induction i with
    | zero => exact Nat.zero_le _
    | succ i ih =>
      have h1 := ih fun j hj => un j (by omega)
      have h2 := sh_more (un i (by omega))
      omega
  have s49 := sh_sum y ok i
  refine ⟨fun z => ⟨sz_lt (by omega), y, sh y (i + 1), rfl, ok, sh_len y _, ?_⟩, fun z => ?_⟩
  · have ne : sh y (i + 1) ≠ sh y i := by simpa using z
    walk_at "wz"
    refine ⟨_, rfl, numb_looks y ok _, ?_⟩
    walk_at "wz"
    refine ⟨50 - (sh y (i + 1)).sum, by have := sh_more ne; omega, i + 1, fun j hj => ?_, rfl, ?_⟩
    · rcases Nat.lt_succ_iff_lt_or_eq.mp hj with q | q
      · exact un j q
      · rw [q]; exact ne
    · rw [shL_succ y (i + 1)]
      rfl
  · exact hQ i ⟨by simpa using z, un⟩
def spShades : Spc := fun as Q => ∃ y : Y, as = [yA y] ∧ y.Ok ∧ ∀ r, LastR y r → Q (.d (NL (sh y r)))
theorem c_shades (T : Txt K mg C) : Cal P w K mg base C "shades" 6 spShades := by
  have c_rounds := c_rounds (P := P) (w := w) (base := base) T
  refine cal_of T.d_shades sc_shades (fun as Q h => by obtain ⟨_, rfl, _⟩ := h; rfl) fun f cdv A0 outer s H E hr G F as Q hs => ?_
  obtain ⟨y, rfl, ok, hQ⟩ := hs
  refine ⟨_, _, (pss_oneA (ps_retA (pd_ix (K := K) (pd_call c_rounds hr (by omega) (pda_cons (pd_var 0) pda_nil)) (pd_neg pd_int)))), ?_⟩
  walk_at "wz"
  refine ⟨y, rfl, ok, fun r hr => ?_⟩
  walk_at "wz"
  refine ⟨_, shL_last y r, ?_⟩
  walk_at "wz"
  exact hQ r hr

/-! ### shades go along with renamings -/
theorem srt_perm {xs ys : List PyData} (h : xs.Perm ys) (hx : ∀ x ∈ xs, isP x) : srt xs = srt ys := by
  have p1 := List.mergeSort_perm xs leD
  have p2 := List.mergeSort_perm ys leD
  refine List.Perm.eq_of_pairwise (le := fun a b => leD a b = true) (fun a b ha hb h1 h2 => ?_) (sorted_leD xs) (sorted_leD ys) (p1.trans (h.trans p2.symm))
  have ia := hx a (p1.mem_iff.mp ha)
  have ib := hx b (h.mem_iff.mpr (p2.mem_iff.mp hb))
  have e := PyProof.Rows.lex_total (O := PyProof.Rows.itemOrd) _ _ ((leD_iff b a).mp h2) ((leD_iff a b).mp h1)
  have ev := toks_iff (alike_isP ia ib)
  rw [decide_eq_true e] at ev
  obtain ⟨x, z, rfl⟩ := ia
  obtain ⟨u, v, rfl⟩ := ib
  exact (eqv_iff _ _ (by simp [plainD, plainAll]) (by simp [plainD, plainAll])).mp ev
theorem map_get {n : Nat} {l : List Nat} (h : Nm n l) : (List.range n).map (fun q => l.getD q 0) = l := by
  refine List.ext_getElem (by simp [h.len]) fun i h1 h2 => ?_
  rw [List.getElem_map, List.getElem_range, List.getD_eq_getElem?_getD, List.getElem?_eq_getElem h2]
  rfl
theorem range_perm {n : Nat} {l : List Nat} (h : Nm n l) : (List.range n).Perm l := (List.perm_ext_iff_of_nodup List.nodup_range h.nd).mpr fun a => ⟨fun z => h.mem (List.mem_range.mp z), fun z => List.mem_range.mpr (h.lt a z)⟩
theorem tie_iso {y1 y2 : Y} {l s1 s2 : List Nat} (h : IsoF y1 y2 l) (hn : y1.n = y2.n) (hs : ∀ q, q < y1.n → s2.getD (l.getD q 0) 0 = s1.getD q 0) {p : Nat} (hp : p < y1.n) : (tieS y2 s2 (l.getD p 0)).Perm (tieS y1 s1 p) := by
  have e : (l.filter fun q => decide (0 < y2.k (l.getD p 0) q)).map (fun q => PyData.tuple [.int (y2.k (l.getD p 0) q), nI (s2.getD q 0)]) = tieS y1 s1 p := by
    conv => lhs; rw [← map_get h.nm, map_get h.nm]
    rw [tieS]
    generalize hg : (fun q => PyData.tuple [.int (y2.k (l.getD p 0) q), nI (s2.getD q 0)]) = g
    generalize hf : (fun q => decide (0 < y2.k (l.getD p 0) q)) = f
    rw [← map_get h.nm, List.filter_map, List.map_map]
    subst hg
    subst hf
    have e1 : (List.range y1.n).filter ((fun q => decide (0 < y2.k (l.getD p 0) q)) ∘ fun q => l.getD q 0) = (List.range y1.n).filter fun q => decide (0 < y1.k p q) := by
      refine List.filter_congr fun q hq => ?_
      show decide (0 < y2.k (l.getD p 0) (l.getD q 0)) = _
      rw [← h.k p q hp (List.mem_range.mp hq)]
    rw [e1]
    refine List.map_congr_left fun q hq => ?_
    have hq := List.mem_range.mp (List.mem_filter.mp hq).1
    show PyData.tuple [.int (y2.k (l.getD p 0) (l.getD q 0)), nI (s2.getD (l.getD q 0) 0)] = _
    rw [← h.k p q hp hq, hs q hq]
  rw [← e, tieS, ← hn]
  exact ((range_perm h.nm).filter _).map _
theorem look_iso {y1 y2 : Y} {l s1 s2 : List Nat} (h : IsoF y1 y2 l) (hn : y1.n = y2.n) (hs : ∀ q, q < y1.n → s2.getD (l.getD q 0) 0 = s1.getD q 0) {p : Nat} (hp : p < y1.n) : lookT y2 s2 (l.getD p 0) = lookT y1 s1 p := by
  rw [lookT, lookT, hs p hp, srt_perm (tie_iso h hn hs hp) tie_isP]
theorem sh_of_key {y1 y2 : Y} {l : List Nat} (h : IsoF y1 y2 l) (hn : y1.n = y2.n) {i : Nat} (hk : ∀ p, p < y1.n → keyS y2 i (l.getD p 0) = keyS y1 i p) {p : Nat} (hp : p < y1.n) : (sh y2 i).getD (l.getD p 0) 0 = (sh y1 i).getD p 0 := by
  have hl := h.nm.get_lt hp
  rw [sh_at (by rw [← hn]; exact hl), sh_at hp, hk p hp]
  refine rkT_congr (fun k => ?_) _
  rw [List.mem_map, List.mem_map]
  constructor
  · rintro ⟨q, hq, rfl⟩
    have hq : q < y1.n := by rw [hn]; exact List.mem_range.mp hq
    refine ⟨l.idxOf q, List.mem_range.mpr (h.nm.idx_lt hq), ?_⟩
    rw [← hk _ (h.nm.idx_lt hq), h.nm.get_idx hq]
  · rintro ⟨q, hq, rfl⟩
    have hq := List.mem_range.mp hq
    exact ⟨l.getD q 0, List.mem_range.mpr (by rw [← hn]; exact h.nm.get_lt hq), hk q hq⟩
theorem key_iso {y1 y2 : Y} {l : List Nat} (h : IsoF y1 y2 l) (hn : y1.n = y2.n) : ∀ i p, p < y1.n → keyS y2 i (l.getD p 0) = keyS y1 i p
  | 0, p, hp => by rw [keyS, keyS, ← h.m p hp]
  | i + 1, p, hp => by
    rw [keyS, keyS, look_iso h hn (fun q hq => sh_of_key h hn (key_iso h hn i) hq) hp]
theorem sh_iso {y1 y2 : Y} {l : List Nat} (h : IsoF y1 y2 l) (hn : y1.n = y2.n) (i : Nat) {p : Nat} (hp : p < y1.n) : (sh y2 i).getD (l.getD p 0) 0 = (sh y1 i).getD p 0 := sh_of_key h hn (key_iso h hn i) hp
theorem list_ext_getD {l m : List Nat} (e : l.length = m.length) (h : ∀ p, p < l.length → l.getD p 0 = m.getD p 0) : l = m := by
  refine List.ext_getElem e fun i h1 h2 => ?_
  have := h i h1
  rwa [List.getD_eq_getElem?_getD, List.getElem?_eq_getElem h1, List.getD_eq_getElem?_getD, List.getElem?_eq_getElem h2] at this
theorem sh_turn {y : Y} {t : List Nat} (h : IsoF y y t) (i : Nat) : t.map (fun q => (sh y i).getD q 0) = sh y i := by
  refine list_ext_getD (by rw [List.length_map, sh_len, h.nm.len]) fun p hp => ?_
  rw [List.length_map, h.nm.len] at hp
  rw [← sh_iso h rfl i hp, List.getD_eq_getElem?_getD, List.getElem?_map, List.getD_eq_getElem?_getD (l := t), List.getElem?_eq_getElem (by rw [h.nm.len]; exact hp)]
  rfl
theorem ren_iso {y : Y} {ns : List Nat} (hn : Nm y.n ns) : IsoF y (ren y ns) ns where
  nm := hn
  m := fun i hi => by show _ = y.m (ns.idxOf (ns.getD i 0)); rw [hn.idx_get hi]
  k := fun e i he hi => by show _ = y.k (ns.idxOf (ns.getD e 0)) (ns.idxOf (ns.getD i 0)); rw [hn.idx_get he, hn.idx_get hi]
theorem stay_iff {y1 y2 : Y} {l : List Nat} (h : IsoF y1 y2 l) (hn : y1.n = y2.n) (i j : Nat) : sh y2 i = sh y2 j ↔ sh y1 i = sh y1 j := by
  constructor
  · intro e
    refine list_ext_getD (by rw [sh_len, sh_len]) fun p hp => ?_
    rw [sh_len] at hp
    rw [← sh_iso h hn i hp, ← sh_iso h hn j hp, e]
  · intro e
    refine list_ext_getD (by rw [sh_len, sh_len]) fun q hq => ?_
    rw [sh_len, ← hn] at hq
    have := h.nm.get_idx hq
    have hp := h.nm.idx_lt hq
    rw [← this, sh_iso h hn i hp, sh_iso h hn j hp, e]
theorem LastR.ren {y : Y} {ns : List Nat} (hn : Nm y.n ns) {r : Nat} (h : LastR y r) : LastR (ren y ns) r where
  st := (stay_iff (ren_iso hn) rfl _ _).mpr h.st
  un := fun j hj e => h.un j hj ((stay_iff (ren_iso hn) rfl _ _).mp e)
theorem kin_same {y : Y} (ok : y.Ok) (i : Nat) {g : List Nat} (hg : g ∈ kinD y) : (∀ q ∈ g, q < y.n) ∧ ∃ (c : Int) (n : Nat), g.map (fun q => nI ((sh y i).getD q 0)) = List.replicate (n + 1) (PyData.int c) ∧ n < 60 := by
  obtain ⟨r, hr, rfl⟩ := List.mem_map.mp hg
  have hr := (mem_reps.mp hr).1
  refine ⟨fun q hq => (orbit_mem.mp hq).1, ((sh y i).getD r 0 : Nat), (orbit y r).length - 1, ?_⟩
  have pos : 0 < (orbit y r).length := List.length_pos_of_mem (orbit_mem.mpr ⟨hr, rel_refl ok hr⟩)
  have le : (orbit y r).length ≤ y.n := Nat.le_trans (List.length_filter_le _ _) (by simp)
  have h7 := ok.n7
  refine ⟨List.eq_replicate_iff.mpr ⟨by rw [List.length_map]; omega, fun b hb => ?_⟩, by omega⟩
  obtain ⟨q, hq, rfl⟩ := List.mem_map.mp hb
  obtain ⟨hq1, hq2⟩ := orbit_mem.mp hq
  obtain ⟨t, ht, e⟩ := rel_iff.mp hq2
  rw [← e, sh_iso ((isoF_iff ok ok).mp ht) rfl i hr]

local macro_rules | `(tactic| walk_at "wz") => `(tactic| ((walk_at "wp"); (try simp only [e_index, lxK_o, lxK_b, lxK_d, dxK_o, dxK_b, dxK_d, e_guard, e_ei, e_ssN, sortSetA_o, sortSetA_d, ssN_o, ssN_d, sortDA_o, sortDA_d, sortDA_b, e_clrF, clrFK_l, e_clr1, clr1K_l]); (walk_at "wp"); (try simp only [e_index, lxK_o, lxK_b, lxK_d, dxK_o, dxK_b, dxK_d, e_guard, e_ei, e_ssN, sortSetA_o, sortSetA_d, ssN_o, ssN_d, sortDA_o, sortDA_d, sortDA_b, e_clrF, clrFK_l, e_clr1, clr1K_l]); (walk_at "wp"); (try simp only [e_index, lxK_o, lxK_b, lxK_d, dxK_o, dxK_b, dxK_d, e_guard, e_ei, e_ssN, sortSetA_o, sortSetA_d, ssN_o, ssN_d, sortDA_o, sortDA_d, sortDA_b, e_clrF, clrFK_l, e_clr1, clr1K_l]); (walk_at "wp")))
/-! ### the law -/
theorem shN_len (y : Y) (i : Nat) : (shL y i).length = i := by simp [shL]
theorem shL_at (y : Y) {i k : Nat} (h : k < i) : atI (shL y i) (k : Int) = some (NL (sh y k)) := by
  rw [shL, atI_map, atI_range h]
  rfl
theorem run_le {y : Y} (ok : y.Ok) {k : Nat} (h : ∀ j, j < k → sh y (j + 1) ≠ sh y j) : k ≤ 49 := by
  have : k ≤ (sh y k).sum := by
    induction k with
    | zero => exact Nat.zero_le _
    | succ k ih =>
      have h1 := ih fun j hj => h j (by omega)
      have h2 := sh_more (h k (by omega))
      omega
  exact Nat.le_trans this (sh_sum y ok k)
theorem c_law {f : Addr} {fd : FuncData} (T : Txt K mg C) (D : ∃ (f : Addr) (fd : FuncData), Fun K "__init__" "Yard.__init__" s_Yard_init f fd ∧ Mk K C f ∧ Binds K fd p_Yard_init []) (F : Fun K "law" "law" s_law f fd) : FnOk P w K mg base CX0 90 f fd p_law (spLaw K) := by
  obtain ⟨fb, fdb, FB, mgb, kpb, bdb⟩ := c_law_box (P := P) (w := w) (base := base) T
  have cI := c_init (P := P) (w := w) (base := base) T D
  have c_law_drawn := c_law_drawn (P := P) (w := w) (base := base) T
  have c_law_names := c_law_names (P := P) (w := w) (base := base) T
  have c_law_renamed := c_law_renamed (P := P) (w := w) (base := base) T
  have c_law_all := c_law_all (P := P) (w := w) (base := base) T
  have c_rounds := c_rounds (P := P) (w := w) (base := base) T
  have c_shades := c_shades (P := P) (w := w) (base := base) T
  have c_kin := c_kin (P := P) (w := w) (base := base) T cI
  refine F.ok sc_law (fun vs H Q E h => by obtain ⟨a, ns, rfl, _⟩ := h; rfl) (fun cdv A0 outer s H vs Q E hr h => ?_)
  obtain ⟨a, ns, rfl, hS, hz, hQ⟩ := h
  have d := fun (b l : Addr) (H' : Hp) => ((pss_consA (ps_setA (i := 2) sc_law.nd (pd_call c_law_drawn hr (by omega) (pda_cons (pd_var 1) (pda_cons pd_int pda_nil))))
  (pss_consA (ps_setA (i := 3) sc_law.nd (pd_call c_law_names hr (by omega) (pda_cons (pd_var 1) (pda_cons (pd_len (K := K) T.len (pda_cons (pd_ix (K := K) (pd_var 2) pd_int) pda_nil)) pda_nil))))
  (pss_consA (ps_setA (i := 4) sc_law.nd (pd_call c_law_renamed hr (by omega) (pda_cons (pd_var 2) (pda_cons (pd_var 3) pda_nil))))
  (pss_consA (ps_setA (i := 5) sc_law.nd (pd_make cI hr (by omega) (pda_cons (pd_ix (K := K) (pd_var 2) pd_int) (pda_cons (pd_ix (K := K) (pd_var 2) pd_int) pda_nil))))
  (pss_consA (ps_setA (i := 6) sc_law.nd (pd_call c_rounds hr (by omega) (pda_cons (pd_var 5) pda_nil)))
  (pss_consA (ps_setA (i := 7) sc_law.nd (pd_call c_rounds hr (by omega) (pda_cons (pd_make cI hr (by omega) (pda_cons (pd_ix (K := K) (pd_var 4) pd_int) (pda_cons (pd_ix (K := K) (pd_var 4) pd_int) pda_nil))) pda_nil)))
  (pss_consA (ps_guard (pt_bor 7 (pt_bor 6 (pt_ne (K := K) hr (pd_len (K := K) T.len (pda_cons (pd_var 6) pda_nil)) (pd_len (K := K) T.len (pda_cons (pd_var 7) pda_nil))))) (pss_oneA (ps_retA pd_bl)))
  (pss_consA (ps_forA (pi_range1A T.range (pda_cons (pd_len (K := K) T.len (pda_cons (pd_var 6) pda_nil)) pda_nil)) (pg_nameA 8 sc_law.nd) (pss_oneA (ps_forA (pi_range1A T.range (pda_cons (pd_len (K := K) T.len (pda_cons (pd_var 3) pda_nil)) pda_nil)) (pg_nameA 9 sc_law.nd) (pss_oneA (ps_guard (pt_bor 7 (pt_bor 6 (pt_ne (K := K) hr (pd_ix (K := K) (pd_ix (K := K) (pd_var 6) (pd_var 8)) (pd_var 9)) (pd_ix (K := K) (pd_ix (K := K) (pd_var 7) (pd_var 8)) (pd_ix (K := K) (pd_var 3) (pd_var 9)))))) (pss_oneA (ps_retA pd_bl)))) PassesOwn.never)) PassesOwn.never)
  (pss_consA (ps_setA (i := 10) sc_law.nd (pd_call c_shades hr (by omega) (pda_cons (pd_var 5) pda_nil)))
  (pss_consA (ps_forA (pi_listA (K := K) (pd_call c_kin hr (by omega) (pda_cons (pd_var 5) pda_nil))) (pg_nameA 11 sc_law.nd) (pss_oneA (ps_guard (pt_ne (K := K) hr (pd_lenSet (K := K) rfl T.len T.set (pd_lc [("_law_place", 9)] sc_law.nd (pi_listA (K := K) (pd_var 11)) (blkOk_by (N := n_law) (sc := defScope s_law) (by decide +kernel)) (fun _ _ _ _ _ => (pg_nameA 9 sc_law.nd)) (fun _ _ _ _ _ => pts_nilA) (fun _ _ _ _ _ => (pd_ix (K := K) (pd_var 10) (pd_var 9))) (gw_name (by decide)))) pd_int) (pss_oneA (ps_retA pd_bl)))) PassesOwn.never)
  (pss_consA (ps_ifA (pt_gt (pd_len (K := K) T.len (pda_cons (pd_var 3) pda_nil)) pd_int) (pss_oneA (ps_retA (pd_eq (K := K) hr (pd_var 10) (pd_ix (K := K) (pd_var 6) (pd_neg pd_int))))) pss_nilA)
  (pss_consA (ps_forA (pi_listA (K := K) (pd_call c_law_all hr (by omega) (pda_cons (pd_var 2) (pda_cons (pd_var 2) (pda_cons (pd_lst pda_nil) pda_nil))))) (pg_nameA 12 sc_law.nd) (pss_oneA (ps_guard (pt_ne (K := K) hr (pd_lc [("_law_place", 9)] sc_law.nd (pi_listA (K := K) (pd_var 12)) (blkOk_by (N := n_law) (sc := defScope s_law) (by decide +kernel)) (fun _ _ _ _ _ => (pg_nameA 9 sc_law.nd)) (fun _ _ _ _ _ => pts_nilA) (fun _ _ _ _ _ => (pd_ix (K := K) (pd_var 10) (pd_var 9))) (gw_name (by decide))) (pd_var 10)) (pss_oneA (ps_retA pd_bl)))) PassesOwn.never)
  (pss_oneA (ps_retA (pd_eq (K := K) hr (pd_var 10) (pd_ix (K := K) (pd_var 6) (pd_neg pd_int))))))))))))))))) : PDSs (cxOf CX0 P w K mg base n_law "law" (defScope s_law) f cdv A0 outer s H E).nox ⟨⟨some (b, l), fun _ => none⟩, C, fun _ => none, H'⟩ (defBody s_law).tail _ _)
  refine ⟨_, pss_cons (ps_set (i := 1) sc_law.nd rfl (Or.inl rfl) (pe_call FB (hr.mono (by decide)) (by rfl) mgb kpb bdb .nil pass0 (pa_cons (pv 0) pa_nil))) (d 0 0 fun _ => none).ps, ?_⟩
  refine ⟨_, rfl, a, ns, rfl, hS, hz, fun b l H' hb hl bx same => ?_⟩
  refine law_rest (H := H) (n := 11) hQ bx (d b l H') ?_
  clear d
  walk_at "wz"
  refine ⟨7, rfl, by decide, by decide, fun y ok _ => ?_⟩
  have h7 := ok.n7
  have n1 := ok.n1
  walk_at "wz"
  refine ⟨_, rfl, ?_⟩
  walk_at "wz"
  refine ⟨y.n, rfl, h7, fun nm e1 e2 e3 => ?_⟩
  have hn : Nm y.n nm := ⟨e1, e2, e3⟩
  have ok2 := ren_ok ok hn
  walk_at "wz"
  refine ⟨y, nm, rfl, ok, hn, ?_⟩
  walk_at "wz"
  refine ⟨_, rfl, _, rfl, y.n, y.m, y.ties, rfl, ok.n1, ok.n7, ok.m0, ok.tok, ?_⟩
  rw [ok.kl]
  refine ⟨y, rfl, ok, fun r hr => ?_⟩
  walk_at "wz"
  refine ⟨_, rfl, _, rfl, (ren y nm).n, (ren y nm).m, (ren y nm).ties, rfl, ok2.n1, ok2.n7, ok2.m0, ok2.tok, ?_⟩
  rw [ok2.kl]
  refine ⟨ren y nm, rfl, ok2, fun r' hr' => ?_⟩
  have := hr'.one (hr.ren hn)
  subst this
  have r49 := run_le ok hr.un
  walk_at "wz"
  simp only [shN_len, hn.len]
  refine ⟨by simp, by omega, by omega, fun i ρ => ∃ a8 a9, ρ = [.un, .box, .d (rowsD y), .d (NL nm), .d (rowsD (ren y nm)), yA y, .own (shL y (r' + 1)), .own (shL (ren y nm) (r' + 1)), a8, a9, .un, .un, .un], ⟨_, _, rfl⟩, fun k d ρ hd hI => ?_, fun ρ hI => ?_⟩
  · obtain ⟨hk, rfl⟩ := rgD0_get hd
    obtain ⟨a8, a9, rfl⟩ := hI
    walk_at "wz"
    simp only [hn.len]
    refine ⟨by omega, by omega, fun i ρ => ∃ a9, ρ = [.un, .box, .d (rowsD y), .d (NL nm), .d (rowsD (ren y nm)), yA y, .own (shL y (r' + 1)), .own (shL (ren y nm) (r' + 1)), .d (nI k), a9, .un, .un, .un], ⟨_, rfl⟩, fun p d ρ hd hI => ?_, fun ρ hI => ?_⟩
    · obtain ⟨hp, rfl⟩ := rgD0_get hd
      obtain ⟨a9, rfl⟩ := hI
      walk_at "wz"
      refine ⟨⟨_, shL_at y hk, ?_⟩, _, rfl⟩
      walk_at "wz"
      refine ⟨_, at_names (show p < (sh y k).length by rw [sh_len]; exact hp), _, shL_at (ren y nm) hk, _, at_names (show p < nm.length by rw [hn.len]; exact hp), ?_⟩
      walk_at "wz"
      refine ⟨_, at_names (show nm.getD p 0 < (sh (ren y nm) k).length by rw [sh_len]; exact hn.get_lt hp), ?_⟩
      rw [sh_iso (ren_iso hn) rfl k hp]
      walk_at "wz"
      simp
    obtain ⟨a9, rfl⟩ := hI
    walk_at "wz"
    exact ⟨_, _, rfl⟩
  obtain ⟨a8, a9, rfl⟩ := hI
  walk_at "wz"
  refine ⟨y, rfl, ok, fun r2 hr2 => ?_⟩
  have := hr2.one hr
  subst this
  walk_at "wz"
  refine ⟨y, rfl, ok, ?_⟩
  walk_at "wz"
  refine ⟨fun i ρ => ∃ a8 a9 a11, ρ = [.un, .box, .d (rowsD y), .d (NL nm), .d (rowsD (ren y nm)), yA y, .own (shL y (r2 + 1)), .own (shL (ren y nm) (r2 + 1)), a8, a9, .d (NL (sh y r2)), a11, .un], ⟨_, _, _, rfl⟩, fun k d ρ hd hI => ?_, fun ρ hI => ?_⟩
  · rw [List.getElem?_map] at hd
    obtain ⟨g, eg, rfl⟩ := Option.map_eq_some_iff.mp hd
    obtain ⟨gl, c, m, ge, gm⟩ := kin_same ok r2 (List.mem_of_getElem? eg)
    obtain ⟨a8, a9, a11, rfl⟩ := hI
    walk_at "wz"
    simp only [e_lenSet]
    walk_at "wz"
    refine ⟨⟨fun i acc => acc = (g.take i).map fun q => nI ((sh y r2).getD q 0), rfl, fun i d acc hd hI => ⟨fun _ => ?_, fun z => (by cases z)⟩, ?_⟩, _, _, _, rfl⟩
    · rw [List.getElem?_map] at hd
      obtain ⟨q, eq, rfl⟩ := Option.map_eq_some_iff.mp hd
      subst hI
      have hq := gl q (List.mem_of_getElem? eq)
      walk_at "wz"
      refine ⟨_, at_names (show q < (sh y r2).length by rw [sh_len]; exact hq), ?_⟩
      walk_at "wz"
      have gn := congrArg List.length ge
      rw [List.length_map, List.length_replicate] at gn
      refine ⟨sz_lt (by rw [List.length_take]; omega), ?_⟩
      rw [List.take_succ, eq]
      simp
    rintro acc rfl
    rw [List.take_of_length_le (Nat.le_refl _), ge, lenSetA_o]
    refine ⟨c, m, rfl, gm, ?_⟩
    walk_at "wz"
    try simp
  obtain ⟨a8, a9, a11, rfl⟩ := hI
  walk_at "wz"
  have fin : ∀ Q : A → Prop, Q (.d (.bool true)) → eqA (.d (NL (sh y r2))) (.d (NL (sh y r2))) Q := fun Q q => by
    refine ⟨shaped_names _, shaped_names _, ?_⟩
    rw [eqv_names, decide_eq_true rfl]
    exact q
  refine ⟨fun _ => ⟨_, shL_last y r2, fin _ ?_⟩, fun _ => ⟨by decide, y, y, rfl, ok, ok, fun z => absurd rfl z, fun _ => ?_⟩⟩
  · walk_at "wz"
  walk_at "wz"
  refine ⟨fun i ρ => ∃ a8 a9 a11 a12, ρ = [.un, .box, .d (rowsD y), .d (NL nm), .d (rowsD (ren y nm)), yA y, .own (shL y (r2 + 1)), .own (shL (ren y nm) (r2 + 1)), a8, a9, .d (NL (sh y r2)), a11, a12], ⟨_, _, _, _, rfl⟩, fun k d ρ hd hI => ?_, fun ρ hI => ?_⟩
  · rw [List.getElem?_map] at hd
    obtain ⟨t, et, rfl⟩ := Option.map_eq_some_iff.mp hd
    have it := (isoF_iff ok ok).mp (List.mem_of_getElem? et)
    obtain ⟨a8, a9, a11, a12, rfl⟩ := hI
    walk_at "wz"
    refine ⟨⟨fun i acc => acc = (t.take i).map fun q => nI ((sh y r2).getD q 0), rfl, fun i d acc hd hI => ⟨fun _ => ?_, fun z => (by cases z)⟩, ?_⟩, _, _, _, _, rfl⟩
    · rw [List.getElem?_map] at hd
      obtain ⟨q, eq, rfl⟩ := Option.map_eq_some_iff.mp hd
      subst hI
      have hq := it.nm.lt q (List.mem_of_getElem? eq)
      have hl := it.nm.len
      walk_at "wz"
      refine ⟨_, at_names (show q < (sh y r2).length by rw [sh_len]; exact hq), ?_⟩
      walk_at "wz"
      refine ⟨sz_lt (by rw [List.length_take]; omega), ?_⟩
      rw [List.take_succ, eq]
      simp
    rintro acc rfl
    have e : (t.map fun q => nI ((sh y r2).getD q 0)) = (sh y r2).map nI := by
      conv => rhs; rw [← sh_turn it r2]
      rw [List.map_map]
      rfl
    rw [List.take_of_length_le (Nat.le_refl _), e]
    walk_at "wz"
    refine ⟨shaped_names _, shaped_names _, ?_⟩
    rw [eqv_names, decide_eq_true rfl]
    walk_at "wz"
    try simp
  obtain ⟨a8, a9, a11, a12, rfl⟩ := hI
  walk_at "wz"
  refine ⟨_, shL_last y r2, fin _ ?_⟩
  walk_at "wz"

section
set_option maxRecDepth 100000
theorem fin {l : PySem.W.OpenLaw} {w : World} {K : PySem.W.Frag} {h : Heap} {mg : Str → Option Value} {fa C f : Addr} {oc : Value} {od an : Option Addr} {osl : Array (Option Value)} {kV doc pm cdv ct : Value} (X : K.In h) (G : h.Ns mainGlobals mg) (hfa : mg "law" = some (.ref fa))
    (a : PySem.W.nsIn K mainGlobals "law" = some (some (.ref f))) (l1 : K.lookup f = some ⟨oc, od, .func (PySem.W.fnOf "law" "law" (defArgs s_law) (defBody s_law) (defScope s_law) .none kV doc pm an cdv ct), osl⟩) (c : PySem.W.codeIn K cdv "law" = true) (k : PySem.W.keepIn K (.ref f) = true)
    (aC : PySem.W.nsIn K mainGlobals "Yard" = some (some (.ref C))) (T : Txt K mg C) (D : Ini K C "Yard.__init__" s_Yard_init p_Yard_init) :
    ∃ fd : FuncData, (∀ (s : Shared) (v : Value), BindsTo s fd ⟨[v], []⟩ [("_law_script", v)]) ∧ ∀ base : Heap, K.In base → base.Ns mainGlobals mg → FnOk l.prog w K mg base CX0 90 fa fd ["_law_script"] (spLaw K) := by
  have e := hfa.symm.trans (PySem.W.mg_of X G a)
  cases e
  have F := fun_mk (st := s_law) l1 c k
  exact ⟨_, fun s v => .of_eq rfl, fun base _ _ => c_law (P := l.prog) (w := w) (base := base) T D.ex F⟩
end
end Yd
open PySem PySem.W PyProof.Rows
set_option maxRecDepth 100000 in
set_option maxHeartbeats 0 in
theorem PySem.Challenge.cw_sameyard_k09_whole_shades_go_along_holds : PySem.Challenge.rw_sameyard_k09_whole_shades_go_along.Holds := by
  w_on; o_law; k_head; (case hw => w_witness2)
  k_fill
  refine L2.walk_of (l := PySem.Challenge.rw_sameyard_k09_whole_shades_go_along) (n := 63) (k := 90) (x := "_law_script") (CX := fun _ => L2.CX0) (sp := fun w => Yd.spLaw _) rfl (by decide) rfl ⟨rfl, by decide, by decide⟩ (fun w h Y => PySem.W.kIn_of Y) ?F (fun _ _ a ns hl _ hS => ⟨a, ns, rfl, hS, hl, fun _ => rfl⟩) fun _ _ _ _ _ z => z
  case F =>
    intro w mg fa h KX GG hmg
    refine' Yd.fin KX GG hmg ?a4 ?l4 ?c4 ?k4 ?aC ?T ?D
    (case a4 => k_is); (case l4 => k_is); (case c4 => k_is); (case k4 => k_is); (case aC => k_is)
    (case T => exact {
      mg_Yard := PySem.W.mg_of KX GG (by k_is)
      int := PySem.W.mg_none_of KX GG (by k_is)
      len := PySem.W.mg_none_of KX GG (by k_is)
      list := PySem.W.mg_none_of KX GG (by k_is)
      max := PySem.W.mg_none_of KX GG (by k_is)
      min := PySem.W.mg_none_of KX GG (by k_is)
      range := PySem.W.mg_none_of KX GG (by k_is)
      set := PySem.W.mg_none_of KX GG (by k_is)
      sorted := PySem.W.mg_none_of KX GG (by k_is)
      tuple := PySem.W.mg_none_of KX GG (by k_is)
      cY := ⟨by k_is, by k_is, by k_is, by k_is⟩
      n_marked := Yd.noattr_mk (by k_is)
      n_kinds := Yd.noattr_mk (by k_is)
      mkY := by k_is
      kpY := by k_is
      mg_MOST_PLACES := ⟨_, PySem.W.mg_of KX GG (by k_is)⟩
      mg_MOST_NUMBER := ⟨_, PySem.W.mg_of KX GG (by k_is)⟩
      d_numbered := Yd.dfn_mk KX GG (fun _ _ _ _ _ _ us hl => match us, hl with | [_], _ => rfl) (by k_is) (by k_is) (by k_is) (by k_is)
      d_looks_of := Yd.dfn_mk KX GG (fun _ _ _ _ _ _ us hl => match us, hl with | [_, _], _ => rfl) (by k_is) (by k_is) (by k_is) (by k_is)
      d_rounds := Yd.dfn_mk KX GG (fun _ _ _ _ _ _ us hl => match us, hl with | [_], _ => rfl) (by k_is) (by k_is) (by k_is) (by k_is)
      d_shades := Yd.dfn_mk KX GG (fun _ _ _ _ _ _ us hl => match us, hl with | [_], _ => rfl) (by k_is) (by k_is) (by k_is) (by k_is)
      d_must_be := Yd.dfn_mk KX GG (fun _ _ _ _ _ _ us hl => match us, hl with | [_, _, _], _ => rfl) (by k_is) (by k_is) (by k_is) (by k_is)
      d_Yard_init := Yd.mfn_mk (fun _ _ _ _ _ _ us hl => match us, hl with | [_, _, _], _ => rfl) (by k_is) (by k_is) (by k_is) (by k_is) (by k_is)
      d_Yard_many := Yd.mfn_mk (fun _ _ _ _ _ _ us hl => match us, hl with | [_], _ => rfl) (by k_is) (by k_is) (by k_is) (by k_is) (by k_is)
      d_Yard_marks := Yd.mfn_mk (fun _ _ _ _ _ _ us hl => match us, hl with | [_], _ => rfl) (by k_is) (by k_is) (by k_is) (by k_is) (by k_is)
      d_Yard_ties := Yd.mfn_mk (fun _ _ _ _ _ _ us hl => match us, hl with | [_], _ => rfl) (by k_is) (by k_is) (by k_is) (by k_is) (by k_is)
      d_Yard_need_place := Yd.mfn_mk (fun _ _ _ _ _ _ us hl => match us, hl with | [_, _], _ => rfl) (by k_is) (by k_is) (by k_is) (by k_is) (by k_is)
      d_clash := Yd.dfn_mk KX GG (fun _ _ _ _ _ _ us hl => match us, hl with | [_, _, _, _, _], _ => rfl) (by k_is) (by k_is) (by k_is) (by k_is)
      d_first := Yd.dfn_mk KX GG (fun _ _ _ _ _ _ us hl => match us, hl with | [_, _, _], _ => rfl) (by k_is) (by k_is) (by k_is) (by k_is)
      d_led_on := Yd.dfn_mk KX GG (fun _ _ _ _ _ _ us hl => match us, hl with | [_, _, _], _ => rfl) (by k_is) (by k_is) (by k_is) (by k_is)
      d_cases := Yd.dfn_mk KX GG (fun _ _ _ _ _ _ us hl => match us, hl with | [_, _, _], _ => rfl) (by k_is) (by k_is) (by k_is) (by k_is)
      d_moved_ahead := Yd.dfn_mk KX GG (fun _ _ _ _ _ _ us hl => match us, hl with | [_, _], _ => rfl) (by k_is) (by k_is) (by k_is) (by k_is)
      d_lead := Yd.dfn_mk KX GG (fun _ _ _ _ _ _ us hl => match us, hl with | [_, _, _], _ => rfl) (by k_is) (by k_is) (by k_is) (by k_is)
      d_kin := Yd.dfn_mk KX GG (fun _ _ _ _ _ _ us hl => match us, hl with | [_], _ => rfl) (by k_is) (by k_is) (by k_is) (by k_is)
      d_law_box := Yd.dfn_mk KX GG (fun _ _ _ _ _ _ us hl => match us, hl with | [_], _ => rfl) (by k_is) (by k_is) (by k_is) (by k_is)
      d_law_take := Yd.dfn_mk KX GG (fun _ _ _ _ _ _ us hl => match us, hl with | [_, _], _ => rfl) (by k_is) (by k_is) (by k_is) (by k_is)
      d_law_yard := Yd.dfn_mk KX GG (fun _ _ _ _ _ _ us hl => match us, hl with | [_, _], _ => rfl) (by k_is) (by k_is) (by k_is) (by k_is)
      d_law_even := Yd.dfn_mk KX GG (fun _ _ _ _ _ _ us hl => match us, hl with | [_], _ => rfl) (by k_is) (by k_is) (by k_is) (by k_is)
      d_law_drawn := Yd.dfn_mk KX GG (fun _ _ _ _ _ _ us hl => match us, hl with | [_, _], _ => rfl) (by k_is) (by k_is) (by k_is) (by k_is)
      d_law_names := Yd.dfn_mk KX GG (fun _ _ _ _ _ _ us hl => match us, hl with | [_, _], _ => rfl) (by k_is) (by k_is) (by k_is) (by k_is)
      d_law_renamed := Yd.dfn_mk KX GG (fun _ _ _ _ _ _ us hl => match us, hl with | [_, _], _ => rfl) (by k_is) (by k_is) (by k_is) (by k_is)
      d_law_kind := Yd.dfn_mk KX GG (fun _ _ _ _ _ _ us hl => match us, hl with | [_, _, _], _ => rfl) (by k_is) (by k_is) (by k_is) (by k_is)
      d_law_kinds := Yd.dfn_mk KX GG (fun _ _ _ _ _ _ us hl => match us, hl with | [_], _ => rfl) (by k_is) (by k_is) (by k_is) (by k_is)
      d_law_all := Yd.dfn_mk KX GG (fun _ _ _ _ _ _ us hl => match us, hl with | [_, _, _], _ => rfl) (by k_is) (by k_is) (by k_is) (by k_is)
      d_law := Yd.dfn_mk KX GG (fun _ _ _ _ _ _ us hl => match us, hl with | [_], _ => rfl) (by k_is) (by k_is) (by k_is) (by k_is) })
    (case D => exact Yd.ini_mk (fun _ _ _ _ _ _ us hl => match us, hl with | [_, _, _], _ => rfl) (by k_is) (by k_is) (by k_is) (by k_is) (by k_is) (by k_is) (by k_is))
