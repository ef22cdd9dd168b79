import PyProof.Rows.All
import HandS.ForExc
import HandS.ForMost
import HandS.IsInst
import HandS.SortInts
import HandS.SortRule
import HandS.Style
import KE.SortData
import OpenK.AllK
import Wide.All
import Wide.FinOn
import PySem.Challenge.RW_splitrooms_k04_a_room_parted
set_option Elab.async false
set_option linter.all false
set_option maxRecDepth 100000
set_option maxHeartbeats 4000000
/-! SP1: pure data, what a value stands for, growth of the heap, readings by plain functions. -/
namespace SP
open PySem PySem.Spec PyProof.Rows L2

/-- plain data -/
inductive P where
  | non | bl (b : Bool) | int (i : Int) | str (s : Str) | lst (xs : List P) | tup (xs : List P) | scr (ns : List Int)
/-- a store's fields -/
structure SO where
  bound : Int
  held : List (Key × P)
  sides : P
  deep : Int
/-- a store, and where it stands, if that matters -/
structure SX where
  d : SO
  me : Option Addr
/-- a handle that is only read, one of ours, one just made -/
inductive M where
  | ro | own | new
  deriving DecidableEq
/-- paths to lists of ours, and how long these may be -/
structure PL where
  l : List (List Nat)
  k : Nat
inductive D where
  | p (x : P) | hl (m : M) (xs : List P) | hd (m : M) (kvs : List (Key × P)) | ho (m : M) (S : SX)
  | gh (m : M) (x : Option P) (ps : PL)
  | hos (m : M) (Ss : List SO)
/-- what a computation comes to -/
inductive R (α : Type) where
  | ok (a : α) | ex (c : Nat) | bad
def R.bind {α β : Type} : R α → (α → R β) → R β
  | .ok a, k => k a
  | .ex c, _ => .ex c
  | .bad, _ => .bad
@[simp] theorem bind_ok {α β : Type} (a : α) (k : α → R β) : (R.ok a).bind k = k a := rfl
@[simp] theorem bind_ex {α β : Type} (c : Nat) (k : α → R β) : (R.ex c : R α).bind k = .ex c := rfl
@[simp] theorem bind_bad {α β : Type} (k : α → R β) : (R.bad : R α).bind k = .bad := rfl
@[simp] theorem bind_ite {α β : Type} {c : Prop} [Decidable c] (a b : R α) (k : α → R β) : (if c then a else b).bind k = if c then a.bind k else b.bind k := by split <;> rfl

/-- the ground: the written part, the class Store, the error classes by number -/
structure Gx where
  K : PySem.W.Frag
  C : Addr
  ec : Nat → Addr

mutual
inductive Rp (G : Gx) (T : Hp) : V → P → Prop where
  | non : Rp G T .non .non
  | bl (b : Bool) : Rp G T (.bl b) (.bl b)
  | int (i : Int) : Rp G T (.int i) (.int i)
  | str (s : Str) : Rp G T (.str s) (.str s)
  | lst {a : Addr} {vs : List V} {xs : List P} : T a = some (.lst vs) → RpL G T vs xs → Rp G T (.ref a) (.lst xs)
  | tup {a : Addr} {vs : List V} {xs : List P} : T a = some (.tup vs) → RpL G T vs xs → Rp G T (.ref a) (.tup xs)
  | scr {a : Addr} {ns : List Int} : SqL G.K T a (ns.map V.int) → Rp G T (.ref a) (.scr ns)
inductive RpL (G : Gx) (T : Hp) : List V → List P → Prop where
  | nil : RpL G T [] []
  | cons {v : V} {vs : List V} {x : P} {xs : List P} : Rp G T v x → RpL G T vs xs → RpL G T (v :: vs) (x :: xs)
end

/-- all that stands, stands on -/
def Ex (H H' : Hp) : Prop := ∀ a o, H a = some o → H' a = some o
theorem Ex.refl (H : Hp) : Ex H H := fun _ _ h => h
theorem Ex.trans {H H1 H2 : Hp} (a : Ex H H1) (b : Ex H1 H2) : Ex H H2 := fun x o h => b x o (a x o h)
theorem Ex.new {H : Hp} {p : Addr} {o : HO} (h : H p = none) : Ex H (upd H p o) := fun a u e => by
  rw [upd_ne (ne_of_none e h)]
  exact e
theorem Ex.free {H H' : Hp} {p : Addr} (e : Ex H H') (h : H' p = none) : H p = none := by
  cases h1 : H p with
  | none => rfl
  | some o => rw [e p o h1] at h; cases h
theorem Ex.upd {H H' : Hp} {p : Addr} {o : HO} (e : Ex H H') (h : H p = none) : Ex H (upd H' p o) := fun a u ha => by
  rw [upd_ne (ne_of_none ha h)]
  exact e a u ha
theorem Ex.seq {K : PySem.W.Frag} {H H' : Hp} {a : Addr} {xs : List V} (e : Ex H H') (h : SqL K H a xs) : SqL K H' a xs := by
  rcases h with (h | ⟨o, h⟩) | h
  · exact .inl (.inl (e _ _ h))
  · exact .inl (.inr ⟨o, e _ _ h⟩)
  · exact .inr h
theorem Ex.rd {H H' : Hp} {a : Addr} {u : HO} (e : Ex H H') (h : Rd H a u) : Rd H' a u := by
  rcases h with h | ⟨o, h⟩
  · exact .inl (e _ _ h)
  · exact .inr ⟨o, e _ _ h⟩

mutual
theorem Rp.mono {G : Gx} {T T' : Hp} (e : Ex T T') {v : V} {x : P} (h : Rp G T v x) : Rp G T' v x := by
  cases h with
  | non => exact .non
  | bl b => exact .bl b
  | int i => exact .int i
  | str s => exact .str s
  | lst h1 h2 => exact .lst (e _ _ h1) (RpL.mono e h2)
  | tup h1 h2 => exact .tup (e _ _ h1) (RpL.mono e h2)
  | scr h1 => exact .scr (e.seq h1)
theorem RpL.mono {G : Gx} {T T' : Hp} (e : Ex T T') {vs : List V} {xs : List P} (h : RpL G T vs xs) : RpL G T' vs xs := by
  cases h with
  | nil => exact .nil
  | cons h1 h2 => exact .cons (Rp.mono e h1) (RpL.mono e h2)
end
section
variable {G : Gx} {T : Hp}
theorem RpL.length : ∀ {vs : List V} {xs : List P}, RpL G T vs xs → vs.length = xs.length
  | _, _, .nil => rfl
  | _, _, .cons _ t => by rw [List.length_cons, List.length_cons, t.length]
theorem RpL.get : ∀ {vs : List V} {xs : List P} {i : Nat} {v : V}, RpL G T vs xs → vs[i]? = some v → ∃ x, xs[i]? = some x ∧ Rp G T v x
  | _, _, _, _, .nil, e => by simp at e
  | _, _, 0, _, .cons r _, e => by simp at e; subst e; exact ⟨_, rfl, r⟩
  | _, _, i + 1, v, .cons _ t, e => by
    obtain ⟨u, h1, h2⟩ := RpL.get (i := i) (v := v) t (by simpa using e)
    exact ⟨u, by simpa using h1, h2⟩
theorem RpL.get' : ∀ {vs : List V} {xs : List P} {i : Nat} {x : P}, RpL G T vs xs → xs[i]? = some x → ∃ v, vs[i]? = some v ∧ Rp G T v x
  | _, _, _, _, .nil, e => by simp at e
  | _, _, 0, _, .cons r _, e => by simp at e; subst e; exact ⟨_, rfl, r⟩
  | _, _, i + 1, v, .cons _ t, e => by
    obtain ⟨u, h1, h2⟩ := RpL.get' (i := i) (x := v) t (by simpa using e)
    exact ⟨u, by simpa using h1, h2⟩
theorem RpL.append : ∀ {vs us : List V} {xs ys : List P}, RpL G T vs xs → RpL G T us ys → RpL G T (vs ++ us) (xs ++ ys)
  | _, _, _, _, .nil, s => s
  | _, _, _, _, .cons r t, s => .cons r (RpL.append t s)
theorem RpL.take : ∀ {vs : List V} {xs : List P} (n : Nat), RpL G T vs xs → RpL G T (vs.take n) (xs.take n)
  | _, _, 0, _ => .nil
  | _, _, _ + 1, .nil => .nil
  | _, _, n + 1, .cons r t => .cons r (RpL.take n t)
theorem RpL.drop : ∀ {vs : List V} {xs : List P} (n : Nat), RpL G T vs xs → RpL G T (vs.drop n) (xs.drop n)
  | _, _, 0, r => r
  | _, _, _ + 1, .nil => .nil
  | _, _, n + 1, .cons _ t => RpL.drop n t
theorem RpL.set {v : V} {x : P} (r : Rp G T v x) : ∀ {vs : List V} {xs : List P} (i : Nat), RpL G T vs xs → RpL G T (vs.set i v) (xs.set i x)
  | _, _, _, .nil => .nil
  | _, _, 0, .cons _ t => .cons r t
  | _, _, i + 1, .cons q t => .cons q (RpL.set r i t)
theorem RpL.ints : ∀ (ns : List Int), RpL G T (ns.map V.int) (ns.map P.int)
  | [] => .nil
  | n :: r => .cons (.int n) (RpL.ints r)
theorem RpL.strs : ∀ (ns : List Str), RpL G T (ns.map V.str) (ns.map P.str)
  | [] => .nil
  | n :: r => .cons (.str n) (RpL.strs r)
end

/-- only new objects came, the frozen part T grew by new ones alone -/
structure Gr (T H T' H' : Hp) : Prop where
  t : Ex T T'
  s : Ex T' H'
  h : Ex H H'
  n : ∀ a o, H a = some o → T a = none → T' a = none
theorem Gr.refl {T H : Hp} (e : Ex T H) : Gr T H T H := ⟨Ex.refl T, e, Ex.refl H, fun _ _ _ h => h⟩
theorem Gr.trans {T H T1 H1 T2 H2 : Hp} (a : Gr T H T1 H1) (b : Gr T1 H1 T2 H2) : Gr T H T2 H2 :=
  ⟨a.t.trans b.t, b.s, a.h.trans b.h, fun x o h1 h2 => b.n x o (a.h x o h1) (a.n x o h1 h2)⟩
/-- new objects, not frozen yet -/
theorem Gr.grow {T H H' : Hp} (e : Ex T H) (k : Ex H H') : Gr T H T H' := ⟨Ex.refl T, e.trans k, k, fun _ _ _ h => h⟩
/-- a new frozen object -/
theorem Gr.add {T H : Hp} {p : Addr} {o : HO} (e : Ex T H) (h : H p = none) : Gr T H (upd T p o) (upd H p o) := by
  refine ⟨Ex.new (e.free h), fun a u q => ?_, Ex.new h, fun a u q z => ?_⟩
  · by_cases hb : a = p
    · subst hb; rw [upd_same] at q ⊢; exact q
    · rw [upd_ne hb] at q ⊢; exact e a u q
  · rw [upd_ne (ne_of_none q h)]; exact z

/-- the fields of a store as they stand in order -/
def sfs (b : Int) (d : Addr) (vs : V) (n : Int) : List (Str × V) := [("bound", .int b), ("held", .ref d), ("sides", vs), ("deep", .int n)]
/-- a store's cells stand in H, not in T -/
def RepS (G : Gx) (T H : Hp) (v : V) (S : SO) : Prop := ∃ a dx d us vs, v = .ref a ∧ T a = none ∧ T d = none ∧ H a = some (.ins G.C dx (sfs S.bound d vs S.deep)) ∧ Rd H d (.dK us) ∧ us.map (·.1) = S.held.map (·.1) ∧
      RpL G T (us.map (·.2)) (S.held.map (·.2)) ∧ Rp G T vs S.sides
/-- a store's cells -/
def FootS (G : Gx) (H : Hp) (v : V) (a : Addr) : Prop := v = .ref a ∨ ∃ p dx b d vs n, v = .ref p ∧ H p = some (.ins G.C dx (sfs b d vs n)) ∧ a = d
/-- what stands at a path of places below v -/
def cellAt (H : Hp) : V → List Nat → Option Addr
  | .ref a, [] => some a
  | .ref a, i :: r => match H a with
    | some (.lst vs) => match vs[i]? with
      | some u => cellAt H u r
      | none => none
    | some (.tup vs) => match vs[i]? with
      | some u => cellAt H u r
      | none => none
    | _ => none
  | _, _ => none
/-- a handle: its cells stand in H, not in T -/
def Rep (G : Gx) (T H : Hp) (v : V) : D → Prop
  | .p x => Rp G T v x
  | .hl _ xs => ∃ a vs, v = .ref a ∧ T a = none ∧ H a = some (.lst vs) ∧ RpL G T vs xs
  | .hd _ kvs => ∃ a us, v = .ref a ∧ T a = none ∧ Rd H a (.dK us) ∧ us.map (·.1) = kvs.map (·.1) ∧ RpL G T (us.map (·.2)) (kvs.map (·.2))
  | .ho _ S => RepS G T H v S.d ∧ ∀ a, S.me = some a → v = .ref a
  | .gh _ x ps => ∃ T1, Ex T1 H ∧ (∀ x0, x = some x0 → Rp G T1 v x0) ∧ (∀ b o, T1 b = some o → T b = some o ∨ ∃ π ∈ ps.l, cellAt T1 v π = some b) ∧ ∀ π ∈ ps.l, ∃ a vs, cellAt T1 v π = some a ∧ T a = none ∧ T1 a = some (.lst vs) ∧ vs.length ≤ ps.k
  | .hos _ Ss => ∃ a vs, v = .ref a ∧ T a = none ∧ H a = some (.lst vs) ∧ vs.length = Ss.length ∧ (∀ (i : Nat) (u : V) (S : SO), vs[i]? = some u → Ss[i]? = some S → RepS G T H u S ∧ ¬ FootS G H u a) ∧
      ∀ (i j : Nat) (u w : V) (b : Addr), i ≠ j → vs[i]? = some u → vs[j]? = some w → FootS G H u b → FootS G H w b → False
/-- the cells of a handle -/
def Foot (G : Gx) (H : Hp) (v : V) : D → Addr → Prop
  | .p _, _ => False
  | .hl _ _, a => v = .ref a
  | .hd _ _, a => v = .ref a
  | .ho _ _, a => FootS G H v a
  | .gh _ _ ps, a => ∃ π ∈ ps.l, cellAt H v π = some a
  | .hos _ _, a => v = .ref a ∨ ∃ (p : Addr) (vs : List V) (u : V), v = .ref p ∧ H p = some (.lst vs) ∧ u ∈ vs ∧ FootS G H u a
def D.mode : D → M
  | .p _ => .ro
  | .hl m _ => m
  | .hd m _ => m
  | .ho m _ => m
  | .gh m _ _ => m
  | .hos m _ => m
theorem RepS.there {G : Gx} {T H : Hp} {v : V} {S : SO} {a : Addr} (r : RepS G T H v S) (f : FootS G H v a) : T a = none ∧ ∃ o, H a = some o := by
  obtain ⟨p', dx', d', us, vs', e1, h1, h2, e2, h3, _⟩ := r
  rcases f with f | ⟨p, dx, b, d, vs, n, f1, f2, f3⟩
  · cases f.symm.trans e1
    exact ⟨h1, _, e2⟩
  · cases f1.symm.trans e1
    rw [e2] at f2
    injection f2 with e3
    injection e3 with _ _ e3
    unfold sfs at e3
    simp only [List.cons.injEq, Prod.mk.injEq, true_and, V.ref.injEq, V.int.injEq, and_true] at e3
    rw [f3, ← e3.2.1]
    refine ⟨h2, ?_⟩
    rcases h3 with h3 | ⟨o, h3⟩
    · exact ⟨_, h3⟩
    · exact ⟨_, h3⟩
/-- a store whose cells stand as they stood -/
theorem RepS.keep {G : Gx} {T H T' H' : Hp} {v : V} {S : SO} (r : RepS G T H v S) (t : Ex T T') (k : ∀ a o, FootS G H v a → H a = some o → H' a = some o ∧ T' a = none) : RepS G T' H' v S := by
  obtain ⟨a, dx, d, us, vs, e, h1, h2, h3, h4, h5, h6, h7⟩ := r
  have ka := k a _ (.inl e) h3
  have fd : FootS G H v d := .inr ⟨a, dx, _, d, _, _, e, h3, rfl⟩
  refine ⟨a, dx, d, us, vs, e, ka.2, ?_, ka.1, ?_, h5, RpL.mono t h6, Rp.mono t h7⟩
  · rcases h4 with h4 | ⟨o, h4⟩
    · exact (k d _ fd h4).2
    · exact (k d _ fd h4).2
  · rcases h4 with h4 | ⟨o, h4⟩
    · exact .inl (k d _ fd h4).1
    · exact .inr ⟨o, (k d _ fd h4).1⟩
theorem RepS.mono {G : Gx} {T H T' H' : Hp} {v : V} {S : SO} (g : Gr T H T' H') (r : RepS G T H v S) : RepS G T' H' v S := r.keep g.t fun a o f e => ⟨g.h a o e, g.n a o e (r.there f).1⟩
theorem FootS.back {G : Gx} {T H H' : Hp} {v : V} {S : SO} {a : Addr} (r : RepS G T H v S) (e : ∀ p o, v = .ref p → H p = some o → H' p = some o) (f : FootS G H' v a) : FootS G H v a := by
  rcases f with f | ⟨p, dx, b, d, vs, n, f1, f2, f3⟩
  · exact .inl f
  · obtain ⟨p', dx', d', us, vs', e1, _, _, e2, _⟩ := r
    have e3 := e _ _ e1 e2
    rw [f1] at e1
    cases e1
    rw [f2] at e3
    injection e3 with e3
    injection e3 with _ _ e3
    unfold sfs at e3
    simp only [List.cons.injEq, Prod.mk.injEq, true_and, V.ref.injEq, V.int.injEq, and_true] at e3
    exact .inr ⟨p, dx', S.bound, d', vs', S.deep, f1, e2, by rw [f3]; exact e3.2.1⟩
theorem cellAt_mono {H H' : Hp} (e : Ex H H') : ∀ {π : List Nat} {v : V} {a : Addr}, cellAt H v π = some a → cellAt H' v π = some a
  | [], v, a, h => by cases v <;> first | exact h | cases h
  | i :: r, v, a, h => by
    cases v with
    | ref b =>
      unfold cellAt at h ⊢
      cases hb : H b with
      | none => rw [hb] at h; cases h
      | some o =>
        rw [hb] at h
        rw [e b o hb]
        cases o <;> first | cases h | skip
        · rename_i vs
          have h : (match vs[i]? with | some u => cellAt H u r | none => none) = some a := h
          show (match vs[i]? with | some u => cellAt H' u r | none => none) = some a
          cases hi : vs[i]? with
          | none => rw [hi] at h; cases h
          | some u => rw [hi] at h; exact cellAt_mono e h
        · rename_i vs
          have h : (match vs[i]? with | some u => cellAt H u r | none => none) = some a := h
          show (match vs[i]? with | some u => cellAt H' u r | none => none) = some a
          cases hi : vs[i]? with
          | none => rw [hi] at h; cases h
          | some u => rw [hi] at h; exact cellAt_mono e h
    | _ => cases h
theorem Rep.mono {G : Gx} {T H T' H' : Hp} {v : V} {d : D} (g : Gr T H T' H') (h : Rep G T H v d) : Rep G T' H' v d := by
  cases d with
  | p x => exact Rp.mono g.t h
  | hl m xs =>
    obtain ⟨a, vs, e, h1, h2, h3⟩ := h
    exact ⟨a, vs, e, g.n _ _ h2 h1, g.h _ _ h2, RpL.mono g.t h3⟩
  | hd m kvs =>
    obtain ⟨a, us, e, h1, h2, h3, h4⟩ := h
    have q : ∃ o, H a = some o := by
      rcases h2 with h2 | ⟨o, h2⟩
      · exact ⟨_, h2⟩
      · exact ⟨_, h2⟩
    obtain ⟨o, q⟩ := q
    exact ⟨a, us, e, g.n _ _ q h1, g.h.rd h2, h3, RpL.mono g.t h4⟩
  | ho m S => exact ⟨h.1.mono g, h.2⟩
  | gh m x ps =>
    obtain ⟨T1, e1, h1, h2, h3⟩ := h
    refine ⟨T1, e1.trans g.h, h1, fun b o q => (h2 b o q).imp (g.t b o) id, fun π hp => ?_⟩
    obtain ⟨a, vs, h4, h5, h6, h7⟩ := h3 π hp
    exact ⟨a, vs, h4, g.n _ _ (e1 _ _ h6) h5, h6, h7⟩
  | hos m Ss =>
    obtain ⟨a, vs, e, h1, h2, h3, h4, h5⟩ := h
    have fb : ∀ (i : Nat) (u : V) (b : Addr), vs[i]? = some u → FootS G H' u b → FootS G H u b := fun i u b hu f => by
      have hl : i < Ss.length := by rw [← h3]; exact (List.getElem?_eq_some_iff.mp hu).1
      exact FootS.back (h4 i u _ hu (List.getElem?_eq_getElem hl)).1 (fun p o _ q => g.h p o q) f
    exact ⟨a, vs, e, g.n _ _ h2 h1, g.h _ _ h2, h3, fun i u S hu hS => ⟨(h4 i u S hu hS).1.mono g, fun f => (h4 i u S hu hS).2 (fb i u a hu f)⟩, fun i j u w b n hu hw f1 f2 => h5 i j u w b n hu hw (fb i u b hu f1) (fb j w b hw f2)⟩
/-- a result: what is new is new -/
def RepN (G : Gx) (H0 T H : Hp) (v : V) (d : D) : Prop := Rep G T H v d ∧ (d.mode = .new → ∀ a, Foot G H v d a → H0 a = none)
theorem RepN.mono {G : Gx} {H0 H0' T H : Hp} {v : V} {d : D} (e : Ex H0' H0) (h : RepN G H0 T H v d) : RepN G H0' T H v d := ⟨h.1, fun m a f => e.free (h.2 m a f)⟩
theorem RepN.p {G : Gx} {H0 T H : Hp} {v : V} {x : P} (h : Rp G T v x) : RepN G H0 T H v (.p x) := ⟨h, fun _ _ f => f.elim⟩

abbrev Rho := List (Option D)
structure StV (G : Gx) (ρ : Rho) (σ : L2.St) (T H : Hp) : Prop where
  len : ρ.length = σ.length
  at_ : ∀ (i : Nat) (d : D), ρ[i]? = some (some d) → ∃ v, σ[i]? = some (some v) ∧ Rep G T H v d
theorem StV.mono {G : Gx} {ρ : Rho} {σ : L2.St} {T H T' H' : Hp} (g : Gr T H T' H') (h : StV G ρ σ T H) : StV G ρ σ T' H' := ⟨h.len, fun i d e =>
  let ⟨v, e1, r⟩ := h.at_ i d e
  ⟨v, e1, r.mono g⟩⟩

/-- what is wanted behind an expression -/
def PostE (G : Gx) (W : WX) (σ : L2.St) (T H : Hp) : R D → VK → Prop
  | .ok d, Q => ∀ v T' H', Gr T H T' H' → RepN G H T' H' v d → Q v H'
  | .ex c, _ => ∀ H', Ex H H' → W (.ref (G.ec c)) none σ H'
  | .bad, _ => False
def tPu (G : Gx) (W : WX) (f : Rho → R D) : TE := fun σ H Q => ∃ ρ T, Ex T H ∧ StV G ρ σ T H ∧ PostE G W σ T H (f ρ) Q
def PostT {α : Type} (G : Gx) (W : WX) (σ : L2.St) (T H : Hp) : R α → (α → Hp → Prop) → Prop
  | .ok b, Q => ∀ T' H', Gr T H T' H' → Q b H'
  | .ex c, _ => ∀ H', Ex H H' → W (.ref (G.ec c)) none σ H'
  | .bad, _ => False
def tPuT (G : Gx) (W : WX) (f : Rho → R Bool) : TT := fun σ H Q => ∃ ρ T, Ex T H ∧ StV G ρ σ T H ∧ PostT G W σ T H (f ρ) Q
def RepL (G : Gx) (T H : Hp) : List V → List D → Prop
  | [], [] => True
  | v :: vs, d :: ds => Rep G T H v d ∧ RepL G T H vs ds
  | _, _ => False
theorem RepL.mono {G : Gx} {T H T' H' : Hp} (g : Gr T H T' H') : ∀ {vs : List V} {ds : List D}, RepL G T H vs ds → RepL G T' H' vs ds
  | [], [], _ => trivial
  | _ :: _, _ :: _, h => ⟨h.1.mono g, RepL.mono g h.2⟩
  | [], _ :: _, h => h.elim
  | _ :: _, [], h => h.elim
theorem RepL.length {G : Gx} {T H : Hp} : ∀ {vs : List V} {ds : List D}, RepL G T H vs ds → vs.length = ds.length
  | [], [], _ => rfl
  | _ :: _, _ :: _, h => by rw [List.length_cons, List.length_cons, RepL.length h.2]
  | [], _ :: _, h => h.elim
  | _ :: _, [], h => h.elim
def PostA (G : Gx) (W : WX) (σ : L2.St) (T H : Hp) : R (List D) → (List V → Hp → Prop) → Prop
  | .ok ds, Q => ∀ vs T' H', Gr T H T' H' → RepL G T' H' vs ds → Q vs H'
  | .ex c, _ => ∀ H', Ex H H' → W (.ref (G.ec c)) none σ H'
  | .bad, _ => False
def tPuA (G : Gx) (W : WX) (f : Rho → R (List D)) : TA := fun σ H Q => ∃ ρ T, Ex T H ∧ StV G ρ σ T H ∧ PostA G W σ T H (f ρ) Q

section
variable {G : Gx} {W : WX} {σ : L2.St} {T H T1 H1 : Hp}
theorem PostE.mono {r : R D} {Q Q' : VK} (h : PostE G W σ T H r Q) (k : ∀ v H', Q v H' → Q' v H') : PostE G W σ T H r Q' := by
  cases r with
  | ok d => exact fun v T' H' g q => k _ _ (h v T' H' g q)
  | ex c => exact h
  | bad => exact h
theorem PostE.go {r : R D} {Q : VK} (g : Gr T H T1 H1) (h : PostE G W σ T H r Q) : PostE G W σ T1 H1 r Q := by
  cases r with
  | ok d => exact fun v T' H' g' q => h v T' H' (g.trans g') (q.mono g.h)
  | ex c => exact fun H' e => h H' (g.h.trans e)
  | bad => exact h
theorem PostE.bind {r : R D} {k : D → R D} {Q : VK} (h : PostE G W σ T H (r.bind k) Q) :
    PostE G W σ T H r fun v H1 => ∃ d T1, r = .ok d ∧ Gr T H T1 H1 ∧ RepN G H T1 H1 v d ∧ PostE G W σ T1 H1 (k d) Q := by
  cases r with
  | ok d => exact fun v T1 H1 g q => ⟨d, T1, rfl, g, q, PostE.go g h⟩
  | ex c => exact h
  | bad => exact h
theorem PostT.go {α : Type} {r : R α} {Q : α → Hp → Prop} (g : Gr T H T1 H1) (h : PostT G W σ T H r Q) : PostT G W σ T1 H1 r Q := by
  cases r with
  | ok d => exact fun T' H' g' => h T' H' (g.trans g')
  | ex c => exact fun H' e => h H' (g.h.trans e)
  | bad => exact h
theorem PostT.bind {α : Type} {r : R D} {k : D → R α} {Q : α → Hp → Prop} (h : PostT G W σ T H (r.bind k) Q) :
    PostE G W σ T H r fun v H1 => ∃ d T1, r = .ok d ∧ Gr T H T1 H1 ∧ RepN G H T1 H1 v d ∧ PostT G W σ T1 H1 (k d) Q := by
  cases r with
  | ok d => exact fun v T1 H1 g q => ⟨d, T1, rfl, g, q, PostT.go g h⟩
  | ex c => exact h
  | bad => exact h
theorem PostT.bindT {α β : Type} {r : R α} {k : α → R β} {Q : β → Hp → Prop} (h : PostT G W σ T H (r.bind k) Q) :
    PostT G W σ T H r fun b H1 => ∃ T1, Gr T H T1 H1 ∧ PostT G W σ T1 H1 (k b) Q := by
  cases r with
  | ok d => exact fun T1 H1 g => ⟨T1, g, PostT.go g h⟩
  | ex c => exact h
  | bad => exact h
theorem PostE.bindT {α : Type} {r : R α} {k : α → R D} {Q : VK} (h : PostE G W σ T H (r.bind k) Q) :
    PostT G W σ T H r fun b H1 => ∃ T1, Gr T H T1 H1 ∧ PostE G W σ T1 H1 (k b) Q := by
  cases r with
  | ok d => exact fun T1 H1 g => ⟨T1, g, PostE.go g h⟩
  | ex c => exact h
  | bad => exact h
theorem PostA.go {r : R (List D)} {Q : List V → Hp → Prop} (g : Gr T H T1 H1) (h : PostA G W σ T H r Q) : PostA G W σ T1 H1 r Q := by
  cases r with
  | ok d => exact fun vs T' H' g' q => h vs T' H' (g.trans g') q
  | ex c => exact fun H' e => h H' (g.h.trans e)
  | bad => exact h
theorem PostA.bindE {r : R D} {k : D → R (List D)} {Q : List V → Hp → Prop} (h : PostA G W σ T H (r.bind k) Q) :
    PostE G W σ T H r fun v H1 => ∃ d T1, r = .ok d ∧ Gr T H T1 H1 ∧ RepN G H T1 H1 v d ∧ PostA G W σ T1 H1 (k d) Q := by
  cases r with
  | ok d => exact fun v T1 H1 g q => ⟨d, T1, rfl, g, q, PostA.go g h⟩
  | ex c => exact h
  | bad => exact h
theorem PostA.bind {r : R (List D)} {k : List D → R (List D)} {Q : List V → Hp → Prop} (h : PostA G W σ T H (r.bind k) Q) :
    PostA G W σ T H r fun vs H1 => ∃ ds T1, r = .ok ds ∧ Gr T H T1 H1 ∧ RepL G T1 H1 vs ds ∧ PostA G W σ T1 H1 (k ds) Q := by
  cases r with
  | ok d => exact fun v T1 H1 g q => ⟨d, T1, rfl, g, q, PostA.go g h⟩
  | ex c => exact h
  | bad => exact h
theorem PostE.bindA {r : R (List D)} {k : List D → R D} {Q : VK} (h : PostE G W σ T H (r.bind k) Q) :
    PostA G W σ T H r fun vs H1 => ∃ ds T1, r = .ok ds ∧ Gr T H T1 H1 ∧ RepL G T1 H1 vs ds ∧ PostE G W σ T1 H1 (k ds) Q := by
  cases r with
  | ok d => exact fun v T1 H1 g q => ⟨d, T1, rfl, g, q, PostE.go g h⟩
  | ex c => exact h
  | bad => exact h
/-- a value at hand -/
theorem PostE.val {d : D} {Q : VK} {v : V} (h : PostE G W σ T H (.ok d) Q) (e : Ex T H) (r : RepN G H T H v d) : Q v H := h v T H (Gr.refl e) r
theorem PostE.p {x : P} {Q : VK} {v : V} (h : PostE G W σ T H (.ok (.p x)) Q) (e : Ex T H) (r : Rp G T v x) : Q v H := h v T H (Gr.refl e) (.p r)

/-- a list just made is frozen -/
def D.frz : D → R D
  | .hl .new xs => .ok (.p (.lst xs))
  | .hd .new _ => .bad
  | .ho .new _ => .bad
  | .gh .new (some x) _ => .ok (.p x)
  | .gh .new none _ => .bad
  | .hos .new _ => .bad
  | d => .ok d
theorem freezeG {H0 : Hp} {v : V} {x : P} {ps : PL} (g : Gr T H T1 H1) (r : RepN G H T1 H1 v (.gh .new (some x) ps)) : ∃ T2, Gr T H T2 H1 ∧ Ex T1 T2 ∧ Rp G T2 v x := by
  obtain ⟨⟨TT, k1, k2, k3, k4⟩, n⟩ := r
  let T2 : Hp := fun a => match T1 a with | some o => some o | none => TT a
  have e1 : Ex T1 T2 := fun a o h => by show (match T1 a with | some o => some o | none => TT a) = some o; rw [h]
  have e2 : Ex TT T2 := fun a o h => by
    show (match T1 a with | some o => some o | none => TT a) = some o
    cases z : T1 a with
    | none => exact h
    | some u =>
      have w1 := g.s a u z
      have w2 := k1 a o h
      rw [w1] at w2
      exact w2
  have e3 : Ex T2 H1 := fun a o h => by
    have h : (match T1 a with | some o => some o | none => TT a) = some o := h
    cases z : T1 a with
    | none => rw [z] at h; exact k1 a o h
    | some u => rw [z] at h; cases h; exact g.s a _ z
  refine ⟨T2, ⟨g.t.trans e1, e3, g.h, fun a o h z => ?_⟩, e1, Rp.mono e2 (k2 x rfl)⟩
  show (match T1 a with | some o => some o | none => TT a) = none
  rw [g.n a o h z]
  show TT a = none
  cases w : TT a with
  | none => rfl
  | some u =>
    rcases k3 a u w with q | ⟨π, hπ, q⟩
    · rw [g.n a o h z] at q; cases q
    · have := n rfl a ⟨π, hπ, cellAt_mono k1 q⟩
      rw [h] at this; cases this
theorem freeze {H0 : Hp} {v : V} {xs : List P} (g : Gr T H T1 H1) (r : RepN G H T1 H1 v (.hl .new xs)) : ∃ T2, Gr T H T2 H1 ∧ Ex T1 T2 ∧ Rp G T2 v (.lst xs) := by
  obtain ⟨⟨a, vs, rfl, h1, h2, h3⟩, n⟩ := r
  have na : H a = none := n rfl a rfl
  have e12 : Ex T1 (upd T1 a (.lst vs)) := Ex.new h1
  refine ⟨upd T1 a (.lst vs), ⟨g.t.trans e12, fun b o q => ?_, g.h, fun b o q z => ?_⟩, e12, .lst upd_same (RpL.mono e12 h3)⟩
  · by_cases hb : b = a
    · subst hb; rw [upd_same] at q; cases q; exact h2
    · rw [upd_ne hb] at q; exact g.s b o q
  · rw [upd_ne (ne_of_none q na)]; exact g.n b o q z
theorem PostE.frz {r : R D} {Q : VK} (h : PostE G W σ T H (r.bind D.frz) Q) : PostE G W σ T H r Q := by
  cases r with
  | bad => exact h
  | ex c => exact h
  | ok d =>
    have same : PostE G W σ T H (.ok d) Q → PostE G W σ T H (.ok d) Q := id
    cases d with
    | p x => exact h
    | hl m xs =>
      cases m with
      | new =>
        intro v T1 H1 g q
        obtain ⟨T2, g2, _, r2⟩ := freeze (H0 := H) g q
        exact h v T2 H1 g2 (.p r2)
      | ro => exact h
      | own => exact h
    | hd m xs =>
      cases m with
      | new => exact False.elim h
      | ro => exact h
      | own => exact h
    | ho m xs =>
      cases m with
      | new => exact False.elim h
      | ro => exact h
      | own => exact h
    | gh m xs ps =>
      cases m with
      | new =>
        cases xs with
        | none => exact False.elim h
        | some xs =>
          intro v T1 H1 g q
          obtain ⟨T2, g2, _, r2⟩ := freezeG (H0 := H) g q
          exact h v T2 H1 g2 (.p r2)
      | ro => exact h
      | own => exact h
    | hos m xs =>
      cases m with
      | new => exact False.elim h
      | ro => exact h
      | own => exact h
end

section
variable {X : Cx}
theorem pe_imp {e : Expr} {t t' : TE} (h : PE X e t) (i : ∀ σ H Q, t' σ H Q → t σ H Q) : PE X e t' := ⟨fun pins s σ H Q I hw => h.run pins s σ H Q I (i σ H Q hw)⟩
theorem pt_imp {e : Expr} {t t' : TT} (h : PT X e t) (i : ∀ σ H Q, t' σ H Q → t σ H Q) : PT X e t' := ⟨fun pins s σ H Q I hw => h.run pins s σ H Q I (i σ H Q hw)⟩
theorem pa_imp {e : List Expr} {t t' : TA} (h : PA X e t) (i : ∀ σ H Q, t' σ H Q → t σ H Q) : PA X e t' := ⟨fun ps pins s σ H Q I hw => h.run ps pins s σ H Q I (i σ H Q hw)⟩
theorem ps_imp {e : Stmt} {t t' : TS} (h : PS X e t) (i : ∀ D σ H, t' D σ H → t D σ H) : PS X e t' := ⟨fun pins s σ H D I hw => h.run pins s σ H D I (i D σ H hw)⟩
theorem pss_imp {e : List Stmt} {t t' : TS} (h : PSs X e t) (i : ∀ D σ H, t' D σ H → t D σ H) : PSs X e t' := ⟨fun pins s σ H D I hw => h.run pins s σ H D I (i D σ H hw)⟩
variable {G : Gx} {W : WX} {e a b : Expr} {f fa fb : Rho → R D} {pos : Pos}
/-- frozen -/
@[simp] def fz (f : Rho → R D) : Rho → R D := fun ρ => (f ρ).bind D.frz
theorem pu_fz (h : PE X e (tPu G W f)) : PE X e (tPu G W (fz f)) := pe_imp h fun σ H Q ⟨ρ, T, e, st, q⟩ => ⟨ρ, T, e, st, q.frz⟩

/-! ### one and two operands -/
@[simp] def f1 (g : D → R D) (f : Rho → R D) : Rho → R D := fun ρ => (fz f ρ).bind g
@[simp] def f2 (g : D → D → R D) (fa fb : Rho → R D) : Rho → R D := fun ρ => (fz fa ρ).bind fun x => (fz fb ρ).bind (g x)
@[simp] def t1 (g : D → R Bool) (f : Rho → R D) : Rho → R Bool := fun ρ => (fz f ρ).bind g
@[simp] def t2 (g : D → D → R Bool) (fa fb : Rho → R D) : Rho → R Bool := fun ρ => (fz fa ρ).bind fun x => (fz fb ρ).bind (g x)
theorem rd1 {r : V → Hp → VK → Prop} {g : D → R D} (hr : ∀ (σ : L2.St) (T H : Hp) (x : V) (d : D) (Q : VK), Ex T H → Rep G T H x d → PostE G W σ T H (g d) Q → r x H Q) :
    ∀ σ H Q, tPu G W (f1 g f) σ H Q → tPu G W (fz f) σ H fun x H1 => r x H1 Q := fun σ H Q ⟨ρ, T, e, st, q⟩ =>
  ⟨ρ, T, e, st, (PostE.bind q).mono fun v H1 ⟨d, T1, _, gr, rp, q1⟩ => hr σ T1 H1 v d Q gr.s rp.1 q1⟩
theorem rd2 {r : R2} {g : D → D → R D} (hr : ∀ (σ : L2.St) (T H : Hp) (x y : V) (d e : D) (Q : VK), Ex T H → Rep G T H x d → Rep G T H y e → PostE G W σ T H (g d e) Q → r x y H Q) :
    ∀ σ H Q, tPu G W (f2 g fa fb) σ H Q → tOp r (tPu G W (fz fa)) (tPu G W (fz fb)) σ H Q := fun σ H Q ⟨ρ, T, e, st, q⟩ =>
  ⟨ρ, T, e, st, (PostE.bind q).mono fun v H1 ⟨d, T1, _, gr, rp, q1⟩ => ⟨ρ, T1, gr.s, st.mono gr, (PostE.bind q1).mono fun u H2 ⟨d2, T2, _, gr2, rp2, q2⟩ =>
    hr σ T2 H2 v u d d2 Q gr2.s (rp.1.mono gr2) rp2.1 q2⟩⟩
/-- a test of two operands -/
theorem rdT2 {r : R2} {g : D → D → R Bool} (hr : ∀ (σ : L2.St) (T H : Hp) (x y : V) (d e : D) (Q : Bool → Hp → Prop), Ex T H → Rep G T H x d → Rep G T H y e → PostT G W σ T H (g d e) Q → r x y H fun z H' => ∃ k, z = .bl k ∧ Q k H') :
    ∀ σ H Q, tPuT G W (t2 g fa fb) σ H Q → tTest (tOp r (tPu G W (fz fa)) (tPu G W (fz fb))) σ H Q := fun σ H Q ⟨ρ, T, e, st, q⟩ =>
  ⟨ρ, T, e, st, (PostT.bind q).mono fun v H1 ⟨d, T1, _, gr, rp, q1⟩ => ⟨ρ, T1, gr.s, st.mono gr, (PostT.bind q1).mono fun u H2 ⟨d2, T2, _, gr2, rp2, q2⟩ =>
    hr σ T2 H2 v u d d2 Q gr2.s (rp.1.mono gr2) rp2.1 q2⟩⟩
end
end SP
/-! SP2: expression rules by plain functions. -/
namespace SP
open PySem PySem.Spec PyProof.Rows L2

theorem big : sizeLine = 16777216 := sizeLine_eq
def asB : D → R Bool
  | .p (.bl b) => .ok b
  | _ => .bad
def oB : Option Bool → R Bool
  | some b => .ok b
  | none => .bad
def oV : Option Bool → R D
  | some b => .ok (.p (.bl b))
  | none => .bad
@[simp] theorem oB_some (b : Bool) : oB (some b) = .ok b := rfl
@[simp] theorem oV_some (b : Bool) : oV (some b) = .ok (.p (.bl b)) := rfl
@[simp] theorem asB_bl (b : Bool) : asB (.p (.bl b)) = .ok b := rfl
@[simp] theorem frz_p (x : P) : D.frz (.p x) = .ok (.p x) := rfl
@[simp] theorem frz_new (xs : List P) : D.frz (.hl .new xs) = .ok (.p (.lst xs)) := rfl
@[simp] theorem frz_own (xs : List P) : D.frz (.hl .own xs) = .ok (.hl .own xs) := rfl
@[simp] theorem frz_ro (xs : List P) : D.frz (.hl .ro xs) = .ok (.hl .ro xs) := rfl
@[simp] theorem frz_gnew (x : P) (ps : PL) : D.frz (.gh .new (some x) ps) = .ok (.p x) := rfl
@[simp] theorem frz_hown (S : SX) : D.frz (.ho .own S) = .ok (.ho .own S) := rfl
@[simp] theorem frz_hro (S : SX) : D.frz (.ho .ro S) = .ok (.ho .ro S) := rfl
@[simp] theorem frz_down (S : List (Key × P)) : D.frz (.hd .own S) = .ok (.hd .own S) := rfl
@[simp] theorem frz_dro (S : List (Key × P)) : D.frz (.hd .ro S) = .ok (.hd .ro S) := rfl

section
variable {G : Gx} {W : WX} {σ : L2.St} {T H : Hp} {v : V} {d : D}
theorem rint {i : Int} (h : Rep G T H v (.p (.int i))) : v = .int i := by cases (show Rp G T v (.int i) from h); rfl
theorem rstr {i : Str} (h : Rep G T H v (.p (.str i))) : v = .str i := by cases (show Rp G T v (.str i) from h); rfl
theorem rbl {i : Bool} (h : Rep G T H v (.p (.bl i))) : v = .bl i := by cases (show Rp G T v (.bl i) from h); rfl
theorem rnon (h : Rep G T H v (.p .non)) : v = .non := by cases (show Rp G T v .non from h); rfl
theorem rtup {xs : List P} (h : Rep G T H v (.p (.tup xs))) : ∃ a vs, v = .ref a ∧ T a = some (.tup vs) ∧ RpL G T vs xs := by
  cases (show Rp G T v (.tup xs) from h) with
  | tup h1 h2 => exact ⟨_, _, rfl, h1, h2⟩
theorem rscr {ns : List Int} (h : Rep G T H v (.p (.scr ns))) : ∃ a, v = .ref a ∧ SqL G.K T a (ns.map V.int) := by
  cases (show Rp G T v (.scr ns) from h) with
  | scr h1 => exact ⟨_, rfl, h1⟩
/-- the items of a list, frozen or not -/
def D.ls : D → Option (List P)
  | .p (.lst xs) => some xs
  | .hl _ xs => some xs
  | _ => none
@[simp] theorem ls_p (xs : List P) : D.ls (.p (.lst xs)) = some xs := rfl
@[simp] theorem ls_h (m : M) (xs : List P) : D.ls (.hl m xs) = some xs := rfl
theorem rls {xs : List P} (h : Rep G T H v d) (e : d.ls = some xs) (x : Ex T H) : ∃ a vs, v = .ref a ∧ H a = some (.lst vs) ∧ RpL G T vs xs := by
  cases d with
  | p y =>
    cases y with
    | lst ys =>
      cases e
      cases (show Rp G T v (.lst _) from h) with
      | lst h1 h2 => exact ⟨_, _, rfl, x _ _ h1, h2⟩
    | _ => cases e
  | hl m ys =>
    cases e
    obtain ⟨a, vs, h0, h1, h2, h3⟩ := h
    exact ⟨a, vs, h0, h2, h3⟩
  | hd m ys => cases e
  | ho m ys => cases e
  | gh m x ps => cases e
  | hos m x => cases e
/-- a new list is laid -/
theorem post_new {vs : List V} {xs : List P} {Q : VK} (e : Ex T H) (r : RpL G T vs xs) (q : PostE G W σ T H (.ok (.hl .new xs)) Q) : ∀ p, H p = none → Q (.ref p) (upd H p (.lst vs)) := fun p hp =>
  q (.ref p) T (upd H p (.lst vs)) (Gr.grow e (Ex.new hp)) ⟨⟨p, vs, rfl, e.free hp, upd_same, r⟩, fun _ a f => by
    have z : V.ref p = V.ref a := f
    cases z
    exact hp⟩
theorem post_tup {vs : List V} {xs : List P} {Q : VK} (e : Ex T H) (r : RpL G T vs xs) (q : PostE G W σ T H (.ok (.p (.tup xs))) Q) : ∀ p, H p = none → Q (.ref p) (upd H p (.tup vs)) := fun p hp =>
  q (.ref p) (upd T p (.tup vs)) (upd H p (.tup vs)) (Gr.add e hp) (.p (.tup upd_same (RpL.mono (Ex.new (e.free hp)) r)))
end

section
variable {X : Cx} {G : Gx} {W : WX} {e a b c : Expr} {f fa fb fc : Rho → R D} {ca cb : Rho → R Bool} {pos : Pos}
/-! ### names, constants -/
def D.seen : D → R D
  | .hl .new _ => .bad
  | .hd .new _ => .bad
  | .ho .new _ => .bad
  | .gh .new _ _ => .bad
  | .hos .new _ => .bad
  | d => .ok d
@[simp] theorem seen_p (x : P) : D.seen (.p x) = .ok (.p x) := rfl
@[simp] theorem seen_own (xs : List P) : D.seen (.hl .own xs) = .ok (.hl .own xs) := rfl
@[simp] theorem seen_ro (xs : List P) : D.seen (.hl .ro xs) = .ok (.hl .ro xs) := rfl
@[simp] theorem seen_hown (S : SX) : D.seen (.ho .own S) = .ok (.ho .own S) := rfl
@[simp] theorem seen_hro (S : SX) : D.seen (.ho .ro S) = .ok (.ho .ro S) := rfl
@[simp] theorem seen_down (S : List (Key × P)) : D.seen (.hd .own S) = .ok (.hd .own S) := rfl
@[simp] theorem seen_dro (S : List (Key × P)) : D.seen (.hd .ro S) = .ok (.hd .ro S) := rfl
theorem seen_ok {d : D} : d.seen = .bad ∨ (d.seen = .ok d ∧ d.mode ≠ .new) := by
  cases d with
  | p x => exact .inr ⟨rfl, fun z => nomatch (show M.ro = M.new from z)⟩
  | hl m x =>
    cases m with
    | new => exact .inl rfl
    | ro => exact .inr ⟨rfl, fun z => nomatch (show M.ro = M.new from z)⟩
    | own => exact .inr ⟨rfl, fun z => nomatch (show M.own = M.new from z)⟩
  | hd m x =>
    cases m with
    | new => exact .inl rfl
    | ro => exact .inr ⟨rfl, fun z => nomatch (show M.ro = M.new from z)⟩
    | own => exact .inr ⟨rfl, fun z => nomatch (show M.own = M.new from z)⟩
  | ho m x =>
    cases m with
    | new => exact .inl rfl
    | ro => exact .inr ⟨rfl, fun z => nomatch (show M.ro = M.new from z)⟩
    | own => exact .inr ⟨rfl, fun z => nomatch (show M.own = M.new from z)⟩
  | gh m x ps =>
    cases m with
    | new => exact .inl rfl
    | ro => exact .inr ⟨rfl, fun z => nomatch (show M.ro = M.new from z)⟩
    | own => exact .inr ⟨rfl, fun z => nomatch (show M.own = M.new from z)⟩
  | hos m x =>
    cases m with
    | new => exact .inl rfl
    | ro => exact .inr ⟨rfl, fun z => nomatch (show M.ro = M.new from z)⟩
    | own => exact .inr ⟨rfl, fun z => nomatch (show M.own = M.new from z)⟩
def seenO : Option (Option D) → R D
  | some (some d) => d.seen
  | _ => .bad
@[simp] theorem seenO_some (d : D) : seenO (some (some d)) = d.seen := rfl
@[simp] def fV (i : Nat) : Rho → R D := fun ρ => seenO ρ[i]?
@[simp] def fC (x : P) : Rho → R D := fun _ => .ok (.p x)
theorem nm (i : Nat) {x : Str} (hN : X.N[i]? = some x := by rfl) (hv : Vis X.env.scope x := by first | exact Or.inl rfl | exact Or.inr (Or.inl rfl) | exact Or.inr (Or.inr rfl)) (hd : (x == ("__debug__" : Str)) = false := by decide)
    (hcd : (x == ("__classdict__" : Str)) = false := by decide) : PE X (.Name x pos) (tPu G W (fV i)) := pe_imp (pe_var hN hv hd hcd) fun σ H Q ⟨ρ, T, e, st, q⟩ => by
  unfold fV at q
  cases h : ρ[i]? with
  | none => rw [h] at q; exact q.elim
  | some o =>
    cases o with
    | none => rw [h] at q; exact q.elim
    | some d =>
      rw [h] at q
      obtain ⟨v, e1, r⟩ := st.at_ i d h
      rcases seen_ok (d := d) with z | ⟨z, m⟩
      · exact (show False by have q : PostE G W σ T H d.seen Q := q; rw [z] at q; exact q).elim
      · have q : PostE G W σ T H d.seen Q := q
        rw [z] at q
        exact ⟨v, e1, q v T H (Gr.refl e) ⟨r, fun m' => absurd m' m⟩⟩
theorem k_int {i : Int} {j : Nat} : PE X (.Constant (.int i) j pos) (tPu G W (fC (.int i))) := pe_imp pe_int fun σ H Q ⟨ρ, T, e, st, q⟩ => q.p e (.int i)
theorem k_bl {i : Bool} {j : Nat} : PE X (.Constant (.bool i) j pos) (tPu G W (fC (.bl i))) := pe_imp pe_bl fun σ H Q ⟨ρ, T, e, st, q⟩ => q.p e (.bl i)
theorem k_str {i : Str} {j : Nat} : PE X (.Constant (.str i) j pos) (tPu G W (fC (.str i))) := pe_imp pe_str fun σ H Q ⟨ρ, T, e, st, q⟩ => q.p e (.str i)
theorem k_non {j : Nat} : PE X (.Constant .none j pos) (tPu G W (fC .non)) := pe_imp pe_non fun σ H Q ⟨ρ, T, e, st, q⟩ => q.p e .non
/-- a module's constant -/
theorem gInt {x : Str} {i : Int} {t : Tok} (hm : X.mg x = some (.int i t)) (hg : Gl X x := by rfl) (hd : (x == ("__debug__" : Str)) = false := by decide) : PE X (.Name x pos) (tPu G W (fC (.int i))) :=
  pe_imp (pe_glob (v := .int i) hg hm ⟨_, rfl⟩ hd) fun σ H Q ⟨ρ, T, e, st, q⟩ => q.p e (.int i)
theorem gStr {x : Str} {i : Str} {t : Tok} (hm : X.mg x = some (.str i t)) (hg : Gl X x := by rfl) (hd : (x == ("__debug__" : Str)) = false := by decide) : PE X (.Name x pos) (tPu G W (fC (.str i))) :=
  pe_imp (pe_glob (v := .str i) hg hm ⟨_, rfl⟩ hd) fun σ H Q ⟨ρ, T, e, st, q⟩ => q.p e (.str i)

/-! ### operators -/
theorem bin {op : Operator} {r : R2} {g : D → D → R D} (ho : OpR X (binaryOp op) r) (hr : ∀ (σ : L2.St) (T H : Hp) (x y : V) (d e : D) (Q : VK), Ex T H → Rep G T H x d → Rep G T H y e → PostE G W σ T H (g d e) Q → r x y H Q)
    (ha : PE X a (tPu G W fa)) (hb : PE X b (tPu G W fb)) : PE X (.BinOp a op b pos) (tPu G W (f2 g fa fb)) := pe_imp (pe_op ho (pu_fz ha) (pu_fz hb)) (rd2 hr)
def gAdd : D → D → R D
  | .p (.int i), .p (.int j) => .ok (.p (.int (i + j)))
  | .p (.str i), .p (.str j) => if i.length + j.length ≤ 16777216 then .ok (.p (.str (i ++ j))) else .bad
  | d, e => match d.ls, e.ls with
    | some xs, some ys => if xs.length + ys.length ≤ 16777216 then .ok (.hl .new (xs ++ ys)) else .bad
    | _, _ => .bad
theorem p_add (ha : PE X a (tPu G W fa)) (hb : PE X b (tPu G W fb)) : PE X (.BinOp a .Add b pos) (tPu G W (f2 gAdd fa fb)) := by
  refine bin (op_add.or (op_add_str.or op_cat)) (fun σ T H x y d e Q ex rx ry q => ?_) ha hb
  have lists : (∀ xs ys, d.ls = some xs → e.ls = some ys → PostE G W σ T H (if xs.length + ys.length ≤ 16777216 then .ok (.hl .new (xs ++ ys)) else .bad) Q → rCat x y H Q) := fun xs ys h1 h2 q => by
    obtain ⟨a1, vs, rfl, l1, r1⟩ := rls rx h1 ex
    obtain ⟨a2, us, rfl, l2, r2⟩ := rls ry h2 ex
    by_cases hl : xs.length + ys.length ≤ 16777216
    · rw [if_pos hl] at q
      exact ⟨a1, a2, vs, us, rfl, rfl, l1, l2, by rw [big, r1.length, r2.length]; exact hl, post_new ex (r1.append r2) q⟩
    · rw [if_neg hl] at q; exact q.elim
  have other : PostE G W σ T H (match d.ls, e.ls with
    | some xs, some ys => if xs.length + ys.length ≤ 16777216 then .ok (.hl .new (xs ++ ys)) else .bad
    | _, _ => .bad) Q → rCat x y H Q := fun q => by
    cases h1 : d.ls with
    | none => rw [h1] at q; exact q.elim
    | some xs =>
      cases h2 : e.ls with
      | none => rw [h1, h2] at q; exact q.elim
      | some ys => rw [h1, h2] at q; exact lists xs ys h1 h2 q
  unfold gAdd at q
  split at q
  · cases rint rx; cases rint ry
    exact .inl ⟨_, _, rfl, rfl, q.p ex (.int _)⟩
  · cases rstr rx; cases rstr ry
    split at q
    · rename_i hl
      exact .inr (.inl ⟨_, _, rfl, rfl, by rw [big]; exact hl, q.p ex (.str _)⟩)
    · exact q.elim
  · exact .inr (.inr (other q))
@[simp] theorem gAdd_int (i j : Int) : gAdd (.p (.int i)) (.p (.int j)) = .ok (.p (.int (i + j))) := rfl
@[simp] theorem gAdd_str (i j : Str) : gAdd (.p (.str i)) (.p (.str j)) = if i.length + j.length ≤ 16777216 then .ok (.p (.str (i ++ j))) else .bad := rfl
def gI2 (C : Int → Int → Bool) (g : Int → Int → Int) : D → D → R D
  | .p (.int i), .p (.int j) => if C i j = true then .ok (.p (.int (g i j))) else .bad
  | _, _ => .bad
@[simp] theorem gI2_int (C : Int → Int → Bool) (g : Int → Int → Int) (i j : Int) : gI2 C g (.p (.int i)) (.p (.int j)) = if C i j = true then .ok (.p (.int (g i j))) else .bad := rfl
theorem bI2 {op : Operator} {C : Int → Int → Prop} {B : Int → Int → Bool} {g : Int → Int → Int} (ho : OpR X (binaryOp op) (rI C fun i j => .int (g i j))) (hc : ∀ i j, B i j = true → C i j)
    (ha : PE X a (tPu G W fa)) (hb : PE X b (tPu G W fb)) : PE X (.BinOp a op b pos) (tPu G W (f2 (gI2 B g) fa fb)) := by
  refine bin ho (fun σ T H x y d e Q ex rx ry q => ?_) ha hb
  unfold gI2 at q
  split at q
  · cases rint rx; cases rint ry
    split at q
    · rename_i hl
      exact ⟨_, _, rfl, rfl, hc _ _ hl, q.p ex (.int _)⟩
    · exact q.elim
  · exact q.elim
/-- a bound that the kernel never computes -/
noncomputable def hb (b : Bool) : Bool := Classical.choose (⟨b, rfl⟩ : ∃ c, c = b)
theorem hb_eq (b : Bool) : hb b = b := Classical.choose_spec (⟨b, rfl⟩ : ∃ c, c = b)
noncomputable def bMul (i j : Int) : Bool := hb ((decide (-18446744073709551616 < i) && decide (i < 18446744073709551616)) || (decide (-18446744073709551616 < j) && decide (j < 18446744073709551616)))
noncomputable def bDiv (_ j : Int) : Bool := hb (decide (0 < j) && decide (j < 1073741824))
noncomputable def bMod (_ j : Int) : Bool := hb (decide (0 < j))
noncomputable def bPow (i j : Int) : Bool := hb (decide (0 ≤ j) && decide (j ≤ 1000000) && decide (i.natAbs < 18446744073709551616))
def bYes (_ _ : Int) : Bool := true
@[simp] theorem bYes_eq (i j : Int) : bYes i j = true := rfl
@[simp] theorem bMod_eq (i j : Int) : bMod i j = decide (0 < j) := hb_eq _
@[simp] theorem bDiv_eq (i j : Int) : bDiv i j = (decide (0 < j) && decide (j < 1073741824)) := hb_eq _
@[simp] theorem bMul_eq (i j : Int) : bMul i j = ((decide (-18446744073709551616 < i) && decide (i < 18446744073709551616)) || (decide (-18446744073709551616 < j) && decide (j < 18446744073709551616))) := hb_eq _
@[simp] theorem bPow_eq (i j : Int) : bPow i j = (decide (0 ≤ j) && decide (j ≤ 1000000) && decide (i.natAbs < 18446744073709551616)) := hb_eq _
abbrev gSub := gI2 bYes fun i j => i - j
noncomputable abbrev gMul := gI2 bMul fun i j => i * j
noncomputable abbrev gDiv := gI2 bDiv fun i j => i / j
noncomputable abbrev gMod := gI2 bMod fun i j => i % j
noncomputable abbrev gPow := gI2 bPow fun i j => i ^ j.toNat
theorem p_sub (ha : PE X a (tPu G W fa)) (hb : PE X b (tPu G W fb)) : PE X (.BinOp a .Sub b pos) (tPu G W (f2 gSub fa fb)) := by
  refine bin op_sub (fun σ T H x y d e Q ex rx ry q => ?_) ha hb
  unfold gSub gI2 at q
  split at q
  · cases rint rx; cases rint ry
    exact ⟨_, _, rfl, rfl, PostE.p (show PostE G W σ T H (.ok (.p (.int _))) Q from q) ex (.int _)⟩
  · exact q.elim
theorem p_mul (ha : PE X a (tPu G W fa)) (hb : PE X b (tPu G W fb)) : PE X (.BinOp a .Mult b pos) (tPu G W (f2 gMul fa fb)) :=
  bI2 op_mul (fun i j h => by
    rw [bMul_eq] at h
    simp only [Bool.or_eq_true, Bool.and_eq_true, decide_eq_true_eq] at h
    unfold CMul
    omega) ha hb
theorem p_div (ha : PE X a (tPu G W fa)) (hb : PE X b (tPu G W fb)) : PE X (.BinOp a .FloorDiv b pos) (tPu G W (f2 gDiv fa fb)) :=
  bI2 op_fdiv (fun i j h => by
    rw [bDiv_eq] at h
    simp only [Bool.and_eq_true, decide_eq_true_eq] at h
    exact h) ha hb
theorem p_mod (ha : PE X a (tPu G W fa)) (hb : PE X b (tPu G W fb)) : PE X (.BinOp a .Mod b pos) (tPu G W (f2 gMod fa fb)) :=
  bI2 op_mod (fun i j h => of_decide_eq_true ((bMod_eq i j).symm.trans h)) ha hb
theorem p_pow (ha : PE X a (tPu G W fa)) (hb : PE X b (tPu G W fb)) : PE X (.BinOp a .Pow b pos) (tPu G W (f2 gPow fa fb)) :=
  bI2 op_pow (fun i j h => by
    rw [bPow_eq] at h
    simp only [Bool.and_eq_true, decide_eq_true_eq] at h
    exact ⟨h.1.1, h.1.2, h.2⟩) ha hb
def gNeg : D → R D
  | .p (.int i) => .ok (.p (.int (-i)))
  | _ => .bad
theorem p_neg (ha : PE X a (tPu G W fa)) : PE X (.UnaryOp .USub a pos) (tPu G W (f1 gNeg fa)) := pe_imp (pe_un un_neg (pu_fz ha)) (rd1 fun σ T H x d Q ex rx q => by
  unfold gNeg at q
  split at q
  · cases rint rx
    exact ⟨_, rfl, q.p ex (.int _)⟩
  · exact q.elim)

/-! ### comparisons -/
@[simp] theorem gNeg_int (i : Int) : gNeg (.p (.int i)) = .ok (.p (.int (-i))) := rfl
def CmpOk (G : Gx) (r : R2) (c : D → D → Option Bool) : Prop := ∀ (T H : Hp) (x y : V) (d e : D) (b : Bool) (Q : VK), Ex T H → Rep G T H x d → Rep G T H y e → c d e = some b → Q (.bl b) H → r x y H Q
@[simp] abbrev cT (c : D → D → Option Bool) (fa fb : Rho → R D) : Rho → R Bool := t2 (fun d e => oB (c d e)) fa fb
@[simp] abbrev cV (c : D → D → Option Bool) (fa fb : Rho → R D) : Rho → R D := f2 (fun d e => oV (c d e)) fa fb
theorem pt_c {op : CmpOp} {r : R2} {g : D → D → Option Bool} (ho : OpR X (compareOp op) r) (hc : CmpOk G r g) (ha : PE X a (tPu G W fa)) (hb : PE X b (tPu G W fb)) (hm : behindInMarks op b = false) : PT X (.Compare a [op] [b] pos) (tPuT G W (cT g fa fb)) :=
  pt_imp (pt_cmpR ho (pu_fz ha) (pu_fz hb) hm) (rdT2 fun σ T H x y d e Q ex rx ry q => by
    cases h : g d e with
    | none => rw [h] at q; exact q.elim
    | some k => rw [h] at q; exact hc T H x y d e k _ ex rx ry h ⟨k, rfl, q T H (Gr.refl ex)⟩)
theorem pe_c {op : CmpOp} {r : R2} {g : D → D → Option Bool} (ho : OpR X (compareOp op) r) (hc : CmpOk G r g) (ha : PE X a (tPu G W fa)) (hb : PE X b (tPu G W fb)) (hm : behindInMarks op b = false) : PE X (.Compare a [op] [b] pos) (tPu G W (cV g fa fb)) :=
  pe_imp (pe_cmpR ho (pu_fz ha) (pu_fz hb) hm) (rd2 fun σ T H x y d e Q ex rx ry q => by
    cases h : g d e with
    | none => rw [h] at q; exact q.elim
    | some k => rw [h] at q; exact hc T H x y d e k _ ex rx ry h (q.p ex (.bl k)))
def cI (p : Int → Int → Bool) : D → D → Option Bool
  | .p (.int i), .p (.int j) => some (p i j)
  | _, _ => none
@[simp] theorem cI_int (p : Int → Int → Bool) (i j : Int) : cI p (.p (.int i)) (.p (.int j)) = some (p i j) := rfl
theorem okI {p : Int → Int → Bool} : CmpOk G (rI0 fun i j => .bl (p i j)) (cI p) := fun T H x y d e b Q ex rx ry h q => by
  unfold cI at h
  split at h
  · cases rint rx; cases rint ry; cases h
    exact ⟨_, _, rfl, rfl, q⟩
  · cases h
abbrev cLt := cI fun i j => decide (i < j)
abbrev cLe := cI fun i j => decide (i ≤ j)
abbrev cGt := cI fun i j => decide (j < i)
def cGe : D → D → Option Bool
  | .p (.str i), .p (.str j) => some (!decide (i.cps.toList < j.cps.toList))
  | d, e => cI (fun i j => decide (j ≤ i)) d e
@[simp] theorem cGe_int (i j : Int) : cGe (.p (.int i)) (.p (.int j)) = some (decide (j ≤ i)) := rfl
theorem okGe : CmpOk G (fun x y H Q => rI0 (fun i j => .bl (decide (j ≤ i))) x y H Q ∨ ∃ i j, x = .str i ∧ y = .str j ∧ Q (.bl (!decide (i.cps.toList < j.cps.toList))) H) cGe := fun T H x y d e b Q ex rx ry h q => by
  unfold cGe at h
  split at h
  · cases rstr rx; cases rstr ry; cases h
    exact .inr ⟨_, _, rfl, rfl, q⟩
  · exact .inl (okI T H x y d e b Q ex rx ry h q)
section
variable (ha : PE X a (tPu G W fa)) (hb : PE X b (tPu G W fb))
include ha hb
theorem p_lt : PE X (.Compare a [.Lt] [b] pos) (tPu G W (cV cLt fa fb)) := pe_c op_lt okI ha hb (nomark _)
theorem p_le : PE X (.Compare a [.LtE] [b] pos) (tPu G W (cV cLe fa fb)) := pe_c op_le okI ha hb (nomark _)
theorem p_gt : PE X (.Compare a [.Gt] [b] pos) (tPu G W (cV cGt fa fb)) := pe_c op_gt okI ha hb (nomark _)
theorem p_ge : PE X (.Compare a [.GtE] [b] pos) (tPu G W (cV cGe fa fb)) := pe_c (op_ge.or op_ge_str) okGe ha hb (nomark _)
theorem q_lt : PT X (.Compare a [.Lt] [b] pos) (tPuT G W (cT cLt fa fb)) := pt_c op_lt okI ha hb (nomark _)
theorem q_le : PT X (.Compare a [.LtE] [b] pos) (tPuT G W (cT cLe fa fb)) := pt_c op_le okI ha hb (nomark _)
theorem q_gt : PT X (.Compare a [.Gt] [b] pos) (tPuT G W (cT cGt fa fb)) := pt_c op_gt okI ha hb (nomark _)
theorem q_ge : PT X (.Compare a [.GtE] [b] pos) (tPuT G W (cT cGe fa fb)) := pt_c (op_ge.or op_ge_str) okGe ha hb (nomark _)
end
/-- is None, is True, is False -/
def cIs : D → D → Option Bool
  | .p (.bl a), .p (.bl b) => some (decide (a = b))
  | .p x, .p .non => some (match x with | .non => true | _ => false)
  | _, _ => none
theorem okIs : CmpOk G (fun x y H Q => (y = .non ∧ Q (.bl (decide (x = .non))) H) ∨ rIsB x y H Q) cIs := fun T H x y d e b Q ex rx ry h q => by
  unfold cIs at h
  split at h
  · cases rbl rx; cases rbl ry; cases h
    exact .inr ⟨_, _, rfl, rfl, q⟩
  · rename_i z
    cases rnon ry
    cases h
    refine .inl ⟨rfl, ?_⟩
    cases (show Rp G T x z from rx) <;> exact q
  · cases h
def cIsN (d e : D) : Option Bool := (cIs d e).map not
theorem okIsN : CmpOk G (fun x y H Q => (y = .non ∧ Q (.bl (!decide (x = .non))) H) ∨ rNotB x y H Q) cIsN := fun T H x y d e b Q ex rx ry h q => by
  unfold cIsN cIs at h
  split at h
  · cases rbl rx; cases rbl ry; cases h
    exact .inr ⟨_, _, rfl, rfl, q⟩
  · rename_i z
    cases rnon ry
    cases h
    refine .inl ⟨rfl, ?_⟩
    cases (show Rp G T x z from rx) <;> exact q
  · cases h
@[simp] theorem cIs_bl (i j : Bool) : cIs (.p (.bl i)) (.p (.bl j)) = some (decide (i = j)) := rfl
@[simp] theorem cIs_nn : cIs (.p .non) (.p .non) = some true := rfl
@[simp] theorem cIs_in (i : Int) : cIs (.p (.int i)) (.p .non) = some false := rfl
@[simp] theorem cIsN_eq (d e : D) : cIsN d e = (cIs d e).map not := rfl
section
variable (ha : PE X a (tPu G W fa)) (hb : PE X b (tPu G W fb))
include ha hb
theorem p_is : PE X (.Compare a [.Is] [b] pos) (tPu G W (cV cIs fa fb)) := pe_c (op_isN.or op_isBl) okIs ha hb (nomark _)
theorem q_is : PT X (.Compare a [.Is] [b] pos) (tPuT G W (cT cIs fa fb)) := pt_c (op_isN.or op_isBl) okIs ha hb (nomark _)
theorem p_isn : PE X (.Compare a [.IsNot] [b] pos) (tPu G W (cV cIsN fa fb)) := pe_c (op_notN.or op_notBl) okIsN ha hb (nomark _)
theorem q_isn : PT X (.Compare a [.IsNot] [b] pos) (tPuT G W (cT cIsN fa fb)) := pt_c (op_notN.or op_notBl) okIsN ha hb (nomark _)
end

/-! ### equality of data -/
end
mutual
def P.py : P → PyData
  | .non => .none
  | .bl b => .bool b
  | .int i => .int i
  | .str s => .str s
  | .lst xs => .list (P.pyL xs)
  | .tup xs => .tuple (P.pyL xs)
  | .scr ns => .list (ns.map .int)
def P.pyL : List P → List PyData
  | [] => []
  | x :: xs => P.py x :: P.pyL xs
end
def D.py : D → Option PyData
  | .p x => some x.py
  | .hl _ xs => some (.list (P.pyL xs))
  | _ => none
theorem dp_ints {K : PySem.W.Frag} {H : Hp} : ∀ ns : List Int, DpAll K H (ns.map V.int) (ns.map PyData.int)
  | [] => .nil
  | n :: r => .cons (.int n) (dp_ints r)
mutual
theorem Rp.dp {G : Gx} {T H : Hp} (e : Ex T H) {v : V} {x : P} (h : Rp G T v x) : Dp G.K H v x.py := by
  cases h with
  | non => exact .non
  | bl b => exact .bl b
  | int i => exact .int i
  | str s => exact .str s
  | lst h1 h2 => exact .lst (SqL.of (e _ _ h1)) (RpL.dp e h2)
  | tup h1 h2 => exact .tup (SqT.of (e _ _ h1)) (RpL.dp e h2)
  | scr h1 => exact .lst (e.seq h1) (dp_ints _)
theorem RpL.dp {G : Gx} {T H : Hp} (e : Ex T H) {vs : List V} {xs : List P} (h : RpL G T vs xs) : DpAll G.K H vs (P.pyL xs) := by
  cases h with
  | nil => exact .nil
  | cons h1 h2 => exact .cons (Rp.dp e h1) (RpL.dp e h2)
end
theorem Rep.dp {G : Gx} {T H : Hp} {v : V} {d : D} {y : PyData} (e : Ex T H) (h : Rep G T H v d) (q : d.py = some y) : Dp G.K H v y := by
  cases d with
  | p x => cases q; exact Rp.dp e h
  | hl m xs =>
    cases q
    obtain ⟨a, vs, rfl, _, h2, h3⟩ := h
    exact .lst (SqL.of h2) (RpL.dp e h3)
  | hd m x => cases q
  | ho m x => cases q
  | gh m x ps => cases q
  | hos m x => cases q
/-- two scalars that == tells apart -/
def atomV : P → Option V
  | .non => some .non
  | .bl b => some (.bl b)
  | .int i => some (.int i)
  | .str s => some (.str s)
  | _ => none
theorem atom_of {G : Gx} {T : Hp} {v : V} {x : P} {u : V} (h : Rp G T v x) (e : atomV x = some u) : v = u := by
  cases h <;> cases e <;> rfl
def cEq (d e : D) : Option Bool := match d, e with
  | .p (.int i), .p (.int j) => some (decide (i = j))
  | .p (.str i), .p (.str j) => some (decide (i = j))
  | .p (.bl i), .p (.bl j) => some (decide (i = j))
  | .p .non, .p (.int _) => some false
  | .p (.int _), .p .non => some false
  | .p .non, .p .non => some true
  | d, e => match d.py, e.py with
    | some x, some y => if (SeqAt.shaped x && SeqAt.shaped y) = true then some (PyData.eqv x y) else none
    | _, _ => none
@[simp] theorem cEq_int (i j : Int) : cEq (.p (.int i)) (.p (.int j)) = some (decide (i = j)) := rfl
@[simp] theorem cEq_str (i j : Str) : cEq (.p (.str i)) (.p (.str j)) = some (decide (i = j)) := rfl
@[simp] theorem cEq_bl (i j : Bool) : cEq (.p (.bl i)) (.p (.bl j)) = some (decide (i = j)) := rfl
@[simp] theorem cEq_ni (i : Int) : cEq (.p .non) (.p (.int i)) = some false := rfl
@[simp] theorem cEq_in (i : Int) : cEq (.p (.int i)) (.p .non) = some false := rfl
theorem cEq_data {d e : D} {x y : PyData} {b : Bool} (h : (match d.py, e.py with
    | some x, some y => if (SeqAt.shaped x && SeqAt.shaped y) = true then some (PyData.eqv x y) else none
    | _, _ => none) = some b) : ∃ x y, d.py = some x ∧ e.py = some y ∧ SeqAt.shaped x = true ∧ SeqAt.shaped y = true ∧ PyData.eqv x y = b := by
  cases h1 : d.py with
  | none => rw [h1] at h; cases h
  | some x =>
    cases h2 : e.py with
    | none => rw [h1, h2] at h; cases h
    | some y =>
      rw [h1, h2] at h
      have h : (if (SeqAt.shaped x && SeqAt.shaped y) = true then some (PyData.eqv x y) else none) = some b := h
      split at h
      · rename_i hs
        rw [Bool.and_eq_true] at hs
        exact ⟨x, y, rfl, rfl, hs.1, hs.2, Option.some.inj h⟩
      · cases h
theorem okEq {G : Gx} : CmpOk G (fun x y H Q => rEq x y H Q ∨ rEqD G.K x y H Q) cEq := fun T H x y d e b Q ex rx ry h q => by
  unfold cEq at h
  split at h
  · cases rint rx; cases rint ry; cases h
    exact .inl ⟨rfl, by simpa using q⟩
  · cases rstr rx; cases rstr ry; cases h
    exact .inl ⟨rfl, by simpa using q⟩
  · cases rbl rx; cases rbl ry; cases h
    exact .inl ⟨rfl, by simpa using q⟩
  · cases rnon rx; cases rint ry; cases h
    exact .inl ⟨rfl, by simpa using q⟩
  · cases rint rx; cases rnon ry; cases h
    exact .inl ⟨rfl, by simpa using q⟩
  · cases rnon rx; cases rnon ry; cases h
    exact .inl ⟨rfl, by simpa using q⟩
  · obtain ⟨x', y', e1, e2, s1, s2, e3⟩ := cEq_data (x := .none) (y := .none) h
    subst e3
    exact .inr ⟨x', y', rx.dp ex e1, ry.dp ex e2, s1, s2, q⟩
def cNe (d e : D) : Option Bool := (cEq d e).map not
@[simp] theorem cNe_eq (d e : D) : cNe d e = (cEq d e).map not := rfl
theorem okNe {G : Gx} : CmpOk G (fun x y H Q => rNe x y H Q ∨ rNeD G.K x y H Q) cNe := fun T H x y d e b Q ex rx ry h q => by
  unfold cNe at h
  obtain ⟨k, hk, rfl⟩ := Option.map_eq_some_iff.mp h
  have := okEq T H x y d e k (fun v H' => H' = H ∧ v = .bl k) ex rx ry hk ⟨rfl, rfl⟩
  rcases this with ⟨s, _, e1⟩ | ⟨x', y', d1, d2, s1, s2, _, e1⟩
  · refine .inl ⟨s, ?_⟩
    injection e1 with e1
    rw [e1]; exact q
  · refine .inr ⟨x', y', d1, d2, s1, s2, ?_⟩
    injection e1 with e1
    rw [e1]; exact q
section
variable {X : Cx} {G : Gx} {W : WX} {e a b c : Expr} {f fa fb fc : Rho → R D} {ca cb : Rho → R Bool} {pos : Pos}
section
variable (hu : X.A.units + 64 < cLine) (ha : PE X a (tPu G W fa)) (hb : PE X b (tPu G W fb)) (hK : X.K = G.K := by rfl)
include hu ha hb hK
theorem p_eq : PE X (.Compare a [.Eq] [b] pos) (tPu G W (cV cEq fa fb)) := pe_c (op_eq.or (op_eqD hu)) (by rw [hK]; exact okEq) ha hb (nomark _)
theorem q_eq : PT X (.Compare a [.Eq] [b] pos) (tPuT G W (cT cEq fa fb)) := pt_c (op_eq.or (op_eqD hu)) (by rw [hK]; exact okEq) ha hb (nomark _)
theorem p_ne : PE X (.Compare a [.NotEq] [b] pos) (tPu G W (cV cNe fa fb)) := pe_c (op_ne.or (op_neD hu)) (by rw [hK]; exact okNe) ha hb (nomark _)
theorem q_ne : PT X (.Compare a [.NotEq] [b] pos) (tPuT G W (cT cNe fa fb)) := pt_c (op_ne.or (op_neD hu)) (by rw [hK]; exact okNe) ha hb (nomark _)
end

/-! ### tests, and, or, not -/
@[simp] def tV (f : Rho → R D) : Rho → R Bool := fun ρ => (fz f ρ).bind asB
theorem q_val (h : PE X e (tPu G W f)) (he : ∀ whole, isTrue e X.env whole = (do let v ← whole; standAt e.pos; holding [v] (truthy v)) := by intro _; rfl) : PT X e (tPuT G W (tV f)) :=
  pt_imp (pt_val (pu_fz h) he) fun σ H Q ⟨ρ, T, e, st, q⟩ => ⟨ρ, T, e, st, (PostT.bind q).mono fun v H1 ⟨d, T1, _, gr, rp, q1⟩ => by
    unfold asB at q1
    split at q1
    · cases rbl rp.1
      exact ⟨_, rfl, q1 T1 H1 (Gr.refl gr.s)⟩
    · exact q1.elim⟩
@[simp] def tAndF (ca cb : Rho → R Bool) : Rho → R Bool := fun ρ => (ca ρ).bind fun b => if b = true then cb ρ else .ok false
@[simp] def tOrF (ca cb : Rho → R Bool) : Rho → R Bool := fun ρ => (ca ρ).bind fun b => if b = true then .ok true else cb ρ
@[simp] def tNotF (ca : Rho → R Bool) : Rho → R Bool := fun ρ => (ca ρ).bind fun b => .ok (!b)
theorem PostT.monoQ {α : Type} {G : Gx} {W : WX} {σ : L2.St} {T H : Hp} {r : R α} {Q Q' : α → Hp → Prop} (h : PostT G W σ T H r Q) (k : ∀ v H', Q v H' → Q' v H') : PostT G W σ T H r Q' := by
  cases r with
  | ok d => exact fun T' H' g => k _ _ (h T' H' g)
  | ex c => exact h
  | bad => exact h
theorem pw_imp {e : Expr} {t t' : TT} (h : PW X e t) (i : ∀ σ H Q, t' σ H Q → t σ H Q) : PW X e t' := ⟨fun wh pins s σ H Q I hw => h.run wh pins s σ H Q I (i σ H Q hw)⟩
theorem w_and {rest : List Expr} (ha : PT X a (tPuT G W ca)) (hb : PW X (.BoolOp .And (b :: rest) pos) (tPuT G W cb)) : PW X (.BoolOp .And (a :: b :: rest) pos) (tPuT G W (tAndF ca cb)) :=
  pw_imp (pw_and ha hb) fun σ H Q ⟨ρ, T, e, st, q⟩ => ⟨ρ, T, e, st, (PostT.bindT q).monoQ fun b H1 ⟨T1, gr, q1⟩ => by
    cases b with
    | true => exact iteT ⟨ρ, T1, gr.s, st.mono gr, q1⟩
    | false => exact iteF (q1 T1 H1 (Gr.refl gr.s))⟩
theorem w_or {rest : List Expr} (ha : PT X a (tPuT G W ca)) (hb : PW X (.BoolOp .Or (b :: rest) pos) (tPuT G W cb)) : PW X (.BoolOp .Or (a :: b :: rest) pos) (tPuT G W (tOrF ca cb)) :=
  pw_imp (pw_or ha hb) fun σ H Q ⟨ρ, T, e, st, q⟩ => ⟨ρ, T, e, st, (PostT.bindT q).monoQ fun b H1 ⟨T1, gr, q1⟩ => by
    cases b with
    | true => exact iteT (q1 T1 H1 (Gr.refl gr.s))
    | false => exact iteF ⟨ρ, T1, gr.s, st.mono gr, q1⟩⟩
theorem q_not (ha : PT X a (tPuT G W ca)) : PT X (.UnaryOp .Not a pos) (tPuT G W (tNotF ca)) :=
  pt_imp (pt_not ha) fun σ H Q ⟨ρ, T, e, st, q⟩ => ⟨ρ, T, e, st, (PostT.bindT q).monoQ fun b H1 ⟨T1, gr, q1⟩ => q1 T1 H1 (Gr.refl gr.s)⟩
/-- as values -/
@[simp] def fAndF (fa fb : Rho → R D) : Rho → R D := fun ρ => (fz fa ρ).bind fun d => (asB d).bind fun b => if b = true then fz fb ρ else .ok (.p (.bl false))
@[simp] def fOrF (fa fb : Rho → R D) : Rho → R D := fun ρ => (fz fa ρ).bind fun d => (asB d).bind fun b => if b = true then .ok (.p (.bl true)) else fz fb ρ
@[simp] def gNot (d : D) : R D := (asB d).bind fun b => .ok (.p (.bl (!b)))
theorem asB_cases (d : D) : (∃ b, d = .p (.bl b)) ∨ asB d = .bad := by
  cases d with
  | p x => cases x <;> first | exact .inl ⟨_, rfl⟩ | exact .inr rfl
  | _ => exact .inr rfl
theorem p_and {rest : List Expr} (ha : PE X a (tPu G W fa)) (hb : PE X (.BoolOp .And (b :: rest) pos) (tPu G W fb)) : PE X (.BoolOp .And (a :: b :: rest) pos) (tPu G W (fAndF fa fb)) :=
  pe_imp (pe_and (pu_fz ha) (pu_fz hb)) fun σ H Q ⟨ρ, T, e, st, q⟩ => ⟨ρ, T, e, st, (PostE.bind q).mono fun v H1 ⟨d, T1, z, gr, rp, q1⟩ => by
    rcases asB_cases d with ⟨k, rfl⟩ | z
    · cases rbl rp.1
      refine ⟨_, rfl, ?_⟩
      cases k with
      | true => exact iteT ⟨ρ, T1, gr.s, st.mono gr, q1⟩
      | false => exact iteF (PostE.p q1 gr.s (.bl false))
    · rw [z] at q1; exact q1.elim⟩
theorem p_or {rest : List Expr} (ha : PE X a (tPu G W fa)) (hb : PE X (.BoolOp .Or (b :: rest) pos) (tPu G W fb)) : PE X (.BoolOp .Or (a :: b :: rest) pos) (tPu G W (fOrF fa fb)) :=
  pe_imp (pe_or (pu_fz ha) (pu_fz hb)) fun σ H Q ⟨ρ, T, e, st, q⟩ => ⟨ρ, T, e, st, (PostE.bind q).mono fun v H1 ⟨d, T1, z, gr, rp, q1⟩ => by
    rcases asB_cases d with ⟨k, rfl⟩ | z
    · cases rbl rp.1
      refine ⟨_, rfl, ?_⟩
      cases k with
      | false => exact iteF ⟨ρ, T1, gr.s, st.mono gr, q1⟩
      | true => exact iteT (PostE.p q1 gr.s (.bl true))
    · rw [z] at q1; exact q1.elim⟩
theorem p_not (ha : PE X a (tPu G W fa)) : PE X (.UnaryOp .Not a pos) (tPu G W (f1 gNot fa)) :=
  pe_imp (pe_not (pu_fz ha)) (rd1 fun σ T H x d Q ex rx q => by
    unfold gNot asB at q
    split at q
    · cases rbl rx
      exact ⟨_, rfl, PostE.p q ex (.bl _)⟩
    · exact q.elim)
@[simp] def fIfE (c : Rho → R Bool) (fa fb : Rho → R D) : Rho → R D := fun ρ => (c ρ).bind fun b => if b = true then fa ρ else fb ρ
theorem p_if (hc : PT X c (tPuT G W ca)) (ha : PE X a (tPu G W fa)) (hb : PE X b (tPu G W fb)) : PE X (.IfExp c a b pos) (tPu G W (fIfE ca fa fb)) :=
  pe_imp (pe_ifExp hc ha hb) fun σ H Q ⟨ρ, T, e, st, q⟩ => ⟨ρ, T, e, st, (PostE.bindT q).monoQ fun b H1 ⟨T1, gr, q1⟩ => by
    cases b with
    | true => exact iteT ⟨ρ, T1, gr.s, st.mono gr, q1⟩
    | false => exact iteF ⟨ρ, T1, gr.s, st.mono gr, q1⟩⟩
end
end SP
/-! SP3: items, slices, displays, calls, comprehensions. -/
namespace SP
open PySem PySem.Spec PyProof.Rows L2

def oP : Option P → R D
  | some x => .ok (.p x)
  | none => .bad
@[simp] theorem oP_some (x : P) : oP (some x) = .ok (.p x) := rfl
theorem RpL.at {G : Gx} {T : Hp} {vs : List V} {xs : List P} {k : Int} {x : P} (r : RpL G T vs xs) (h : atI xs k = some x) : ∃ v, atI vs k = some v ∧ Rp G T v x := by
  unfold atI at h ⊢
  rw [r.length]
  cases e : ixN xs.length k with
  | none => rw [e] at h; cases h
  | some j =>
    rw [e] at h
    exact r.get' (show xs[j]? = some x from h)
def gIx (d i : D) : R D := match i with
  | .p (.int k) => match d with
    | .p (.tup xs) => oP (atI xs k)
    | .p (.scr ns) => oP ((atI ns k).map .int)
    | .p (.str s) => if s.length ≤ 16777216 then oP ((atI s.cps.toList k).map fun c => .str ⟨#[c]⟩) else .bad
    | .p (.lst xs) => oP (atI xs k)
    | .hl _ xs => oP (atI xs k)
    | _ => .bad
  | _ => .bad
theorem atI_map {α β : Type} (f : α → β) (xs : List α) (k : Int) : atI (xs.map f) k = (atI xs k).map f := by
  unfold atI
  rw [List.length_map]
  cases ixN xs.length k with
  | none => rfl
  | some j => show (xs.map f)[j]? = (xs[j]?).map f; rw [List.getElem?_map]
@[simp] theorem gIx_tup (xs : List P) (k : Int) : gIx (.p (.tup xs)) (.p (.int k)) = oP (atI xs k) := rfl
@[simp] theorem gIx_lst (xs : List P) (k : Int) : gIx (.p (.lst xs)) (.p (.int k)) = oP (atI xs k) := rfl
@[simp] theorem gIx_hl (m : M) (xs : List P) (k : Int) : gIx (.hl m xs) (.p (.int k)) = oP (atI xs k) := rfl
@[simp] theorem gIx_scr (xs : List Int) (k : Int) : gIx (.p (.scr xs)) (.p (.int k)) = oP ((atI xs k).map .int) := rfl
@[simp] theorem gIx_str (s : Str) (k : Int) : gIx (.p (.str s)) (.p (.int k)) = if s.length ≤ 16777216 then oP ((atI s.cps.toList k).map fun c => .str ⟨#[c]⟩) else .bad := rfl
def cutL {α : Type} (xs : List α) (lo hi : Option Int) : List α := (xs.drop (HT.sIx xs.length 0 lo)).take (HT.sIx xs.length xs.length hi - HT.sIx xs.length 0 lo)
def gSl (lo hi : Option Int) : D → R D
  | .p (.str s) => if s.length ≤ 16777216 then .ok (.p (.str (cutS s lo hi))) else .bad
  | .p (.lst xs) => .ok (.hl .new (cutL xs lo hi))
  | .hl _ xs => .ok (.hl .new (cutL xs lo hi))
  | _ => .bad
def keyOf : D → Option Key
  | .p (.int i) => some (.inl i)
  | .p (.str s) => some (.inr s)
  | _ => none
def lookP (kvs : List (Key × P)) (k : Key) : Option P := (kvs.find? fun kv => decide (kv.1 = k)).map (·.2)
def gDGet (d i : D) : R D := match d, keyOf i with
  | .hd _ kvs, some k => oP (lookP kvs k)
  | _, _ => .bad
def cDIn (i d : D) : Option Bool := match d, keyOf i with
  | .hd _ kvs, some k => some (lookP kvs k).isSome
  | _, _ => none
def cDNotIn (i d : D) : Option Bool := (cDIn i d).map not
theorem look_rel {G : Gx} {T : Hp} : ∀ {us : List (Key × V)} {kvs : List (Key × P)} (k : Key), us.map (·.1) = kvs.map (·.1) → RpL G T (us.map (·.2)) (kvs.map (·.2)) →
    (match lookP kvs k with | some x => ∃ v, valV us k = some v ∧ Rp G T v x | none => valV us k = none)
  | [], [], k, _, _ => rfl
  | [], _ :: _, _, h, _ => by cases h
  | _ :: _, [], _, h, _ => by cases h
  | u :: us, y :: ys, k, h, r => by
    have h' : u.1 :: us.map (·.1) = y.1 :: ys.map (·.1) := h
    injection h' with h1 h2
    have r' : RpL G T (u.2 :: us.map (·.2)) (y.2 :: ys.map (·.2)) := r
    cases r' with
    | cons r1 r2 =>
      by_cases e : y.1 = k
      · have e1 : lookP (y :: ys) k = some y.2 := by unfold lookP; rw [List.find?_cons_of_pos (by simpa using e)]; rfl
        rw [e1]
        exact ⟨u.2, valV_pos (h1.trans e), r1⟩
      · have e1 : lookP (y :: ys) k = lookP ys k := by unfold lookP; rw [List.find?_cons_of_neg (by simpa using e)]
        have e2 : valV (u :: us) k = valV us k := valV_neg (by rw [h1]; exact e)
        rw [e1, e2]
        exact look_rel k h2 r2
theorem key_rel {G : Gx} {T H : Hp} {v : V} {d : D} {k : Key} (r : Rep G T H v d) (e : keyOf d = some k) : v = kV k := by
  cases d with
  | p x => cases x <;> first | (cases e; first | exact rint r | exact rstr r) | cases e
  | _ => cases e

section
variable {X : Cx} {G : Gx} {W : WX} {e a b c : Expr} {es : List Expr} {f fa fb fc : Rho → R D} {ca cb : Rho → R Bool} {fs : Rho → R (List D)} {pos : Pos}
theorem p_ix (ha : PE X a (tPu G W fa)) (hb : PE X b (tPu G W fb)) (hs : PlainIx b := by intro _ _; rfl) (hK : X.K = G.K := by rfl) : PE X (.Subscript a b pos) (tPu G W (f2 gIx fa fb)) :=
  pe_imp (pe_ix ix_seq (pu_fz ha) (pu_fz hb) hs) (rd2 fun σ T H x y d i Q ex rx ry q => by
    rw [hK]
    unfold gIx at q
    split at q
    · rename_i k
      cases rint ry
      split at q
      · obtain ⟨a1, vs, rfl, h1, r1⟩ := rtup rx
        rename_i xs
        cases h : atI xs k with
        | none => rw [h] at q; exact q.elim
        | some z =>
          rw [h] at q
          obtain ⟨v, e1, r2⟩ := r1.at h
          exact .inr (.inl ⟨a1, vs, k, v, rfl, rfl, SqT.of (ex _ _ h1), e1, PostE.p q ex r2⟩)
      · obtain ⟨a1, rfl, h1⟩ := rscr rx
        rename_i ns
        cases h : atI ns k with
        | none => rw [h] at q; exact q.elim
        | some z =>
          rw [h] at q
          exact .inl ⟨a1, _, k, .int z, rfl, rfl, ex.seq h1, by rw [atI_map, h]; rfl, PostE.p q ex (.int z)⟩
      · rename_i s
        cases rstr rx
        split at q
        · rename_i hl
          cases h : atI s.cps.toList k with
          | none => rw [h] at q; exact q.elim
          | some z =>
            rw [h] at q
            exact .inr (.inr ⟨s, k, z, rfl, rfl, by rw [big]; exact hl, h, PostE.p q ex (.str _)⟩)
        · exact q.elim
      · rename_i xs
        obtain ⟨a1, vs, rfl, h1, r1⟩ := rls rx rfl ex
        cases h : atI xs k with
        | none => rw [h] at q; exact q.elim
        | some z =>
          rw [h] at q
          obtain ⟨v, e1, r2⟩ := r1.at h
          exact .inl ⟨a1, vs, k, v, rfl, rfl, SqL.of h1, e1, PostE.p q ex r2⟩
      · rename_i m xs
        obtain ⟨a1, vs, rfl, h1, r1⟩ := rls rx rfl ex
        cases h : atI xs k with
        | none => rw [h] at q; exact q.elim
        | some z =>
          rw [h] at q
          obtain ⟨v, e1, r2⟩ := r1.at h
          exact .inl ⟨a1, vs, k, v, rfl, rfl, SqL.of h1, e1, PostE.p q ex r2⟩
      · exact q.elim
    · exact q.elim)
theorem hd_look {T H : Hp} {x y : V} {m : M} {kvs : List (Key × P)} {i : D} {k : Key} (rx : Rep G T H x (.hd m kvs)) (ry : Rep G T H y i) (e : keyOf i = some k) :
    ∃ a, x = .ref a ∧ (match lookP kvs k with | some z => ∃ v, DGet H a y (some v) ∧ Rp G T v z | none => DGet H a y none) := by
  obtain ⟨a, us, rfl, h1, h2, h3, h4⟩ := rx
  cases key_rel ry e
  refine ⟨a, rfl, ?_⟩
  have z := look_rel k h3 h4
  cases h : lookP kvs k with
  | none =>
    rw [h] at z
    exact .inl ⟨us, k, h2, rfl, z.symm⟩
  | some w =>
    rw [h] at z
    obtain ⟨v, e1, r⟩ := z
    exact ⟨v, .inl ⟨us, k, h2, rfl, e1.symm⟩, r⟩
theorem p_dget (hu : X.A.units + 1 < cLine) (ha : PE X a (tPu G W fa)) (hb : PE X b (tPu G W fb)) (hs : NoSl b := by intro _ _; rfl) : PE X (.Subscript a b pos) (tPu G W (f2 gDGet fa fb)) :=
  pe_imp (pe_dget hu (pu_fz ha) (pu_fz hb) hs) (rd2 (r := fun x y H2 Q => ∃ a v, x = .ref a ∧ DGet H2 a y (some v) ∧ Q v H2) fun σ T H x y d i Q ex rx ry q => by
    unfold gDGet at q
    split at q
    · rename_i m kvs k ek
      obtain ⟨a1, rfl, z⟩ := hd_look rx ry ek
      cases h : lookP kvs k with
      | none => rw [h] at q; exact q.elim
      | some w =>
        rw [h] at q z
        obtain ⟨v, g, r⟩ := z
        exact ⟨a1, v, rfl, g, PostE.p q ex r⟩
    · exact q.elim)
theorem okDIn : ∀ (T H : Hp) (y x : V) (i d : D) (b : Bool) (Q : VK), Ex T H → Rep G T H y i → Rep G T H x d → cDIn i d = some b → Q (.bl b) H → ∃ a o, x = .ref a ∧ DGet H a y o ∧ Q (.bl o.isSome) H := fun T H y x i d b Q ex ry rx h q => by
  unfold cDIn at h
  split at h
  · rename_i m kvs k ek
    cases h
    obtain ⟨a1, rfl, z⟩ := hd_look rx ry ek
    cases hl : lookP kvs k with
    | none => rw [hl] at q z; exact ⟨a1, none, rfl, z, q⟩
    | some w =>
      rw [hl] at q z
      obtain ⟨v, g, r⟩ := z
      exact ⟨a1, some v, rfl, g, q⟩
  · cases h
section
variable (hu : X.A.units + 1 < cLine) (ha : PE X a (tPu G W fa)) (hb : PE X b (tPu G W fb))
include hu ha hb
theorem q_din (hm : behindInMarks .In b = false := by rfl) : PT X (.Compare a [.In] [b] pos) (tPuT G W (cT cDIn fa fb)) :=
  pt_imp (pt_cmp (pc_din hu (pu_fz ha) (pu_fz hb)) hm) fun σ H Q ⟨ρ, T, e, st, q⟩ => ⟨ρ, T, e, st, (PostT.bind q).mono fun v H1 ⟨d, T1, _, gr, rp, q1⟩ => ⟨ρ, T1, gr.s, st.mono gr, (PostT.bind q1).mono fun u H2 ⟨d2, T2, _, gr2, rp2, q2⟩ => by
    have q2 : PostT G W σ T2 H2 (oB (cDIn d d2)) Q := q2
    cases h : cDIn d d2 with
    | none => rw [h] at q2; exact q2.elim
    | some k => rw [h] at q2; exact okDIn T2 H2 v u d d2 k (fun x H1 => ∃ c, x = .bl c ∧ Q c H1) gr2.s (rp.1.mono gr2) rp2.1 h ⟨k, rfl, q2 T2 H2 (Gr.refl gr2.s)⟩⟩⟩
theorem q_dnin (hm : behindInMarks .NotIn b = false := by rfl) : PT X (.Compare a [.NotIn] [b] pos) (tPuT G W (cT cDNotIn fa fb)) :=
  pt_imp (pt_cmp (pc_dnotin hu (pu_fz ha) (pu_fz hb)) hm) fun σ H Q ⟨ρ, T, e, st, q⟩ => ⟨ρ, T, e, st, (PostT.bind q).mono fun v H1 ⟨d, T1, _, gr, rp, q1⟩ => ⟨ρ, T1, gr.s, st.mono gr, (PostT.bind q1).mono fun u H2 ⟨d2, T2, _, gr2, rp2, q2⟩ => by
    have q2 : PostT G W σ T2 H2 (oB (cDNotIn d d2)) Q := q2
    cases h : cDIn d d2 with
    | none => rw [show cDNotIn d d2 = none by unfold cDNotIn; rw [h]; rfl] at q2; exact q2.elim
    | some k =>
      rw [show cDNotIn d d2 = some (!k) by unfold cDNotIn; rw [h]; rfl] at q2
      obtain ⟨a1, o, e1, g, e2⟩ := okDIn T2 H2 v u d d2 k (fun v H' => H' = H2 ∧ v = .bl k) gr2.s (rp.1.mono gr2) rp2.1 h ⟨rfl, rfl⟩
      have e3 : o.isSome = k := by have := e2.2; injection this
      exact ⟨a1, o, e1, g, !k, by rw [e3], q2 T2 H2 (Gr.refl gr2.s)⟩⟩⟩
end

/-! ### slices -/
def tPuO (G : Gx) (W : WX) (f : Rho → R (Option Int)) : TO := fun σ H Q => ∃ ρ T, Ex T H ∧ StV G ρ σ T H ∧ PostT G W σ T H (f ρ) Q
def asI : D → R (Option Int)
  | .p (.int i) => .ok (some i)
  | _ => .bad
@[simp] def fNo : Rho → R (Option Int) := fun _ => .ok none
@[simp] def fSo (f : Rho → R D) : Rho → R (Option Int) := fun ρ => (fz f ρ).bind asI
theorem po_imp {o : Option Expr} {t t' : TO} (h : PO X o t) (i : ∀ σ H Q, t' σ H Q → t σ H Q) : PO X o t' := ⟨fun pins s σ H Q I hw => h.run pins s σ H Q I (i σ H Q hw)⟩
theorem o_none : PO X none (tPuO G W fNo) := po_imp po_none fun σ H Q ⟨ρ, T, e, st, q⟩ => q T H (Gr.refl e)
theorem o_some (h : PE X e (tPu G W f)) : PO X (some e) (tPuO G W (fSo f)) := po_imp (po_some (pu_fz h)) fun σ H Q ⟨ρ, T, e, st, q⟩ => ⟨ρ, T, e, st, (PostT.bind q).mono fun v H1 ⟨d, T1, _, gr, rp, q1⟩ => by
  unfold asI at q1
  split at q1
  · cases rint rp.1
    exact ⟨_, rfl, q1 T1 H1 (Gr.refl gr.s)⟩
  · exact q1.elim⟩
theorem cut_rel {T : Hp} {vs : List V} {xs : List P} (r : RpL G T vs xs) (lo hi : Option Int) : RpL G T (cutV vs lo hi) (cutL xs lo hi) := by
  unfold cutV cutL
  rw [r.length]
  exact (r.drop _).take _
@[simp] def fSl (f : Rho → R D) (lo hi : Rho → R (Option Int)) : Rho → R D := fun ρ => (fz f ρ).bind fun d => (lo ρ).bind fun l => (hi ρ).bind fun h => gSl l h d
theorem p_sl {lo hi : Option Expr} {fl fh : Rho → R (Option Int)} {p2 : Pos} (he : PE X e (tPu G W f)) (hl : PO X lo (tPuO G W fl)) (hh : PO X hi (tPuO G W fh)) (hK : X.K = G.K := by rfl) : PE X (.Subscript e (.Slice lo hi none p2) pos) (tPu G W (fSl f fl fh)) :=
  pe_imp (pe_slice (sl_list.or sl_str) (pu_fz he) hl hh) fun σ H Q ⟨ρ, T, ex, st, q⟩ => ⟨ρ, T, ex, st, (PostE.bind q).mono fun v H1 ⟨d, T1, _, gr, rp, q1⟩ => ⟨ρ, T1, gr.s, st.mono gr, (PostE.bindT q1).monoQ fun l H2 ⟨T2, gr2, q2⟩ =>
    ⟨ρ, T2, gr2.s, (st.mono gr).mono gr2, (PostE.bindT q2).monoQ fun h H3 ⟨T3, gr3, q3⟩ => by
      have rx := (rp.1.mono gr2).mono gr3
      unfold gSl at q3
      split at q3
      · cases rstr rx
        split at q3
        · rename_i hz
          exact .inr ⟨_, rfl, by rw [big]; exact hz, q3.p gr3.s (.str _)⟩
        · exact q3.elim
      · obtain ⟨a1, vs, rfl, h1, r1⟩ := rls rx rfl gr3.s
        exact .inl ⟨a1, vs, rfl, SqL.of h1, post_new gr3.s (cut_rel r1 l h) q3⟩
      · obtain ⟨a1, vs, rfl, h1, r1⟩ := rls rx rfl gr3.s
        exact .inl ⟨a1, vs, rfl, SqL.of h1, post_new gr3.s (cut_rel r1 l h) q3⟩
      · exact q3.elim⟩⟩⟩

/-! ### argument lists, displays -/
theorem PostA.mono {σ : L2.St} {T H : Hp} {r : R (List D)} {Q Q' : List V → Hp → Prop} (h : PostA G W σ T H r Q) (k : ∀ v H', Q v H' → Q' v H') : PostA G W σ T H r Q' := by
  cases r with
  | ok d => exact fun v T' H' g q => k _ _ (h v T' H' g q)
  | ex c => exact h
  | bad => exact h
@[simp] def aN : Rho → R (List D) := fun _ => .ok []
@[simp] def aC (f : Rho → R D) (fs : Rho → R (List D)) : Rho → R (List D) := fun ρ => (fz f ρ).bind fun d => (fs ρ).bind fun ds => .ok (d :: ds)
theorem a_nil : PA X [] (tPuA G W aN) := pa_imp pa_nil fun σ H Q ⟨ρ, T, ex, st, q⟩ => q [] T H (Gr.refl ex) trivial
theorem a_cons (he : PE X e (tPu G W f)) (hr : PA X es (tPuA G W fs)) (hs : starEach (e :: es) X.env = (false, eval e X.env) :: starEach es X.env := by rfl) : PA X (e :: es) (tPuA G W (aC f fs)) :=
  pa_imp (pa_cons (pu_fz he) hr hs) fun σ H Q ⟨ρ, T, ex, st, q⟩ => ⟨ρ, T, ex, st, (PostA.bindE q).mono fun v H1 ⟨d, T1, _, gr, rp, q1⟩ => ⟨ρ, T1, gr.s, st.mono gr, (PostA.bind q1).mono fun vs H2 ⟨ds, T2, _, gr2, rps, q2⟩ =>
    q2 (v :: vs) T2 H2 (Gr.refl gr2.s) ⟨rp.1.mono gr2, rps⟩⟩⟩
def allP : List D → Option (List P)
  | [] => some []
  | .p x :: r => (allP r).map (x :: ·)
  | _ :: _ => none
@[simp] theorem allP_nil : allP [] = some [] := rfl
@[simp] theorem allP_cons (x : P) (r : List D) : allP (.p x :: r) = (allP r).map (x :: ·) := rfl
theorem allP_rel {T H : Hp} : ∀ {vs : List V} {ds : List D} {xs : List P}, RepL G T H vs ds → allP ds = some xs → RpL G T vs xs
  | [], [], _, _, e => by cases e; exact .nil
  | v :: vs, .p x :: ds, xs, h, e => by
    obtain ⟨ys, e1, rfl⟩ := Option.map_eq_some_iff.mp e
    exact .cons h.1 (allP_rel h.2 e1)
  | v :: vs, .hl _ _ :: ds, xs, h, e => by cases e
  | v :: vs, .hd _ _ :: ds, xs, h, e => by cases e
  | v :: vs, .ho _ _ :: ds, xs, h, e => by cases e
  | v :: vs, .gh _ _ _ :: ds, xs, h, e => by cases e
  | v :: vs, .hos _ _ :: ds, xs, h, e => by cases e
  | [], _ :: _, _, h, _ => h.elim
  | _ :: _, [], _, h, _ => h.elim
def gLst (ds : List D) : R D := match allP ds with
  | some xs => if xs.length ≤ 16777216 then .ok (.hl .new xs) else .bad
  | none => .bad
def gTup (ds : List D) : R D := match allP ds with
  | some xs => if xs.length ≤ 16777216 then .ok (.p (.tup xs)) else .bad
  | none => .bad
@[simp] def fA (g : List D → R D) (fs : Rho → R (List D)) : Rho → R D := fun ρ => (fs ρ).bind g
@[simp] theorem asI_int (i : Int) : asI (.p (.int i)) = .ok (some i) := rfl
@[simp] theorem gSl_str (lo hi : Option Int) (s : Str) : gSl lo hi (.p (.str s)) = if s.length ≤ 16777216 then .ok (.p (.str (cutS s lo hi))) else .bad := rfl
@[simp] theorem gSl_lst (lo hi : Option Int) (s : List P) : gSl lo hi (.p (.lst s)) = .ok (.hl .new (cutL s lo hi)) := rfl
@[simp] theorem gSl_hl (lo hi : Option Int) (m : M) (s : List P) : gSl lo hi (.hl m s) = .ok (.hl .new (cutL s lo hi)) := rfl
theorem p_lst (h : PA X es (tPuA G W fs)) : PE X (.List es pos) (tPu G W (fA gLst fs)) := pe_imp (pe_lst h) fun σ H Q ⟨ρ, T, ex, st, q⟩ => ⟨ρ, T, ex, st, (PostE.bindA q).mono fun vs H1 ⟨ds, T1, _, gr, rps, q1⟩ => by
  unfold gLst at q1
  split at q1
  · rename_i xs hx
    have r := allP_rel rps hx
    split at q1
    · rename_i hl
      exact ⟨by rw [big, r.length]; exact hl, post_new gr.s r q1⟩
    · exact q1.elim
  · exact q1.elim⟩
theorem p_tup {x1} (h : PA X es (tPuA G W fs)) : PE X (.Tuple es x1 pos) (tPu G W (fA gTup fs)) := pe_imp (pe_tup h) fun σ H Q ⟨ρ, T, ex, st, q⟩ => ⟨ρ, T, ex, st, (PostE.bindA q).mono fun vs H1 ⟨ds, T1, _, gr, rps, q1⟩ => by
  unfold gTup at q1
  split at q1
  · rename_i xs hx
    have r := allP_rel rps hx
    split at q1
    · rename_i hl
      exact ⟨by rw [big, r.length]; exact hl, post_tup gr.s r q1⟩
    · exact q1.elim
  · exact q1.elim⟩

/-! ### built-ins by name -/
def CallOk (G : Gx) (r : List V → Hp → VK → Prop) (g : List D → R D) : Prop := ∀ (W : WX) (σ : L2.St) (T H : Hp) (vs : List V) (ds : List D) (Q : VK), Ex T H → RepL G T H vs ds → PostE G W σ T H (g ds) Q → r vs H Q
theorem p_cb {id : String} {x : Str} {r : List V → Hp → VK → Prop} {g : List D → R D} {p : Pos} (hc : CallR X (.builtin id) r) (ok : CallOk G r g) (hm : X.mg x = none) (hv : bootBuiltins x = some (.builtin id)) (ha : PA X (e :: es) (tPuA G W fs)) (hg : Gl X x := by rfl) :
    (hn : x ≠ "__name__" := by decide) → (hdb : (x == ("__debug__" : Str)) = false := by decide) → (he : starEach (e :: es) X.env = (false, eval e X.env) :: starEach es X.env := by rfl) → (hpl : (backTo pos (starEach es X.env)).any (·.1) = false := by rfl) →
    PE X (.Call (.Name x p) (e :: es) [] pos) (tPu G W (fA g fs)) := fun hn hdb he hpl =>
  pe_imp (pe_callB hc hg hm hv ha hn hdb he hpl) fun σ H Q ⟨ρ, T, ex, st, q⟩ => ⟨ρ, T, ex, st, (PostE.bindA q).mono fun vs H1 ⟨ds, T1, _, gr, rps, q1⟩ => ok W σ T1 H1 vs ds Q gr.s rps q1⟩
theorem p_ct {T' : String} {x : Str} {r : List V → Hp → VK → Prop} {g : List D → R D} {p : Pos} (hc : CallR X (.type T') r) (ok : CallOk G r g) (hm : X.mg x = none) (hv : bootBuiltins x = some (.type T')) (ha : PA X (e :: es) (tPuA G W fs)) (hg : Gl X x := by rfl) :
    (hn : x ≠ "__name__" := by decide) → (hdb : (x == ("__debug__" : Str)) = false := by decide) → (he : starEach (e :: es) X.env = (false, eval e X.env) :: starEach es X.env := by rfl) → (hpl : (backTo pos (starEach es X.env)).any (·.1) = false := by rfl) →
    PE X (.Call (.Name x p) (e :: es) [] pos) (tPu G W (fA g fs)) := fun hn hdb he hpl =>
  pe_imp (pe_callTy hc hg hm hv ha hn hdb he hpl) fun σ H Q ⟨ρ, T, ex, st, q⟩ => ⟨ρ, T, ex, st, (PostE.bindA q).mono fun vs H1 ⟨ds, T1, _, gr, rps, q1⟩ => ok W σ T1 H1 vs ds Q gr.s rps q1⟩
end
end SP
/-! SP4: built-in functions, calls of defs and methods, comprehensions. -/
namespace SP
open PySem PySem.Spec PyProof.Rows L2

def D.siz : D → Option Nat
  | .p (.str s) => if s.length ≤ 16777216 then some s.length else none
  | .p (.lst xs) => some xs.length
  | .p (.tup xs) => some xs.length
  | .p (.scr xs) => some xs.length
  | .hl _ xs => some xs.length
  | .hd _ xs => some xs.length
  | _ => none
def oI : Option Nat → R D
  | some n => .ok (.p (.int n))
  | none => .bad
def gLen : List D → R D
  | [d] => oI d.siz
  | _ => .bad
@[simp] theorem gLen_one (d : D) : gLen [d] = oI d.siz := rfl
@[simp] theorem oI_some (n : Nat) : oI (some n) = .ok (.p (.int n)) := rfl
@[simp] theorem siz_lst (xs : List P) : D.siz (.p (.lst xs)) = some xs.length := rfl
@[simp] theorem siz_tup (xs : List P) : D.siz (.p (.tup xs)) = some xs.length := rfl
@[simp] theorem siz_scr (xs : List Int) : D.siz (.p (.scr xs)) = some xs.length := rfl
@[simp] theorem siz_hl (m : M) (xs : List P) : D.siz (.hl m xs) = some xs.length := rfl
@[simp] theorem siz_hd (m : M) (xs : List (Key × P)) : D.siz (.hd m xs) = some xs.length := rfl
@[simp] theorem siz_str (s : Str) : D.siz (.p (.str s)) = if s.length ≤ 16777216 then some s.length else none := rfl
def rLenA (K : PySem.W.Frag) : List V → Hp → VK → Prop := fun xs H Q => (∃ x n, xs = [x] ∧ LenV K x H n ∧ Q (.int n) H) ∨ ∃ a kvs, xs = [V.ref a] ∧ Rd H a (.dK kvs) ∧ Q (.int kvs.length) H
theorem call_lenRd {X : Cx} : CallR X (.builtin "len") (fun xs H Q => ∃ a kvs, xs = [V.ref a] ∧ Rd H a (.dK kvs) ∧ Q (.int kvs.length) H) := by
  intro pins s σ H xs us Q I r h
  obtain ⟨a, kvs, rfl, ha, q⟩ := h
  obtain ⟨u, rfl, ru⟩ := vals1 r
  cases ru
  exact d_len I ha fun t s' I' => ⟨.int kvs.length, H, I', ⟨t, rfl⟩, q⟩
theorem call_lenA {X : Cx} : CallR X (.builtin "len") (rLenA X.K) := call_len.or call_lenRd
theorem siz_ok {G : Gx} {T H : Hp} {v : V} {d : D} {n : Nat} {Q : VK} (ex : Ex T H) (rv : Rep G T H v d) (h : d.siz = some n) (q : Q (.int n) H) : rLenA G.K [v] H Q := by
  cases d with
  | p x =>
    cases x with
    | str s =>
      cases rstr rv
      have h : (if s.length ≤ 16777216 then some s.length else none) = some n := h
      split at h
      · rename_i hl
        cases h
        exact .inl ⟨_, _, rfl, ⟨by rw [big]; exact hl, rfl⟩, q⟩
      · cases h
    | lst xs =>
      cases h
      obtain ⟨a, us, rfl, h1, r1⟩ := rls rv rfl ex
      exact .inl ⟨_, _, rfl, .inl ⟨us, SqL.of h1, r1.length.symm⟩, q⟩
    | tup xs =>
      cases h
      obtain ⟨a, us, rfl, h1, r1⟩ := rtup rv
      exact .inl ⟨_, _, rfl, .inr ⟨us, SqT.of (ex _ _ h1), r1.length.symm⟩, q⟩
    | scr xs =>
      cases h
      obtain ⟨a, rfl, h1⟩ := rscr rv
      exact .inl ⟨_, _, rfl, .inl ⟨_, ex.seq h1, (List.length_map ..).symm⟩, q⟩
    | non => cases h
    | bl b => cases h
    | int i => cases h
  | hl m xs =>
    cases h
    obtain ⟨a, us, rfl, h1, r1⟩ := rls rv rfl ex
    exact .inl ⟨_, _, rfl, .inl ⟨us, SqL.of h1, r1.length.symm⟩, q⟩
  | hd m xs =>
    cases h
    obtain ⟨a, us, rfl, h1, h2, h3, r1⟩ := rv
    have e := r1.length
    rw [List.length_map, List.length_map] at e
    refine .inr ⟨a, us, rfl, h2, ?_⟩
    rw [e]
    exact q
  | ho m S => cases h
  | gh m x ps => cases h
  | hos m x => cases h
theorem okLen {G : Gx} : CallOk G (rLenA G.K) gLen := fun W σ T H vs ds Q ex r q => by
  match vs, ds, r, q with
  | [v], [d], ⟨rv, _⟩, q =>
    have q : PostE G W σ T H (oI d.siz) Q := q
    cases h : d.siz with
    | none => rw [h] at q; exact q.elim
    | some n => rw [h] at q; exact siz_ok ex rv h (PostE.p q ex (.int _))
  | [], [], _, q => exact q.elim
  | _ :: _ :: _, _ :: _ :: _, _, q => exact q.elim
def istr (i : Int) : Str := toString i
def bStr : List D → R D
  | [.p (.int i)] => if i.natAbs.log2 < 1920 then .ok (.p (.str (istr i))) else .bad
  | _ => .bad
@[simp] theorem bStr_int (i : Int) : bStr [.p (.int i)] = if i.natAbs.log2 < 1920 then .ok (.p (.str (istr i))) else .bad := rfl
theorem okStr {G : Gx} : CallOk G (fun xs H Q => ∃ i, xs = [.int i] ∧ i.natAbs.log2 < 1920 ∧ Q (.str (toString i)) H) bStr := fun W σ T H vs ds Q ex r q => by
  unfold bStr at q
  split at q
  · match vs, r with
    | [v], ⟨rv, _⟩ =>
      cases rint rv
      split at q
      · rename_i hl
        exact ⟨_, rfl, hl, q.p ex (.str _)⟩
      · exact q.elim
  · exact q.elim
def bInt : List D → R D
  | [.p (.int i)] => .ok (.p (.int i))
  | [.p (.bl b)] => .ok (.p (.int (if b then 1 else 0)))
  | [.p (.str s)] => if s.length ≤ 640 then (match PySem.intText? s with | some n => .ok (.p (.int n)) | none => .bad) else .bad
  | _ => .bad
@[simp] theorem bInt_int (i : Int) : bInt [.p (.int i)] = .ok (.p (.int i)) := rfl
@[simp] theorem bInt_bl (b : Bool) : bInt [.p (.bl b)] = .ok (.p (.int (if b then 1 else 0))) := rfl
theorem okInt {G : Gx} : CallOk G (fun xs H Q => ((∃ i, xs = [.int i] ∧ Q (.int i) H) ∨ ∃ k, xs = [.bl k] ∧ Q (.int (if k then 1 else 0)) H) ∨ ∃ a n, xs = [.str a] ∧ PySem.intText? a = some n ∧ a.length ≤ 640 ∧ Q (.int n) H) bInt := fun W σ T H vs ds Q ex r q => by
  unfold bInt at q
  split at q
  · match vs, r with
    | [v], ⟨rv, _⟩ =>
      cases rint rv
      exact .inl (.inl ⟨_, rfl, q.p ex (.int _)⟩)
  · match vs, r with
    | [v], ⟨rv, _⟩ =>
      cases rbl rv
      exact .inl (.inr ⟨_, rfl, q.p ex (.int _)⟩)
  · rename_i s
    match vs, r with
    | [v], ⟨rv, _⟩ =>
      cases rstr rv
      split at q
      · rename_i hl
        cases h : PySem.intText? s with
        | none => rw [h] at q; exact q.elim
        | some n => rw [h] at q; exact .inr ⟨_, n, rfl, h, hl, q.p ex (.int _)⟩
      · exact q.elim
  · exact q.elim
def gList : List D → R D
  | [.p (.lst xs)] => .ok (.hl .new xs)
  | [.p (.tup xs)] => .ok (.hl .new xs)
  | [.hl _ xs] => .ok (.hl .new xs)
  | _ => .bad
@[simp] theorem gList_lst (xs : List P) : gList [.p (.lst xs)] = .ok (.hl .new xs) := rfl
@[simp] theorem gList_hl (m : M) (xs : List P) : gList [.hl m xs] = .ok (.hl .new xs) := rfl
theorem okList {G : Gx} : CallOk G (fun xs H Q => ∃ p ys, xs = [.ref p] ∧ (SqL G.K H p ys ∨ SqT G.K H p ys) ∧ ∀ l, H l = none → Q (.ref l) (upd H l (.lst ys))) gList := fun W σ T H vs ds Q ex r q => by
  unfold gList at q
  split at q
  · match vs, r with
    | [v], ⟨rv, _⟩ =>
      obtain ⟨a, us, rfl, h1, r1⟩ := rls rv rfl ex
      exact ⟨a, us, rfl, .inl (SqL.of h1), post_new ex r1 q⟩
  · match vs, r with
    | [v], ⟨rv, _⟩ =>
      obtain ⟨a, us, rfl, h1, r1⟩ := rtup rv
      exact ⟨a, us, rfl, .inr (SqT.of (ex _ _ h1)), post_new ex r1 q⟩
  · match vs, r with
    | [v], ⟨rv, _⟩ =>
      obtain ⟨a, us, rfl, h1, r1⟩ := rls rv rfl ex
      exact ⟨a, us, rfl, .inl (SqL.of h1), post_new ex r1 q⟩
  · exact q.elim
/-- a list of intsOf -/
def intsOf : List P → Option (List Int)
  | [] => some []
  | .int i :: r => (intsOf r).map (i :: ·)
  | _ :: _ => none
@[simp] theorem ints_map : ∀ ns : List Int, intsOf (ns.map P.int) = some ns
  | [] => rfl
  | n :: r => by show (intsOf (r.map P.int)).map (n :: ·) = _; rw [ints_map r]; rfl
theorem ints_of : ∀ {xs : List P} {ns : List Int}, intsOf xs = some ns → xs = ns.map P.int
  | [], ns, h => by cases h; rfl
  | x :: r, ns, h => by
    cases x <;> first
      | (obtain ⟨ms, e1, rfl⟩ := Option.map_eq_some_iff.mp h; rw [ints_of e1]; rfl)
      | cases h
theorem ints_rel {G : Gx} {T : Hp} : ∀ {vs : List V} {ns : List Int}, RpL G T vs (ns.map P.int) → vs = ns.map V.int
  | [], [], _ => rfl
  | [], _ :: _, h => by cases h
  | _ :: _, [], h => by cases h
  | v :: vs, n :: ns, h => by
    cases h with
    | cons h1 h2 => cases h1; rw [ints_rel h2]; rfl
def gSum : List D → R D
  | [d] => match d.ls with
    | some xs => match intsOf xs with
      | some ns => .ok (.p (.int ns.sum))
      | none => .bad
    | none => .bad
  | _ => .bad
theorem okSum {G : Gx} : CallOk G (rSum G.K) gSum := fun W σ T H vs ds Q ex r q => by
  unfold gSum at q
  split at q
  · match vs, r with
    | [v], ⟨rv, _⟩ =>
      split at q
      · rename_i xs hx
        split at q
        · rename_i ns hn
          obtain ⟨a, us, rfl, h1, r1⟩ := rls rv hx ex
          rw [ints_of hn] at r1
          have e := ints_rel r1
          subst e
          exact ⟨a, ns, rfl, SqL.of h1, q.p ex (.int _)⟩
        · exact q.elim
      · exact q.elim
  · exact q.elim
def maxI (ns : List Int) : Int := ns.tail.foldl max (ns.headD 0)
theorem foldl_max : ∀ (ns : List Int) (a : Int), (∀ y ∈ ns, y ≤ ns.foldl max a) ∧ a ≤ ns.foldl max a ∧ (ns.foldl max a = a ∨ ns.foldl max a ∈ ns)
  | [], a => ⟨fun _ h => (nomatch h), Int.le_refl a, .inl rfl⟩
  | n :: r, a => by
    obtain ⟨h1, h2, h3⟩ := foldl_max r (max a n)
    show (∀ y ∈ n :: r, y ≤ r.foldl max (max a n)) ∧ a ≤ r.foldl max (max a n) ∧ (r.foldl max (max a n) = a ∨ r.foldl max (max a n) ∈ n :: r)
    refine ⟨fun y hy => ?_, by omega, ?_⟩
    · rcases List.mem_cons.mp hy with rfl | hy
      · omega
      · exact h1 y hy
    · rcases h3 with h3 | h3
      · by_cases c : a ≤ n
        · right; rw [h3, show max a n = n by omega]; exact List.mem_cons_self
        · left; rw [h3]; omega
      · right; exact List.mem_cons_of_mem _ h3
theorem maxI_spec {ns : List Int} (h : 0 < ns.length) : maxI ns ∈ ns ∧ ∀ y ∈ ns, y ≤ maxI ns := by
  cases ns with
  | nil => exact absurd h (by simp)
  | cons n r =>
    obtain ⟨h1, h2, h3⟩ := foldl_max r n
    show r.foldl max n ∈ n :: r ∧ ∀ y ∈ n :: r, y ≤ r.foldl max n
    refine ⟨?_, fun y hy => ?_⟩
    · rcases h3 with h3 | h3
      · rw [h3]; exact List.mem_cons_self
      · exact List.mem_cons_of_mem _ h3
    · rcases List.mem_cons.mp hy with rfl | hy
      · exact h2
      · exact h1 y hy
def gMax : List D → R D
  | [.p (.int i), .p (.int j)] => .ok (.p (.int (if j > i then j else i)))
  | [d] => match d.ls with
    | some xs => match intsOf xs with
      | some ns => if 0 < ns.length then .ok (.p (.int (maxI ns))) else .bad
      | none => .bad
    | none => .bad
  | _ => .bad
theorem okMax {G : Gx} : CallOk G (fun xs H Q => (∃ i j, xs = [.int i, .int j] ∧ Q (.int (if j > i then j else i)) H) ∨ rMax G.K xs H Q) gMax := fun W σ T H vs ds Q ex r q => by
  unfold gMax at q
  split at q
  · match vs, r with
    | [v, u], ⟨rv, ru, _⟩ =>
      cases rint rv; cases rint ru
      exact .inl ⟨_, _, rfl, q.p ex (.int _)⟩
  · match vs, r with
    | [v], ⟨rv, _⟩ =>
      split at q
      · rename_i xs hx
        split at q
        · rename_i ns hn
          split at q
          · rename_i hl
            obtain ⟨a, us, rfl, h1, r1⟩ := rls rv hx ex
            rw [ints_of hn] at r1
            have e := ints_rel r1
            subst e
            refine .inr ⟨a, ns, rfl, SqL.of h1, hl, fun m hm hle => ?_⟩
            obtain ⟨s1, s2⟩ := maxI_spec hl
            have e : m = maxI ns := Int.le_antisymm (s2 m hm) (hle _ s1)
            rw [e]
            exact q.p ex (.int _)
          · exact q.elim
        · exact q.elim
      · exact q.elim
  · exact q.elim
def gMin : List D → R D
  | [.p (.int i), .p (.int j)] => .ok (.p (.int (if j < i then j else i)))
  | _ => .bad
theorem okMin {G : Gx} : CallOk G (fun xs H Q => ∃ i j, xs = [.int i, .int j] ∧ Q (.int (if j < i then j else i)) H) gMin := fun W σ T H vs ds Q ex r q => by
  unfold gMin at q
  split at q
  · match vs, r with
    | [v, u], ⟨rv, ru, _⟩ =>
      cases rint rv; cases rint ru
      exact ⟨_, _, rfl, q.p ex (.int _)⟩
  · exact q.elim

/-! ### isinstance of a built-in class -/
def tyName : D → Option String
  | .p .non => some "NoneType"
  | .p (.bl _) => some "bool"
  | .p (.int _) => some "int"
  | .p (.str _) => some "str"
  | .p (.lst _) => some "list"
  | .p (.tup _) => some "tuple"
  | .hl _ _ => some "list"
  | _ => none
theorem tyName_ok {K : PySem.W.Frag} {G : Gx} {T H : Hp} {v : V} {d : D} {n : String} (e : Ex T H) (r : Rep G T H v d) (h : tyName d = some n) : TyX K H v (.type n) := by
  cases d with
  | p x =>
    cases x with
    | non => cases h; cases rnon r; exact .base .non
    | bl b => cases h; cases rbl r; exact .base (.bl _)
    | int b => cases h; cases rint r; exact .base (.int _)
    | str b => cases h; cases rstr r; exact .base (.str _)
    | lst b => cases h; obtain ⟨a, vs, rfl, h1, _⟩ := rls r rfl e; exact .base (.lst h1)
    | tup b => cases h; obtain ⟨a, vs, rfl, h1, _⟩ := rtup r; exact .base (.tup (e _ _ h1))
    | scr b => cases h
  | hl m x => cases h; obtain ⟨a, vs, rfl, h1, _⟩ := rls r rfl e; exact .base (.lst h1)
  | hd m x => cases h
  | ho m x => cases h
  | gh m x ps => cases h
  | hos m x => cases h
def gIsi (t : String) (d : D) : R D := match tyName d with
  | some n => match kitB n t with
    | some b => .ok (.p (.bl b))
    | none => .bad
  | none => .bad
theorem kitB_tab : kitB "int" "int" = some true ∧ kitB "int" "bool" = some false ∧ kitB "int" "str" = some false ∧ kitB "int" "list" = some false ∧ kitB "int" "tuple" = some false ∧
    kitB "bool" "int" = some true ∧ kitB "bool" "bool" = some true ∧ kitB "str" "int" = some false ∧ kitB "str" "bool" = some false ∧ kitB "str" "str" = some true ∧ kitB "NoneType" "int" = some false ∧ kitB "NoneType" "bool" = some false ∧
    kitB "list" "int" = some false ∧ kitB "list" "bool" = some false ∧ kitB "list" "list" = some true ∧ kitB "list" "str" = some false ∧ kitB "tuple" "int" = some false ∧ kitB "tuple" "bool" = some false ∧ kitB "tuple" "tuple" = some true ∧ kitB "list" "tuple" = some false ∧ kitB "tuple" "list" = some false ∧ kitB "NoneType" "str" = some false := by decide +kernel
@[simp] theorem isi_int_int (i : Int) : gIsi "int" (.p (.int i)) = .ok (.p (.bl true)) := by unfold gIsi tyName; simp [kitB_tab]
@[simp] theorem isi_int_bool (i : Int) : gIsi "bool" (.p (.int i)) = .ok (.p (.bl false)) := by unfold gIsi tyName; simp [kitB_tab]
@[simp] theorem isi_str_str (i : Str) : gIsi "str" (.p (.str i)) = .ok (.p (.bl true)) := by unfold gIsi tyName; simp [kitB_tab]
@[simp] theorem isi_lst (i : List P) : gIsi "list" (.p (.lst i)) = .ok (.p (.bl true)) := by unfold gIsi tyName; simp [kitB_tab]
@[simp] theorem isi_hl (m : M) (i : List P) : gIsi "list" (.hl m i) = .ok (.p (.bl true)) := by unfold gIsi tyName; simp [kitB_tab]
@[simp] theorem isi_tup (i : List P) : gIsi "tuple" (.p (.tup i)) = .ok (.p (.bl true)) := by unfold gIsi tyName; simp [kitB_tab]
section
variable {X : Cx} {G : Gx} {W : WX} {e a b c : Expr} {es : List Expr} {f fa fb fc : Rho → R D} {ca cb : Rho → R Bool} {fs : Rho → R (List D)} {pos : Pos}
theorem p_isi {n : Str} {t : String} {p q : Pos} (hm : X.mg "isinstance" = none) (ht : X.mg n = none) (hv : bootBuiltins n = some (.type t)) (ha : PE X a (tPu G W fa)) (hg : Gl X "isinstance" := by rfl) (hgt : Gl X n := by rfl) :
    (hn : n ≠ "__name__" := by decide) → (hdb : (n == ("__debug__" : Str)) = false := by decide) →
    (hs1 : starEach (.Name n q :: []) X.env = (false, eval (.Name n q) X.env) :: starEach [] X.env := by rfl) → (hs2 : starEach (a :: [.Name n q]) X.env = (false, eval a X.env) :: starEach [.Name n q] X.env := by rfl) → (hpl : (backTo pos (starEach [.Name n q] X.env)).any (·.1) = false := by rfl) →
    PE X (.Call (.Name "isinstance" p) [a, .Name n q] [] pos) (tPu G W (f1 (gIsi t) fa)) := fun hn hdb hs1 hs2 hpl =>
  pe_imp (pe_callB call_isi hg hm (by decide +kernel) (pa_cons (pu_fz ha) (pa_cons (pe_bltn (v := .ty t) hgt ht hv rfl hn hdb) pa_nil hs1) hs2) (by decide) (by decide) hs2 hpl) fun σ H Q ⟨ρ, T, ex, st, q⟩ => ⟨ρ, T, ex, st, (PostE.bind q).mono fun v H1 ⟨d, T1, _, gr, rp, q1⟩ => by
    unfold gIsi at q1
    split at q1
    · rename_i m hmm
      split at q1
      · rename_i k hk
        exact ⟨v, .ty t, .type m, .type t, k, rfl, .ty t, tyName_ok gr.s rp.1 hmm, kit_ty hk, q1.p gr.s (.bl k)⟩
      · exact q1.elim
    · exact q1.elim⟩

/-! ### the program's own defs -/
def D.ro : D → D
  | .p x => .p x
  | .hl _ xs => .hl .ro xs
  | .hd _ xs => .hd .ro xs
  | .ho _ S => .ho .ro S
  | .gh _ x ps => .gh .ro x ps
  | .hos _ x => .hos .ro x
@[simp] theorem ro_p (x : P) : D.ro (.p x) = .p x := rfl
@[simp] theorem ro_hl (m : M) (x : List P) : D.ro (.hl m x) = .hl .ro x := rfl
@[simp] theorem ro_hd (m : M) (x : List (Key × P)) : D.ro (.hd m x) = .hd .ro x := rfl
@[simp] theorem ro_ho (m : M) (x : SX) : D.ro (.ho m x) = .ho .ro x := rfl
theorem Rep.ro {T H : Hp} {v : V} {d : D} (h : Rep G T H v d) : Rep G T H v d.ro := by cases d <;> exact h
theorem RepL.ro {T H : Hp} : ∀ {vs : List V} {ds : List D}, RepL G T H vs ds → RepL G T H vs (ds.map D.ro)
  | [], [], _ => trivial
  | _ :: _, _ :: _, h => ⟨h.1.ro, RepL.ro h.2⟩
  | [], _ :: _, h => h.elim
  | _ :: _, [], h => h.elim
/-- what is wanted behind a def -/
def PostF (G : Gx) (E : XK) (T H : Hp) : R D → VK → Prop
  | .ok d, Q => ∀ v T' H', Gr T H T' H' → RepN G H T' H' v d → Q v H'
  | .ex c, _ => ∀ H', Ex H H' → E (.ref (G.ec c)) none H'
  | .bad, _ => False
/-- a def's promise by a plain function of its n arguments -/
def spF (G : Gx) (n : Nat) (F : List D → R D) : Sp := fun vs H Q E => ∃ T ds, Ex T H ∧ RepL G T H vs ds ∧ ds.length = n ∧ PostF G E T H (F ds) Q
@[simp] def fCall (n : Nat) (F : List D → R D) (fs : Rho → R (List D)) : Rho → R D := fA (fun ds => if ds.length = n then F (ds.map D.ro) else .bad) fs
theorem call_spec {σ : L2.St} {T H : Hp} {vs : List V} {ds : List D} {n : Nat} {F : List D → R D} {Q : VK} (ex : Ex T H) (r : RepL G T H vs ds) (q : PostE G W σ T H (if ds.length = n then F (ds.map D.ro) else .bad) Q) : spF G n F vs H Q (WE W σ) := by
  split at q
  · rename_i hn
    refine ⟨T, ds.map D.ro, ex, r.ro, by rw [List.length_map]; exact hn, ?_⟩
    cases h : F (ds.map D.ro) with
    | ok d => rw [h] at q; exact q
    | ex c => rw [h] at q; exact q
    | bad => rw [h] at q; exact q
  · exact q.elim
section
variable {k : Nat} {fa' C : Addr} {fd : FuncData} {ps : List Str} {x m : Str} {p apos : Pos} {n : Nat} {F : List D → R D} {o : Expr}
theorem p_call (Fk : FnOk X.prog X.w X.K X.mg X.base (L2.CX X.prog X.w) k fa' fd ps (spF G n F)) (hr : Room k X.A) (hm : X.mg x = some (.ref fa')) (hk : PySem.W.keepIn X.K (.ref fa') = true) (hb : Binds X.K fd ps []) (tk : Takes X W)
    (ha : PA X (e :: es) (tPuA G W fs)) (hg : Gl X x := by rfl) :
    (hdb : (x == ("__debug__" : Str)) = false := by decide) → (he : starEach (e :: es) X.env = (false, eval e X.env) :: starEach es X.env := by rfl) → (hpl : (backTo pos (starEach es X.env)).any (·.1) = false := by rfl) →
    PE X (.Call (.Name x p) (e :: es) [] pos) (tPu G W (fCall n F fs)) := fun hdb he hpl =>
  pe_imp (pe_callS Fk hr hg hm hk hb (fun σ => passAt tk σ) ha hdb he hpl) fun σ H Q ⟨ρ, T, ex, st, q⟩ => ⟨ρ, T, ex, st, (PostE.bindA q).mono fun vs H1 ⟨ds, T1, _, gr, rps, q1⟩ => call_spec gr.s rps q1⟩
/-- o.m(..): the object first -/
def fMeth (n : Nat) (F : List D → R D) (f : Rho → R D) (fs : Rho → R (List D)) : Rho → R D := fun ρ => (fz f ρ).bind fun d => match d with
  | .ho _ _ => (fs ρ).bind fun ds => if ds.length + 1 = n then F (d.ro :: ds.map D.ro) else .bad
  | _ => .bad
theorem look_none : ∀ {l : List (Str × V)} {y : Str}, (∀ p ∈ l, p.1 ≠ y) → l.lookup y = none
  | [], _, _ => rfl
  | p :: r, y, h => by
    have e : (y == p.1) = false := by
      have := h p List.mem_cons_self
      simpa using fun z : y = p.1 => this z.symm
    rw [List.lookup_cons, e]
    exact look_none fun q hq => h q (List.mem_cons_of_mem _ hq)
/-- no field of a store bears the name -/
def NoF (y : Str) : Prop := (("bound" : Str) ≠ y) ∧ (("held" : Str) ≠ y) ∧ (("sides" : Str) ≠ y) ∧ (("deep" : Str) ≠ y)
theorem sfs_none {b : Int} {d : Addr} {vs : V} {n : Int} {y : Str} (h : NoF y) : (sfs b d vs n).lookup y = none := look_none fun p hp => by
  unfold sfs at hp
  rcases List.mem_cons.mp hp with rfl | hp
  · exact h.1
  rcases List.mem_cons.mp hp with rfl | hp
  · exact h.2.1
  rcases List.mem_cons.mp hp with rfl | hp
  · exact h.2.2.1
  rcases List.mem_cons.mp hp with rfl | hp
  · exact h.2.2.2
  · exact absurd hp (by simp)
def tMethX (C : Addr) (m : Str) (sp : Sp) (E : L2.St → XK) (ta : TE) (t : TA) : TE := fun σ H Q => ta σ H fun x H1 => ∃ a dx fl, x = .ref a ∧ H1 a = some (.ins C dx fl) ∧ fl.lookup m = none ∧ t σ H1 fun vs H2 => sp (x :: vs) H2 Q (E σ)
/-- how a call of a method is evaluated -/
abbrev MTree (X : Cx) (o : Expr) (m : Str) (apos : Pos) (es : List Expr) (pos : Pos) (pl : Sem Bool) : Prop := eval (.Call (.Attribute o m apos) es [] pos) X.env = (do
  let ov ← eval o X.env; standAt apos.atName
  let (g, first) ← holding [ov] (getMethod ov m pl); callWith pos g first (backTo pos (starEach es X.env)) (backToKw pos (keywordEach [] X.env)))
section
variable {sp : Sp} {E : L2.St → XK} {ta : TE} {t : TA} {pl : Sem Bool}
theorem pe_methX (he : PE X o ta) (c : Cls X.K C) (hm : Meth X.K C m fa') (Fk : FnOk X.prog X.w X.K X.mg X.base (L2.CX X.prog X.w) k fa' fd ps sp) (hr : Room k X.A) (hb : Binds X.K fd ps []) (hx : ∀ σ, PassesAt (L2.CX X.prog X.w) X σ (E σ)) (ha : PA X (e :: es) t)
    (hst : starEach (e :: es) X.env = (false, eval e X.env) :: starEach es X.env) (hpl : (backTo pos (starEach es X.env)).any (·.1) = false) (ht : MTree X o m apos (e :: es) pos pl) : PE X (.Call (.Attribute o m apos) (e :: es) [] pos) (tMethX C m sp E ta t) := by
  refine ⟨fun pins s σ H Q I h => PySem.W.methodCall_KW (pl := pl) (thn (he.run pins s σ H _ I h) fun u s1 ⟨x, H1, I1, rx, a, dx, fl, ex, ea, l, q⟩ => ?_) ht⟩
  subst ex
  cases (show u = Value.ref a from rx)
  refine getmeth_ok I1 ea c hm l (PySem.W.callWith_K (first := [.ref a]) (h₀ := X.base) I.ok.mod.kin hm.kp ?_ hst hpl)
  exact thn (ha.run pos pins s1 σ H1 _ I1 q) fun us s2 ⟨vs, H2, I2, r, q2⟩ => ⟨I2.kIn, run_fnS (us := .ref a :: us) (vs := .ref a :: vs) Fk hr hb (hx σ) I2 (.cons rfl r) q2⟩
theorem pe_methX0 (he : PE X o ta) (c : Cls X.K C) (hm : Meth X.K C m fa') (Fk : FnOk X.prog X.w X.K X.mg X.base (L2.CX X.prog X.w) k fa' fd ps sp) (hr : Room k X.A) (hb : Binds X.K fd ps []) (hx : ∀ σ, PassesAt (L2.CX X.prog X.w) X σ (E σ))
    (ht : MTree X o m apos [] pos pl) : PE X (.Call (.Attribute o m apos) [] [] pos) (tMethX C m sp E ta tNil) := by
  refine ⟨fun pins s σ H Q I h => PySem.W.methodCall_KW (pl := pl) (thn (he.run pins s σ H _ I h) fun u s1 ⟨x, H1, I1, rx, a, dx, fl, ex, ea, l, q⟩ => ?_) ht⟩
  subst ex
  cases (show u = Value.ref a from rx)
  exact getmeth_ok I1 ea c hm l (PySem.W.callWith_K0 (first := [.ref a]) I1.kIn hm.kp (run_fnS (us := [.ref a]) (vs := [.ref a]) Fk hr hb (hx σ) I1 (.cons rfl .nil) q))
end
theorem ho_ins {T H : Hp} {v : V} {mo : M} {S : SX} {y : Str} (r : Rep G T H v (.ho mo S)) (h : NoF y) : ∃ a dx fl, v = .ref a ∧ H a = some (.ins G.C dx fl) ∧ fl.lookup y = none := by
  obtain ⟨⟨a, dx, d, us, vs, rfl, h1, h2, h3, _⟩, _⟩ := r
  exact ⟨a, dx, _, rfl, h3, sfs_none h⟩
theorem p_meth {pl : Sem Bool} (ho : PE X o (tPu G W f)) (c : Cls X.K G.C) (hm : Meth X.K G.C m fa') (hn : NoF m) (Fk : FnOk X.prog X.w X.K X.mg X.base (L2.CX X.prog X.w) k fa' fd ps (spF G n F)) (hr : Room k X.A) (hb : Binds X.K fd ps []) (tk : Takes X W)
    (ha : PA X (e :: es) (tPuA G W fs)) : (hst : starEach (e :: es) X.env = (false, eval e X.env) :: starEach es X.env := by rfl) → (hpl : (backTo pos (starEach es X.env)).any (·.1) = false := by rfl) → (ht : MTree X o m apos (e :: es) pos pl := by rfl) →
    PE X (.Call (.Attribute o m apos) (e :: es) [] pos) (tPu G W (fMeth n F f fs)) := fun hst hpl ht =>
  pe_imp (pe_methX (E := WE W) (pu_fz ho) c hm Fk hr hb (fun σ => passAt tk σ) ha hst hpl ht) fun σ H Q ⟨ρ, T, ex, st, q⟩ => ⟨ρ, T, ex, st, (PostE.bind q).mono fun v H1 ⟨d, T1, _, gr, rp, q1⟩ => by
    cases d with
    | ho mo S =>
      obtain ⟨a, dx, fl, e1, e2, e3⟩ := ho_ins rp.1 hn
      refine ⟨a, dx, fl, e1, e2, e3, ρ, T1, gr.s, st.mono gr, (PostE.bindA q1).mono fun vs H2 ⟨ds, T2, _, gr2, rps, q2⟩ => ?_⟩
      have r2 : RepL G T2 H2 (v :: vs) (.ho mo S :: ds) := ⟨rp.1.mono gr2, rps⟩
      exact call_spec gr2.s r2 q2
    | p x => exact q1.elim
    | hl mo x => exact q1.elim
    | hd mo x => exact q1.elim
    | gh mo x ps => exact q1.elim
    | hos mo x => exact q1.elim⟩
theorem p_meth0 {pl : Sem Bool} (ho : PE X o (tPu G W f)) (c : Cls X.K G.C) (hm : Meth X.K G.C m fa') (hn : NoF m) (Fk : FnOk X.prog X.w X.K X.mg X.base (L2.CX X.prog X.w) k fa' fd ps (spF G n F)) (hr : Room k X.A) (hb : Binds X.K fd ps []) (tk : Takes X W) :
    (ht : MTree X o m apos [] pos pl := by rfl) → PE X (.Call (.Attribute o m apos) [] [] pos) (tPu G W (fMeth n F f aN)) := fun ht =>
  pe_imp (pe_methX0 (E := WE W) (pu_fz ho) c hm Fk hr hb (fun σ => passAt tk σ) ht) fun σ H Q ⟨ρ, T, ex, st, q⟩ => ⟨ρ, T, ex, st, (PostE.bind q).mono fun v H1 ⟨d, T1, _, gr, rp, q1⟩ => by
    cases d with
    | ho mo S =>
      obtain ⟨a, dx, fl, e1, e2, e3⟩ := ho_ins rp.1 hn
      have r2 : RepL G T1 H1 [v] [.ho mo S] := ⟨rp.1, trivial⟩
      exact ⟨a, dx, fl, e1, e2, e3, call_spec gr.s r2 q1⟩
    | p x => exact q1.elim
    | hl mo x => exact q1.elim
    | hd mo x => exact q1.elim
    | gh mo x ps => exact q1.elim
    | hos mo x => exact q1.elim⟩
end

/-! ### comprehensions -/
abbrev W0 : WX := fun _ _ _ _ => False
theorem tk0 {X : Cx} : Takes X W0 := takes0
/-- the block's names as they stand at a turn -/
def wipeE (ρ : Rho) : List Nat → Rho
  | [] => ρ
  | j :: r => (wipeE ρ r).set j none
def lcEnv (own : List Nat) (i : Nat) (ρ : Rho) (x : P) : Rho := (wipeE ρ own).set i (some (.p x))
def pOf : D → R P
  | .p x => .ok x
  | _ => .bad
@[simp] theorem pOf_p (x : P) : pOf (.p x) = .ok x := rfl
def lcGo (own : List Nat) (i : Nat) (t : Rho → R Bool) (f : Rho → R D) (ρ : Rho) : List P → Option (List P)
  | [] => some []
  | x :: r => match t (lcEnv own i ρ x) with
    | .ok true => match fz f (lcEnv own i ρ x) with
      | .ok (.p y) => (lcGo own i t f ρ r).map (y :: ·)
      | _ => none
    | .ok false => lcGo own i t f ρ r
    | _ => none
def oL : Option (List P) → R D
  | some ys => .ok (.hl .new ys)
  | none => .bad
@[simp] theorem oL_some (ys : List P) : oL (some ys) = .ok (.hl .new ys) := rfl
def tYesF : Rho → R Bool := fun _ => .ok true
/-- the items that a for walks -/
def itemsOf : D → Option (List P)
  | .p (.lst xs) => some xs
  | .hl _ xs => some xs
  | _ => none
def fLc (own : List Nat) (i : Nat) (it : Rho → R D) (t : Rho → R Bool) (f : Rho → R D) : Rho → R D := fun ρ => (fz it ρ).bind fun d => match itemsOf d with
  | some xs => if xs.length ≤ 16777216 then oL (lcGo own i t f ρ xs) else .bad
  | none => .bad
def upTo (n : Nat) : List P := (List.range n).map fun j : Nat => .int (j : Int)
noncomputable def inRg (n : Int) : Bool := hb (decide (-4611686018427387904 ≤ n ∧ n ≤ 16777216))
theorem inRg_eq (n : Int) : inRg n = decide (-4611686018427387904 ≤ n ∧ n ≤ 16777216) := hb_eq _
noncomputable def rangeD : D → Option Nat
  | .p (.int n) => if inRg n = true then some n.toNat else none
  | _ => none
noncomputable def rangeOf : List D → Option Nat
  | [d] => rangeD d
  | _ => none
noncomputable def fLcR (own : List Nat) (i : Nat) (fs : Rho → R (List D)) (t : Rho → R Bool) (f : Rho → R D) : Rho → R D := fun ρ => (fs ρ).bind fun ds => match rangeOf ds with
  | some n => oL (lcGo own i t f ρ (upTo n))
  | none => .bad
end
end SP
/-! SP5: comprehensions. -/
namespace SP
open PySem PySem.Spec PyProof.Rows L2

theorem wipeE_length (ρ : Rho) : ∀ l : List Nat, (wipeE ρ l).length = ρ.length
  | [] => rfl
  | j :: r => by unfold wipeE; rw [List.length_set, wipeE_length ρ r]
theorem wipeE_at {ρ : Rho} {i : Nat} {d : D} : ∀ {l : List Nat}, (wipeE ρ l)[i]? = some (some d) → ρ[i]? = some (some d) ∧ i ∉ l
  | [], h => ⟨h, by simp⟩
  | j :: r, h => by
    unfold wipeE at h
    by_cases hj : j = i
    · subst hj
      rw [List.getElem?_set_self' ] at h
      cases hq : (wipeE ρ r)[j]? with
      | none => rw [hq] at h; cases h
      | some o => rw [hq] at h; cases h
    · rw [List.getElem?_set_ne hj] at h
      obtain ⟨h1, h2⟩ := wipeE_at h
      exact ⟨h1, fun m => by rcases List.mem_cons.mp m with e | m; exact hj e.symm; exact h2 m⟩
theorem wipe_in {σ : L2.St} {i : Nat} (hi : i < σ.length) : ∀ {l : List Nat}, i ∈ l → (wipe σ l)[i]? = some none
  | [], h => by cases h
  | j :: r, h => by
    unfold wipe
    by_cases hj : j = i
    · subst hj
      rw [List.getElem?_set_self (by rw [wipe_length]; exact hi)]
    · rw [List.getElem?_set_ne hj]
      exact wipe_in hi ((List.mem_cons.mp h).resolve_left fun e => hj e.symm)
theorem wipe_set {σ : L2.St} {own : List Nat} {i : Nat} {x : Option V} (hi : i ∈ own) : wipe ((wipe σ own).set i x) own = wipe σ own := by
  apply List.ext_getElem?
  intro k
  by_cases hk : k ∈ own
  · by_cases hl : k < σ.length
    · rw [wipe_in (by rw [List.length_set, wipe_length]; exact hl) hk, wipe_in hl hk]
    · rw [List.getElem?_eq_none (by rw [wipe_length, List.length_set, wipe_length]; omega), List.getElem?_eq_none (by rw [wipe_length]; omega)]
  · rw [wipe_out hk, List.getElem?_set_ne (fun e => hk (by rw [← e]; exact hi)), wipe_out hk]
section
variable {G : Gx} {ρ : Rho} {σ : L2.St} {T H : Hp}
theorem StV.wipe (st : StV G ρ σ T H) (own : List Nat) : StV G (wipeE ρ own) (L2.wipe σ own) T H := ⟨by rw [wipeE_length, wipe_length]; exact st.len, fun i d e => by
  obtain ⟨h1, h2⟩ := wipeE_at e
  obtain ⟨v, e1, r⟩ := st.at_ i d h1
  exact ⟨v, by rw [wipe_out h2]; exact e1, r⟩⟩
theorem StV.set {i : Nat} {v : V} {d : D} (st : StV G ρ σ T H) (r : Rep G T H v d) : StV G (ρ.set i (some d)) (σ.set i (some v)) T H := ⟨by rw [List.length_set, List.length_set]; exact st.len, fun j e h => by
  by_cases hj : i = j
  · subst hj
    have hl : i < ρ.length := by
      by_cases hl : i < ρ.length
      · exact hl
      · rw [List.getElem?_eq_none (by rw [List.length_set]; omega)] at h; cases h
    rw [List.getElem?_set_self hl] at h
    cases h
    exact ⟨v, List.getElem?_set_self (by rw [← st.len]; exact hl), r⟩
  · rw [List.getElem?_set_ne hj] at h ⊢
    exact st.at_ j e h⟩
theorem StV.lc (st : StV G ρ σ T H) {own : List Nat} {i : Nat} {v : V} {x : P} (r : Rp G T v x) : StV G (lcEnv own i ρ x) ((L2.wipe σ own).set i (some v)) T H := (st.wipe own).set (d := .p x) r
end

/-- a comprehension between two turns -/
def LcInv (G : Gx) (own : List Nat) (i : Nat) (t : Rho → R Bool) (f : Rho → R D) (ρ : Rho) (T1 H1 : Hp) (D : Addr) (all : List P) (rest : List P) (H : Hp) : Prop :=
  ∃ T acc done todo, Gr T1 H1 T H ∧ T D = none ∧ H D = some (.lst acc) ∧ RpL G T acc done ∧ lcGo own i t f ρ rest = some todo ∧ done ++ todo = all ∧ done.length + rest.length ≤ 16777216
section
variable {G : Gx} {own : List Nat} {i : Nat} {t : Rho → R Bool} {f : Rho → R D} {ρ : Rho} {T1 H1 : Hp} {D : Addr} {all : List P} {σ : L2.St}
theorem lc_first {rest : List P} {ys : List P} (ex : Ex T1 H1) (hD : H1 D = none) (h : lcGo own i t f ρ rest = some ys) (hl : rest.length ≤ 16777216) : LcInv G own i t f ρ T1 H1 D ys rest (upd H1 D (.lst [])) :=
  ⟨T1, [], [], ys, Gr.grow ex (Ex.new hD), ex.free hD, upd_same, .nil, h, rfl, by simpa using hl⟩
theorem lc_end {H : Hp} {W : WX} {Q : VK} (hD : H1 D = none) (h : LcInv G own i t f ρ T1 H1 D all [] H) (q : PostE G W σ T1 H1 (.ok (.hl .new all)) Q) : Q (.ref D) H := by
  obtain ⟨T, acc, done, todo, g, h1, h2, r, h3, h4, _⟩ := h
  cases h3
  rw [List.append_nil] at h4
  subst h4
  exact q (.ref D) T H g ⟨⟨D, acc, rfl, h1, h2, r⟩, fun _ a e => by cases (show V.ref D = V.ref a from e); exact hD⟩
theorem lc_turn {x : P} {rest : List P} {v : V} {H : Hp} (st : StV G ρ σ T1 H1) (hi : i ∈ own) (hD : H1 D = none) (rx : Rp G T1 v x) (h : LcInv G own i t f ρ T1 H1 D all (x :: rest) H) :
    tPuT G W0 t ((wipe σ own).set i (some v)) H fun b H3 =>
      if b = true then tPu G W0 (fz f) ((wipe σ own).set i (some v)) H3 fun y H4 => ∃ acc, H4 D = some (.lst acc) ∧ acc.length < sizeLine ∧ LcInv G own i t f ρ T1 H1 D all rest (upd H4 D (.lst (acc ++ [y]))) else LcInv G own i t f ρ T1 H1 D all rest H3 := by
  obtain ⟨T, acc, done, todo, g, h1, h2, r, h3, h4, h5⟩ := h
  have st1 : StV G (lcEnv own i ρ x) ((wipe σ own).set i (some v)) T H := (st.mono g).lc (rx.mono g.t)
  refine ⟨_, T, g.s, st1, ?_⟩
  rw [List.length_cons] at h5
  unfold lcGo at h3
  cases e1 : t (lcEnv own i ρ x) with
  | bad => rw [e1] at h3; cases h3
  | ex c => rw [e1] at h3; cases h3
  | ok b =>
    rw [e1] at h3
    intro T' H' g'
    have g1 := g.trans g'
    cases b with
    | false =>
      refine iteF ⟨T', acc, done, todo, g1, g'.n _ _ h2 h1, g'.h _ _ h2, RpL.mono g'.t r, h3, h4, by omega⟩
    | true =>
      refine iteT ⟨_, T', g'.s, st1.mono g', ?_⟩
      cases e2 : fz f (lcEnv own i ρ x) with
      | bad => rw [e2] at h3; cases h3
      | ex c => rw [e2] at h3; cases h3
      | ok d =>
        rw [e2] at h3
        cases d with
        | hl m y => cases h3
        | hd m y => cases h3
        | ho m y => cases h3
        | gh m y ps => cases h3
        | hos m y => cases h3
        | p y =>
          have h3 : (lcGo own i t f ρ rest).map (y :: ·) = some todo := h3
          cases e3 : lcGo own i t f ρ rest with
          | none => rw [e3] at h3; cases h3
          | some ys =>
            rw [e3] at h3
            cases h3
            intro u T2 H2 g2 r2
            have k2 : H2 D = some (.lst acc) := g2.h _ _ (g'.h _ _ h2)
            have n2 : T2 D = none := g2.n _ _ (g'.h _ _ h2) (g'.n _ _ h2 h1)
            have g3 := g1.trans g2
            have ra := RpL.mono (g'.trans g2).t r
            have la := r.length
            refine ⟨acc, k2, by rw [big]; omega, T2, acc ++ [u], done ++ [y], ys, ⟨g3.t, g3.s.upd n2, g3.h.upd hD, g3.n⟩, n2, upd_same, ra.append (.cons r2.1 .nil), e3, by rw [← h4]; simp, by rw [List.length_append]; show done.length + 1 + _ ≤ _; omega⟩
end
section
variable {X : Cx} {G : Gx} {W : WX} {e a b c : Expr} {es : List Expr} {f fi fa fb fc : Rho → R D} {t ca cb : Rho → R Bool} {fs : Rho → R (List D)} {pos : Pos}
variable {elt iter tg : Expr} {ifs : List Expr} {scope : Scope} {own : List (Str × Nat)} {i : Nat}
theorem items_ok {T H : Hp} {v : V} {d : D} {xs : List P} (h : itemsOf d = some xs) (r : Rep G T H v d) (ex : Ex T H) : ∃ a vs, v = .ref a ∧ H a = some (.lst vs) ∧ RpL G T vs xs := by
  cases d with
  | p x => cases x <;> first | (cases h; exact rls r rfl ex) | cases h
  | hl m x => cases h; exact rls r rfl ex
  | hd m x => cases h
  | ho m x => cases h
  | gh m x ps => cases h
  | hos m x => cases h
theorem rd_lc {K : PySem.W.Frag} {i : Nat} {vs0 : List Nat} (hin : i ∈ vs0) : ∀ σ H Q, tPu G W (fLc vs0 i fi t f) σ H Q → tLc (iList K (tPu G W (fz fi))) (gName i) (tPuT G W0 t) (tPu G W0 (fz f)) vs0 σ H Q := fun σ H Q ⟨ρ, T, ex, st, q⟩ => ⟨ρ, T, ex, st, (PostE.bind q).mono fun v H1 ⟨d, T1, _, gr, rp, q1⟩ => by
    cases hx : itemsOf d with
    | none => rw [hx] at q1; exact q1.elim
    | some xs =>
      rw [hx] at q1
      have q1 : PostE G W σ T1 H1 (if xs.length ≤ 16777216 then oL (lcGo vs0 i t f ρ xs) else .bad) Q := q1
      by_cases hl : xs.length ≤ 16777216
      · rw [if_pos hl] at q1
        obtain ⟨a, vs, rfl, h1, r1⟩ := items_ok hx rp.1 gr.s
        refine ⟨a, rfl, ⟨vs, SqL.of h1⟩, fun D hD => ?_⟩
        cases hy : lcGo vs0 i t f ρ xs with
        | none => rw [hy] at q1; exact q1.elim
        | some ys =>
          rw [hy] at q1
          refine lc_list (K := K) (xs := vs) (fun k H' => LcInv G vs0 i t f ρ T1 H1 D ys (xs.drop k) H') (by exact lc_first gr.s hD hy hl) (fun k H' _ p => ?_) (fun k x H' hk p => ?_) (fun H' p => ?_)
          · obtain ⟨T', _, _, _, g, _⟩ := p
            exact SqL.of (g.h _ _ h1)
          · obtain ⟨y, hy', ry⟩ := r1.get hk
            have hd : xs.drop k = y :: xs.drop (k + 1) := by
              obtain ⟨hlt, e⟩ := List.getElem?_eq_some_iff.mp hy'
              rw [← e]; exact List.drop_eq_getElem_cons hlt
            rw [hd] at p
            exact ⟨wipe_set hin, lc_turn (st.mono gr) hin hD ry p⟩
          · rw [List.drop_eq_nil_of_le (by rw [r1.length]; exact Nat.le_refl _)] at p
            exact lc_end hD p q1
      · rw [if_neg hl] at q1; exact q1.elim⟩
/-- [e for x in a list] -/
theorem p_lc (i : Nat) (own : List (Str × Nat)) (hc : X.calm = true) (hN : X.N.Nodup) (hi : PE X iter (tPu G W fi)) (ok : BlkOk X.N X.env.scope scope own) (hin : i ∈ own.map (·.2))
    (hg : ∀ (s : Shared) (H : Hp) (C : Addr) (cl : List (Str × Addr)) (fp : List Addr), PG (X.blk s H scope (compEnvC scope cl C X.env) fp) tg (gName i)) (ht : ∀ (s : Shared) (H : Hp) (C : Addr) (cl : List (Str × Addr)) (fp : List Addr), PTs (X.blk s H scope (compEnvC scope cl C X.env) fp) ifs (tPuT G W0 t))
    (he : ∀ (s : Shared) (H : Hp) (C : Addr) (cl : List (Str × Addr)) (fp : List Addr), PE (X.blk s H scope (compEnvC scope cl C X.env) fp) elt (tPu G W0 f)) (hK : X.K = G.K := by rfl) (hs : ∀ x, foldedSetIterable iter X.env x = pure x := by intro _; rfl) :
    PE X (.ListComp elt [⟨tg, iter, ifs, 0⟩] scope pos) (tPu G W (fLc (own.map (·.2)) i fi t f)) :=
  pe_imp (pe_lc hc hN (pi_list (pu_fz hi)) ok hg ht (fun s H C cl fp => pu_fz (he s H C cl fp)) hs) (rd_lc hin)
theorem upTo_length (n : Nat) : (upTo n).length = n := by unfold upTo; rw [List.length_map, List.length_range]
theorem upTo_get {n k : Nat} (h : k < n) : (upTo n)[k]? = some (.int (k : Int)) := by
  unfold upTo
  rw [List.getElem?_map, List.getElem?_range h]
  rfl
theorem upTo_drop {n k : Nat} (h : k < n) : (upTo n).drop k = .int (k : Int) :: (upTo n).drop (k + 1) := by
  have hl : k < (upTo n).length := by rw [upTo_length]; exact h
  rw [List.drop_eq_getElem_cons hl]
  congr 1
  have e := upTo_get h
  rw [List.getElem?_eq_getElem hl] at e
  exact Option.some.inj e
theorem range_ok {G : Gx} {T H : Hp} {vs : List V} {ds : List D} {n : Nat} (r : RepL G T H vs ds) (h : rangeOf ds = some n) : ∃ j : Int, vs = [.int j] ∧ -(2 ^ 62) ≤ j ∧ j < 2 ^ 62 ∧ j.toNat = n ∧ n ≤ 16777216 := by
  match vs, ds, r, h with
  | [], [], _, h => cases h
  | _ :: _ :: _, _ :: _ :: _, _, h => cases h
  | [v], [d], ⟨rv, _⟩, h =>
    cases d with
    | hl m x => cases h
    | hd m x => cases h
    | ho m x => cases h
    | gh m x ps => cases h
    | hos m x => cases h
    | p x =>
      cases x with
      | int n =>
        cases rint rv
        have h : (if inRg n = true then some n.toNat else none) = some _ := h
        rw [inRg_eq] at h
        split at h
        · rename_i hb
          have hb := of_decide_eq_true hb
          cases h
          refine ⟨n, rfl, by omega, by omega, rfl, by omega⟩
        · cases h
      | _ => cases h
theorem rd_lcR {i : Nat} {vs0 : List Nat} (hin : i ∈ vs0) : ∀ σ H Q, tPu G W (fLcR vs0 i fs t f) σ H Q → tLc (iRng1 (tPuA G W fs)) (gName i) (tPuT G W0 t) (tPu G W0 (fz f)) vs0 σ H Q := fun σ H Q ⟨ρ, T, ex, st, q⟩ => ⟨ρ, T, ex, st, (PostE.bindA q).mono fun vs H1 ⟨ds, T1, _, gr, rps, q1⟩ => by
    cases hn : rangeOf ds with
    | none => rw [hn] at q1; exact q1.elim
    | some n =>
      rw [hn] at q1
      have q1 : PostE G W σ T1 H1 (oL (lcGo vs0 i t f ρ (upTo n))) Q := q1
      obtain ⟨j, rfl, b1, b2, e, hl⟩ := range_ok rps hn
      refine ⟨j, rfl, b1, b2, fun D hD => ?_⟩
      rw [e]
      cases hy : lcGo vs0 i t f ρ (upTo n) with
      | none => rw [hy] at q1; exact q1.elim
      | some ys =>
        rw [hy] at q1
        refine lc_range (lo := 0) (n := n) (fun k H' => LcInv G vs0 i t f ρ T1 H1 D ys ((upTo n).drop k) H') (by exact lc_first gr.s hD hy (by rw [List.drop_zero, upTo_length]; exact hl))  (fun k H' hk p => ?_) (fun H' p => ?_)
        · rw [upTo_drop hk] at p
          have z := lc_turn (v := .int (k : Int)) (st.mono gr) hin hD (.int _) p
          rw [show (0 : Int) + (k : Int) = (k : Int) from Int.zero_add _]
          exact ⟨wipe_set hin, z⟩
        · rw [List.drop_eq_nil_of_le (by rw [upTo_length]; exact Nat.le_refl _)] at p
          exact lc_end hD p q1⟩
/-- [e for x in range(n)] -/
theorem p_lcR {p pos' : Pos} (i : Nat) (own : List (Str × Nat)) (hc : X.calm = true) (hN : X.N.Nodup) (hm : X.mg "range" = none) (ha : PA X [a] (tPuA G W fs)) (ok : BlkOk X.N X.env.scope scope own) (hin : i ∈ own.map (·.2))
    (hg : ∀ (s : Shared) (H : Hp) (C : Addr) (cl : List (Str × Addr)) (fp : List Addr), PG (X.blk s H scope (compEnvC scope cl C X.env) fp) tg (gName i)) (ht : ∀ (s : Shared) (H : Hp) (C : Addr) (cl : List (Str × Addr)) (fp : List Addr), PTs (X.blk s H scope (compEnvC scope cl C X.env) fp) ifs (tPuT G W0 t))
    (he : ∀ (s : Shared) (H : Hp) (C : Addr) (cl : List (Str × Addr)) (fp : List Addr), PE (X.blk s H scope (compEnvC scope cl C X.env) fp) elt (tPu G W0 f)) (hgl : Gl X "range" := by rfl) :
    (hst : starEach [a] X.env = [(false, eval a X.env)] := by rfl) → (hs : ∀ x, foldedSetIterable (.Call (.Name "range" p) [a] [] pos') X.env x = pure x := by intro _; rfl) →
    PE X (.ListComp elt [⟨tg, .Call (.Name "range" p) [a] [] pos', ifs, 0⟩] scope pos) (tPu G W (fLcR (own.map (·.2)) i fs t f)) := fun hst hs =>
  pe_imp (pe_lc hc hN (pi_range1 hgl hm ha hst) ok hg ht (fun s H C cl fp => pu_fz (he s H C cl fp)) hs) (rd_lcR hin)
end
end SP
/-! SP6: statements. -/
namespace SP
open PySem PySem.Spec PyProof.Rows L2

/-- growth over a ground B that stays -/
structure GrB (T B T' H' : Hp) : Prop where
  t : Ex T T'
  s : Ex T' H'
  b : Ex B H'
  n : ∀ a o, B a = some o → T a = none → T' a = none
theorem GrB.trans {T B T1 H1 T2 H2 : Hp} (a : GrB T B T1 H1) (b : GrB T1 B T2 H2) : GrB T B T2 H2 := ⟨a.t.trans b.t, b.s, b.b, fun x o h1 h2 => b.n x o h1 (a.n x o h1 h2)⟩
theorem GrB.of {T B H T1 H1 : Hp} (e : Ex B H) (g : Gr T H T1 H1) : GrB T B T1 H1 := ⟨g.t, g.s, e.trans g.h, fun x o h1 h2 => g.n x o (e x o h1) h2⟩
theorem GrB.refl {T B H : Hp} (e : Ex T H) (b : Ex B H) : GrB T B T H := ⟨Ex.refl T, e, b, fun _ _ _ h => h⟩

section
variable {G : Gx} {ρ : Rho} {σ : L2.St} {T B H T' H' : Hp}
theorem foot_back {v : V} {d : D} {a : Addr} (r : Rep G T H v d) (e : Ex H H') (f : Foot G H' v d a) : Foot G H v d a := by
  cases d with
  | p x => exact f
  | hl m x => exact f
  | hd m x => exact f
  | ho m S => exact FootS.back r.1 (fun p o _ q => e p o q) f
  | gh m x ps =>
    obtain ⟨π, hp, f⟩ := f
    obtain ⟨T1, e1, h1, h2, h3⟩ := r
    obtain ⟨b, vs, h4, h5, h6, h7⟩ := h3 π hp
    rw [cellAt_mono (e1.trans e) h4] at f
    cases f
    exact ⟨π, hp, cellAt_mono e1 h4⟩
  | hos m Ss =>
    obtain ⟨b, vs, e1, h1, h2, h3, h4, h5⟩ := r
    rcases f with f | ⟨p, ws, u, f1, f2, f3, f4⟩
    · exact .inl f
    · cases e1.symm.trans f1
      rw [e _ _ h2] at f2
      cases f2
      obtain ⟨i, hi⟩ := List.getElem?_of_mem f3
      have hl : i < Ss.length := by rw [← h3]; exact (List.getElem?_eq_some_iff.mp hi).1
      exact .inr ⟨_, _, u, e1, h2, f3, FootS.back (h4 i u _ hi (List.getElem?_eq_getElem hl)).1 (fun p o _ q => e p o q) f4⟩
/-- a handle's cells stand -/
theorem foot_there {v : V} {d : D} {a : Addr} (r : Rep G T H v d) (f : Foot G H v d a) : T a = none ∧ ∃ o, H a = some o := by
  cases d with
  | p x => exact f.elim
  | hl m x =>
    obtain ⟨b, vs, e, h1, h2, _⟩ := r
    cases (show v = .ref a from f).symm.trans e
    exact ⟨h1, _, h2⟩
  | hd m x =>
    obtain ⟨b, us, e, h1, h2, _⟩ := r
    cases (show v = .ref a from f).symm.trans e
    refine ⟨h1, ?_⟩
    rcases h2 with h2 | ⟨o, h2⟩
    · exact ⟨_, h2⟩
    · exact ⟨_, h2⟩
  | ho m S => exact r.1.there f
  | gh m x ps =>
    obtain ⟨π, hp, f⟩ := f
    obtain ⟨T1, e1, h1, h2, h3⟩ := r
    obtain ⟨b, vs, h4, h5, h6, h7⟩ := h3 π hp
    rw [cellAt_mono e1 h4] at f
    cases f
    exact ⟨h5, _, e1 _ _ h6⟩
  | hos m Ss =>
    obtain ⟨b, vs, e1, h1, h2, h3, h4, h5⟩ := r
    rcases f with f | ⟨p, ws, u, f1, f2, f3, f4⟩
    · cases f.symm.trans e1
      exact ⟨h1, _, h2⟩
    · cases e1.symm.trans f1
      rw [h2] at f2
      cases f2
      obtain ⟨i, hi⟩ := List.getElem?_of_mem f3
      have hl : i < Ss.length := by rw [← h3]; exact (List.getElem?_eq_some_iff.mp hi).1
      exact (h4 i u _ hi (List.getElem?_eq_getElem hl)).1.there f4

structure StR (G : Gx) (ρ : Rho) (σ : L2.St) (T B H : Hp) : Prop where
  v : StV G ρ σ T H
  ex : Ex T H
  eb : Ex B H
  own : ∀ (i : Nat) (d : D) (u : V) (a : Addr), ρ[i]? = some (some d) → σ[i]? = some (some u) → d.mode ≠ .ro → Foot G H u d a → B a = none
  ro : ∀ (i : Nat) (d : D) (u : V) (a : Addr), ρ[i]? = some (some d) → σ[i]? = some (some u) → d.mode = .ro → Foot G H u d a → ∃ o, B a = some o
  sep : ∀ (i j : Nat) (d e : D) (u w : V) (a : Addr), i ≠ j → ρ[i]? = some (some d) → σ[i]? = some (some u) → ρ[j]? = some (some e) → σ[j]? = some (some w) → d.mode ≠ .ro → e.mode ≠ .ro → Foot G H u d a → Foot G H w e a → False
theorem StV.rep (st : StV G ρ σ T H) {i : Nat} {d : D} {u : V} (h : ρ[i]? = some (some d)) (e : σ[i]? = some (some u)) : Rep G T H u d := by
  obtain ⟨v, e1, r⟩ := st.at_ i d h
  rw [e] at e1
  cases e1
  exact r
theorem StR.grow (st : StR G ρ σ T B H) (g : Gr T H T' H') : StR G ρ σ T' B H' :=
  ⟨st.v.mono g, g.s, st.eb.trans g.h, fun i d u a h e m f => st.own i d u a h e m (foot_back (st.v.rep h e) g.h f), fun i d u a h e m f => st.ro i d u a h e m (foot_back (st.v.rep h e) g.h f),
    fun i j d e u w a n h1 h2 h3 h4 m1 m2 f1 f2 => st.sep i j d e u w a n h1 h2 h3 h4 m1 m2 (foot_back (st.v.rep h1 h2) g.h f1) (foot_back (st.v.rep h3 h4) g.h f2)⟩
theorem set_cases {α : Type} {l : List α} {i j : Nat} {x y : α} (h : (l.set i x)[j]? = some y) : (i = j ∧ x = y) ∨ (i ≠ j ∧ l[j]? = some y) := by
  by_cases e : i = j
  · subst e
    rw [List.getElem?_set_self'] at h
    cases q : l[i]? with
    | none => rw [q] at h; cases h
    | some z => rw [q] at h; cases h; exact .inl ⟨rfl, rfl⟩
  · rw [List.getElem?_set_ne e] at h
    exact .inr ⟨e, h⟩
/-- a name is given plain data -/
theorem StR.setP {i : Nat} {v : V} {x : P} (st : StR G ρ σ T B H) (r : Rp G T v x) : StR G (ρ.set i (some (.p x))) (σ.set i (some v)) T B H := by
  refine ⟨st.v.set (d := .p x) r, st.ex, st.eb, fun j d u a h e m f => ?_, fun j d u a h e m f => ?_, fun j k d d' u w a n h1 h2 h3 h4 m1 m2 f1 f2 => ?_⟩
  · rcases set_cases h with ⟨_, z⟩ | ⟨n, h⟩
    · cases z; exact f.elim
    · rw [List.getElem?_set_ne n] at e; exact st.own j d u a h e m f
  · rcases set_cases h with ⟨_, z⟩ | ⟨n, h⟩
    · cases z; exact f.elim
    · rw [List.getElem?_set_ne n] at e; exact st.ro j d u a h e m f
  · rcases set_cases h1 with ⟨_, z⟩ | ⟨n1, h1⟩
    · cases z; exact f1.elim
    · rcases set_cases h3 with ⟨_, z⟩ | ⟨n2, h3⟩
      · cases z; exact f2.elim
      · rw [List.getElem?_set_ne n1] at h2
        rw [List.getElem?_set_ne n2] at h4
        exact st.sep j k d d' u w a n h1 h2 h3 h4 m1 m2 f1 f2
/-- a name is given a handle of its own: its cells are none of what was there -/
theorem StR.setO {i : Nat} {v : V} {d0 : D} (st : StR G ρ σ T B H) (r : Rep G T H v d0) (m0 : d0.mode ≠ .ro) (hb : ∀ a, Foot G H v d0 a → B a = none)
    (hn : ∀ (j : Nat) (d : D) (u : V) (a : Addr), i ≠ j → ρ[j]? = some (some d) → σ[j]? = some (some u) → d.mode ≠ .ro → Foot G H v d0 a → Foot G H u d a → False) : StR G (ρ.set i (some d0)) (σ.set i (some v)) T B H := by
  refine ⟨st.v.set r, st.ex, st.eb, fun j d u a h e m f => ?_, fun j d u a h e m f => ?_, fun j k d d' u w a n h1 h2 h3 h4 m1 m2 f1 f2 => ?_⟩
  · rcases set_cases h with ⟨z1, z⟩ | ⟨n, h⟩
    · cases z
      rcases set_cases e with ⟨_, z2⟩ | ⟨n, _⟩
      · cases z2; exact hb a f
      · exact absurd z1 n
    · rw [List.getElem?_set_ne n] at e; exact st.own j d u a h e m f
  · rcases set_cases h with ⟨_, z⟩ | ⟨n, h⟩
    · cases z; exact absurd m m0
    · rw [List.getElem?_set_ne n] at e; exact st.ro j d u a h e m f
  · rcases set_cases h1 with ⟨z1, z⟩ | ⟨n1, h1⟩
    · cases z
      rcases set_cases h2 with ⟨_, y⟩ | ⟨y, _⟩
      · cases y
        rcases set_cases h3 with ⟨z2, _⟩ | ⟨n2, h3⟩
        · exact n (z1.symm.trans z2)
        · rw [List.getElem?_set_ne n2] at h4
          exact hn k d' w a n2 h3 h4 m2 f1 f2
      · exact y z1
    · rcases set_cases h3 with ⟨z2, z⟩ | ⟨n2, h3⟩
      · cases z
        rcases set_cases h4 with ⟨_, y⟩ | ⟨y, _⟩
        · cases y
          rw [List.getElem?_set_ne n1] at h2
          exact hn j d u a n1 h1 h2 m1 f2 f1
        · exact y z2
      · rw [List.getElem?_set_ne n1] at h2
        rw [List.getElem?_set_ne n2] at h4
        exact st.sep j k d d' u w a n h1 h2 h3 h4 m1 m2 f1 f2
end

/-- how a statement ends -/
inductive Fl where
  | nx (ρ : Rho) | rt (d : D) (ρ : Rho) | bk (ρ : Rho) | ct (ρ : Rho) | ex (c : Nat) (ρ : Rho) | bad
/-- what is handed back: an own thing is nobody else's then -/
def D.ret : D → D
  | .hl .own xs => .hl .new xs
  | .hd .own xs => .hd .new xs
  | .ho .own S => .ho .new S
  | .gh .own x ps => .gh .new x ps
  | .hos .own S => .hos .new S
  | d => d
@[simp] theorem ret_p (x : P) : D.ret (.p x) = .p x := rfl
@[simp] theorem ret_new (x : List P) : D.ret (.hl .new x) = .hl .new x := rfl
@[simp] theorem ret_own (x : List P) : D.ret (.hl .own x) = .hl .new x := rfl
@[simp] theorem ret_hown (x : SX) : D.ret (.ho .own x) = .ho .new x := rfl
def PostS (G : Gx) (W : WX) (T B : Hp) : Fl → Ends → Prop
  | .nx ρ, D => ∀ σ T' H', GrB T B T' H' → StR G ρ σ T' B H' → D.nx σ H'
  | .bk ρ, D => ∀ σ T' H', GrB T B T' H' → StR G ρ σ T' B H' → D.bk σ H'
  | .ct ρ, D => ∀ σ T' H', GrB T B T' H' → StR G ρ σ T' B H' → D.ct σ H'
  | .rt d ρ, D => ∀ v σ T' H', GrB T B T' H' → StR G ρ σ T' B H' → RepN G B T' H' v d → D.rt v H'
  | .ex c ρ, _ => ∀ σ T' H', GrB T B T' H' → StR G ρ σ T' B H' → W (.ref (G.ec c)) none σ H'
  | .bad, _ => False
def tPs (G : Gx) (W : WX) (g : Rho → Fl) : TS := fun D σ H => ∃ ρ T B, StR G ρ σ T B H ∧ PostS G W T B (g ρ) D
section
variable {G : Gx} {W : WX} {ρ : Rho} {σ : L2.St} {T B H T' H' : Hp}
theorem PostS.go {r : Fl} {D : Ends} (g : GrB T B T' H') (h : PostS G W T B r D) : PostS G W T' B r D := by
  cases r with
  | nx ρ => exact fun σ T2 H2 g2 => h σ T2 H2 (g.trans g2)
  | bk ρ => exact fun σ T2 H2 g2 => h σ T2 H2 (g.trans g2)
  | ct ρ => exact fun σ T2 H2 g2 => h σ T2 H2 (g.trans g2)
  | ex c ρ => exact fun σ T2 H2 g2 => h σ T2 H2 (g.trans g2)
  | rt d ρ => exact fun v σ T2 H2 g2 => h v σ T2 H2 (g.trans g2)
  | bad => exact h
/-- from an expression's result on -/
def onR (r : R D) (ρ : Rho) (k : D → Fl) : Fl := match r with
  | .ok d => k d
  | .ex c => .ex c ρ
  | .bad => .bad
@[simp] theorem onR_ite {c : Prop} [Decidable c] (a b : R D) (ρ : Rho) (k : D → Fl) : onR (if c then a else b) ρ k = if c then onR a ρ k else onR b ρ k := by split <;> rfl
@[simp] theorem onR_ok (d : D) (ρ : Rho) (k : D → Fl) : onR (.ok d) ρ k = k d := rfl
@[simp] theorem onR_ex (c : Nat) (ρ : Rho) (k : D → Fl) : onR (.ex c) ρ k = .ex c ρ := rfl
@[simp] theorem onR_bad (ρ : Rho) (k : D → Fl) : onR .bad ρ k = .bad := rfl
theorem PostS.onR {r : R D} {k : D → Fl} {D' : Ends} (st : StR G ρ σ T B H) (h : PostS G W T B (onR r ρ k) D') : PostE G W σ T H r fun v H1 => ∃ d T1, r = .ok d ∧ Gr T H T1 H1 ∧ RepN G H T1 H1 v d ∧ PostS G W T1 B (k d) D' := by
  cases r with
  | ok d => exact fun v T1 H1 g q => ⟨d, T1, rfl, g, q, PostS.go (GrB.of st.eb g) h⟩
  | ex c => exact fun H1 e => h σ T H1 (GrB.of st.eb (Gr.grow st.ex e)) (st.grow (Gr.grow st.ex e))
  | bad => exact h
def onB (r : R Bool) (ρ : Rho) (k : Bool → Fl) : Fl := match r with
  | .ok d => k d
  | .ex c => .ex c ρ
  | .bad => .bad
@[simp] theorem onB_ite {c : Prop} [Decidable c] (a b : R Bool) (ρ : Rho) (k : Bool → Fl) : onB (if c then a else b) ρ k = if c then onB a ρ k else onB b ρ k := by split <;> rfl
@[simp] theorem onB_ok (d : Bool) (ρ : Rho) (k : Bool → Fl) : onB (.ok d) ρ k = k d := rfl
@[simp] theorem onB_bad (ρ : Rho) (k : Bool → Fl) : onB .bad ρ k = .bad := rfl
theorem PostS.onB {r : R Bool} {k : Bool → Fl} {D' : Ends} (st : StR G ρ σ T B H) (h : PostS G W T B (onB r ρ k) D') : PostT G W σ T H r fun b H1 => ∃ T1, Gr T H T1 H1 ∧ PostS G W T1 B (k b) D' := by
  cases r with
  | ok d => exact fun T1 H1 g => ⟨T1, g, PostS.go (GrB.of st.eb g) h⟩
  | ex c => exact fun H1 e => h σ T H1 (GrB.of st.eb (Gr.grow st.ex e)) (st.grow (Gr.grow st.ex e))
  | bad => exact h

/-! ### blocks, return, if -/
@[simp] def sNext : Rho → Fl := fun ρ => .nx ρ
def Fl.seq : Fl → (Rho → Fl) → Fl
  | .nx ρ', g2 => g2 ρ'
  | r, _ => r
@[simp] theorem seq_nx (ρ : Rho) (g : Rho → Fl) : (Fl.nx ρ).seq g = g ρ := rfl
@[simp] theorem seq_rt (d : D) (ρ : Rho) (g : Rho → Fl) : (Fl.rt d ρ).seq g = .rt d ρ := rfl
@[simp] theorem seq_ex (d : Nat) (ρ : Rho) (g : Rho → Fl) : (Fl.ex d ρ).seq g = .ex d ρ := rfl
@[simp] theorem seq_bad (g : Rho → Fl) : Fl.bad.seq g = .bad := rfl
@[simp] theorem seq_ite {c : Prop} [Decidable c] (a b : Fl) (g : Rho → Fl) : (if c then a else b).seq g = if c then a.seq g else b.seq g := by split <;> rfl
@[simp] def sSeq (g1 g2 : Rho → Fl) : Rho → Fl := fun ρ => (g1 ρ).seq g2
def D.noOwn : D → Bool
  | .hl .own _ => false
  | .hd .own _ => false
  | .ho .own _ => false
  | .gh .own _ _ => false
  | .hos .own _ => false
  | _ => true
@[simp] theorem noOwn_p (x : P) : D.noOwn (.p x) = true := rfl
@[simp] theorem noOwn_new (x : List P) : D.noOwn (.hl .new x) = true := rfl
@[simp] theorem noOwn_hnew (x : SX) : D.noOwn (.ho .new x) = true := rfl
@[simp] def sRet (f : Rho → R D) : Rho → Fl := fun ρ => onR (f ρ) ρ fun d => if d.noOwn = true then .rt d ρ else .bad
@[simp] def sIf (c : Rho → R Bool) (g1 g2 : Rho → Fl) : Rho → Fl := fun ρ => onB (c ρ) ρ fun b => if b = true then g1 ρ else g2 ρ
theorem rep_ret {v : V} {d : D} (r : Rep G T H v d) : Rep G T H v d.ret := by
  cases d with
  | p x => exact r
  | hl m x => cases m <;> exact r
  | hd m x => cases m <;> exact r
  | ho m x => cases m <;> exact r
  | gh m x ps => cases m <;> exact r
  | hos m x => cases m <;> exact r
theorem foot_ret {v : V} {d : D} {a : Addr} (f : Foot G H v d.ret a) : Foot G H v d a := by
  cases d with
  | p x => exact f
  | hl m x => cases m <;> exact f
  | hd m x => cases m <;> exact f
  | ho m x => cases m <;> exact f
  | gh m x ps => cases m <;> exact f
  | hos m x => cases m <;> exact f
end
section
variable {X : Cx} {G : Gx} {W : WX} {st : Stmt} {rest : List Stmt} {g g1 g2 : Rho → Fl} {e c : Expr} {f : Rho → R D} {ca : Rho → R Bool} {pos : Pos}
theorem s_nil : PSs X [] (tPs G W sNext) := pss_imp pss_nil fun D σ H ⟨ρ, T, B, st, q⟩ => q σ T H (GrB.refl st.ex st.eb) st
theorem s_cons (h1 : PS X st (tPs G W g1)) (h2 : PSs X rest (tPs G W g2)) : PSs X (st :: rest) (tPs G W (sSeq g1 g2)) := pss_imp (pss_cons h1 h2) fun D σ H ⟨ρ, T, B, st, q⟩ => ⟨ρ, T, B, st, by
  unfold sSeq at q
  cases h : g1 ρ with
  | nx ρ' => rw [h] at q; exact fun σ' T' H' gr st' => ⟨ρ', T', B, st', q.go gr⟩
  | bk ρ' => rw [h] at q; exact q
  | ct ρ' => rw [h] at q; exact q
  | rt d ρ' => rw [h] at q; exact q
  | ex c ρ' => rw [h] at q; exact q
  | bad => rw [h] at q; exact q⟩
theorem s_one (h1 : PS X st (tPs G W g1)) : PSs X [st] (tPs G W g1) := pss_imp (pss_one h1) fun _ _ _ h => h
theorem s_if {a b : List Stmt} (hc : PT X c (tPuT G W ca)) (ha : PSs X a (tPs G W g1)) (hb : PSs X b (tPs G W g2)) : PS X (.If c a b pos) (tPs G W (sIf ca g1 g2)) := ps_imp (ps_if hc ha hb) fun D σ H ⟨ρ, T, B, st, q⟩ =>
  ⟨ρ, T, st.ex, st.v, (PostS.onB st q).monoQ fun b H1 ⟨T1, gr, q1⟩ => by
    cases b with
    | true => exact iteT ⟨ρ, T1, B, st.grow gr, q1⟩
    | false => exact iteF ⟨ρ, T1, B, st.grow gr, q1⟩⟩
theorem s_ret (he : PE X e (tPu G W f)) : PS X (.Return (some e) pos) (tPs G W (sRet f)) := ps_imp (ps_ret he) fun D σ H ⟨ρ, T, B, st, q⟩ => ⟨ρ, T, st.ex, st.v, (PostS.onR st q).mono fun v H1 ⟨d, T1, _, gr, rp, q1⟩ => by
  cases hd : d.noOwn with
  | false => rw [hd] at q1; exact q1.elim
  | true =>
    rw [hd, if_pos rfl] at q1
    exact q1 v σ T1 H1 (GrB.refl gr.s (st.eb.trans gr.h)) (st.grow gr) ⟨rp.1, fun m a f => st.eb.free (rp.2 m a f)⟩⟩
/-- return x, x a thing of our own -/
def retO (ρ : Rho) : Option (Option D) → Fl
  | some (some d) => .rt d.ret ρ
  | _ => .bad
@[simp] theorem retO_some (ρ : Rho) (d : D) : retO ρ (some (some d)) = .rt d.ret ρ := rfl
@[simp] def sRetV (i : Nat) : Rho → Fl := fun ρ => retO ρ ρ[i]?
theorem s_retV (i : Nat) {x : Str} {p : Pos} (hN : X.N[i]? = some x := by rfl) (hv : Vis X.env.scope x := by first | exact Or.inl rfl | exact Or.inr (Or.inl rfl) | exact Or.inr (Or.inr rfl)) (hd : (x == ("__debug__" : Str)) = false := by decide)
    (hcd : (x == ("__classdict__" : Str)) = false := by decide) : PS X (.Return (some (.Name x p)) pos) (tPs G W (sRetV i)) := ps_imp (ps_ret (pe_var hN hv hd hcd)) fun D σ H ⟨ρ, T, B, st, q⟩ => by
  unfold sRetV at q
  cases h : ρ[i]? with
  | none => rw [h] at q; exact q.elim
  | some o =>
    cases o with
    | none => rw [h] at q; exact q.elim
    | some d =>
      rw [h] at q
      obtain ⟨v, e1, r⟩ := st.v.at_ i d h
      refine ⟨v, e1, q v σ T H (GrB.refl st.ex st.eb) st ⟨rep_ret r, fun m a f => ?_⟩⟩
      refine st.own i d v a h e1 (fun z => ?_) (foot_ret f)
      cases d with
      | p x => cases m
      | hl m' x => cases z; cases m
      | hd m' x => cases z; cases m
      | ho m' x => cases z; cases m
      | gh m' x ps => cases z; cases m
      | hos m' x => cases z; cases m

/-! ### x = e -/
/-- what a name holds behind x = e; keep: a new list stays one's own (it is changed later) -/
def asgD (keep : Bool) : D → Option D
  | .p x => some (.p x)
  | .hl .new xs => some (if keep = true then .hl .own xs else .p (.lst xs))
  | .hd .new xs => some (.hd .own xs)
  | .ho .new S => some (.ho .own S)
  | .gh .new x ps => if keep = true then some (.gh .own x ps) else x.map D.p
  | .hos .new S => some (.hos .own S)
  | _ => none
def asgK (i : Nat) (keep : Bool) (ρ : Rho) (d : D) : Fl := match asgD keep d with
  | some d' => .nx (ρ.set i (some d'))
  | none => .bad
@[simp] theorem asgK_p (i : Nat) (keep : Bool) (ρ : Rho) (x : P) : asgK i keep ρ (.p x) = .nx (ρ.set i (some (.p x))) := rfl
@[simp] theorem asgK_new (i : Nat) (ρ : Rho) (x : List P) : asgK i true ρ (.hl .new x) = .nx (ρ.set i (some (.hl .own x))) := rfl
@[simp] theorem asgK_newF (i : Nat) (ρ : Rho) (x : List P) : asgK i false ρ (.hl .new x) = .nx (ρ.set i (some (.p (.lst x)))) := rfl
@[simp] theorem asgK_g (i : Nat) (ρ : Rho) (x : Option P) (ps : PL) : asgK i true ρ (.gh .new x ps) = .nx (ρ.set i (some (.gh .own x ps))) := rfl
@[simp] theorem asgK_gF (i : Nat) (ρ : Rho) (x : P) (ps : PL) : asgK i false ρ (.gh .new (some x) ps) = .nx (ρ.set i (some (.p x))) := rfl
@[simp] theorem asgK_ho (i : Nat) (keep : Bool) (ρ : Rho) (x : SX) : asgK i keep ρ (.ho .new x) = .nx (ρ.set i (some (.ho .own x))) := rfl
@[simp] theorem asgK_hd (i : Nat) (keep : Bool) (ρ : Rho) (x : List (Key × P)) : asgK i keep ρ (.hd .new x) = .nx (ρ.set i (some (.hd .own x))) := rfl
@[simp] def sAsg (i : Nat) (keep : Bool) (f : Rho → R D) : Rho → Fl := fun ρ => onR (f ρ) ρ (asgK i keep ρ)
theorem asg_ok {ρ : Rho} {σ : L2.St} {T B H T1 H1 : Hp} {i : Nat} {keep : Bool} {v : V} {d : D} {D' : Ends} (st : StR G ρ σ T B H) (gr : Gr T H T1 H1) (rp : RepN G H T1 H1 v d) (q : PostS G W T1 B (match asgD keep d with
    | some d' => .nx (ρ.set i (some d'))
    | none => .bad) D') : D'.nx (σ.set i (some v)) H1 := by
  have own : ∀ d0, Rep G T1 H1 v d0 → d0.mode ≠ .ro → (∀ a, Foot G H1 v d0 a → H a = none) → PostS G W T1 B (.nx (ρ.set i (some d0))) D' → D'.nx (σ.set i (some v)) H1 := fun d0 r m fr q => by
    refine q _ T1 H1 (GrB.refl gr.s (st.eb.trans gr.h)) ((st.grow gr).setO r m (fun a f => st.eb.free (fr a f)) fun j d u a n h e m' f1 f2 => ?_)
    obtain ⟨_, o, ho⟩ := foot_there (st.v.rep h e) (foot_back (st.v.rep h e) gr.h f2)
    rw [fr a f1] at ho
    cases ho
  cases d with
  | p x => exact q _ T1 H1 (GrB.refl gr.s (st.eb.trans gr.h)) ((st.grow gr).setP rp.1)
  | hl m xs =>
    cases m with
    | ro => exact q.elim
    | own => exact q.elim
    | new =>
      cases keep with
      | true => exact own (.hl .own xs) rp.1 (fun z => nomatch (show M.own = M.ro from z)) (rp.2 rfl) q
      | false =>
        obtain ⟨T2, g2, e2, r2⟩ := freeze (H0 := H) gr rp
        exact q _ T2 H1 ⟨e2, g2.s, st.eb.trans g2.h, fun a o h1 h2 => by
          cases z : T a with
          | none => exact g2.n a o (st.eb a o h1) z
          | some u => rw [gr.t a u z] at h2; cases h2⟩ ((st.grow g2).setP r2)
  | hd m xs =>
    cases m with
    | ro => exact q.elim
    | own => exact q.elim
    | new => exact own (.hd .own xs) rp.1 (fun z => nomatch (show M.own = M.ro from z)) (rp.2 rfl) q
  | ho m S =>
    cases m with
    | ro => exact q.elim
    | own => exact q.elim
    | new => exact own (.ho .own S) rp.1 (fun z => nomatch (show M.own = M.ro from z)) (rp.2 rfl) q
  | gh m S ps =>
    cases m with
    | ro => exact q.elim
    | own => exact q.elim
    | new =>
      cases keep with
      | true => exact own (.gh .own S ps) rp.1 (fun z => nomatch (show M.own = M.ro from z)) (rp.2 rfl) q
      | false =>
        cases S with
        | none => exact q.elim
        | some S =>
        obtain ⟨T2, g2, e2, r2⟩ := freezeG (H0 := H) gr rp
        exact q _ T2 H1 ⟨e2, g2.s, st.eb.trans g2.h, fun a o h1 h2 => by
          cases z : T a with
          | none => exact g2.n a o (st.eb a o h1) z
          | some u => rw [gr.t a u z] at h2; cases h2⟩ ((st.grow g2).setP r2)
  | hos m S =>
    cases m with
    | ro => exact q.elim
    | own => exact q.elim
    | new => exact own (.hos .own S) rp.1 (fun z => nomatch (show M.own = M.ro from z)) (rp.2 rfl) q
theorem rd_asg {i : Nat} {keep : Bool} {te : TE} (ht : ∀ σ H Q, tPu G W f σ H Q → te σ H Q) : ∀ D σ H, tPs G W (sAsg i keep f) D σ H → tAsg te (gName i) D σ H := fun D σ H ⟨ρ, T, B, st, q⟩ =>
  ht σ H _ ⟨ρ, T, st.ex, st.v, (PostS.onR st q).mono fun v H1 ⟨d, T1, _, gr, rp, q1⟩ => asg_ok st gr rp q1⟩
theorem s_set (i : Nat) (keep : Bool) {x : Str} {pos' : Pos} (hN : X.N.Nodup) (he : PE X e (tPu G W f)) (hi : X.N[i]? = some x := by rfl) (hx : Loc X.env.scope x := by first | exact Or.inl rfl | exact Or.inr rfl) :
    (hs : swapsWith e (some (.Name x pos')) pos.line X.env = pure false := by rfl) → (hf : X.fn x = true ∨ X.env.scope.names.lookup x = some .local := by first | exact .inl rfl | exact .inr rfl) → PS X (.Assign [.Name x pos'] e pos) (tPs G W (sAsg i keep f)) := fun hs hf =>
  ps_imp (ps_set hN hi hx he hs hf) (rd_asg fun _ _ _ h => h)

/-! ### expressions as statements, append, extend -/
@[simp] def sDrop (f : Rho → R D) : Rho → Fl := fun ρ => onR (f ρ) ρ fun _ => .nx ρ
theorem s_expr (he : PE X e (tPu G W f)) : (hs : swapsWith e none pos.line X.env = pure false := by rfl) → PS X (.Expr e pos) (tPs G W (sDrop f)) := fun hs => ps_imp (ps_expr he hs) fun D σ H ⟨ρ, T, B, st, q⟩ =>
  ⟨ρ, T, st.ex, st.v, (PostS.onR st q).mono fun v H1 ⟨d, T1, _, gr, rp, q1⟩ => q1 σ T1 H1 (GrB.refl gr.s (st.eb.trans gr.h)) (st.grow gr)⟩
end
section
variable {G : Gx} {ρ : Rho} {σ : L2.St} {T B H : Hp}
/-- a cell of one handle of ours is written: all others stand -/
theorem StR.mut {i : Nat} {d0 d1 : D} {v : V} {a : Addr} {o : HO} (st : StR G ρ σ T B H) (h0 : ρ[i]? = some (some d0)) (e0 : σ[i]? = some (some v)) (m0 : d0.mode ≠ .ro) (f0 : Foot G H v d0 a) (m1 : d1.mode ≠ .ro) (r1 : Rep G T (upd H a o) v d1)
    (f1 : ∀ b, Foot G (upd H a o) v d1 b → Foot G H v d0 b) : StR G (ρ.set i (some d1)) σ T B (upd H a o) ∧ Ex B (upd H a o) := by
  have hT : T a = none := (foot_there (st.v.rep h0 e0) f0).1
  have hB : B a = none := st.own i d0 v a h0 e0 m0 f0
  have exB : Ex B (upd H a o) := st.eb.upd hB
  have exT : Ex T (upd H a o) := st.ex.upd hT
  have hl : i < σ.length := (List.getElem?_eq_some_iff.mp e0).1
  have hs : σ.set i (some v) = σ := by
    apply List.ext_getElem?
    intro k
    by_cases hk : i = k
    · subst hk; rw [List.getElem?_set_self hl, e0]
    · rw [List.getElem?_set_ne hk]
  -- another handle's cells are not a
  have other : ∀ (j : Nat) (d : D) (u : V), i ≠ j → ρ[j]? = some (some d) → σ[j]? = some (some u) → ∀ b, Foot G H u d b → b ≠ a := fun j d u n h e b f z => by
    subst z
    by_cases m : d.mode = .ro
    · obtain ⟨o', z⟩ := st.ro j d u b h e m f
      rw [hB] at z; cases z
    · exact st.sep i j d0 d v u b n h0 e0 h e m0 m f0 f
  have keepR : ∀ (j : Nat) (d : D) (u : V), i ≠ j → ρ[j]? = some (some d) → σ[j]? = some (some u) → Rep G T (upd H a o) u d := fun j d u n h e => by
    have r := st.v.rep h e
    cases d with
    | p x => exact r
    | hl m xs =>
      obtain ⟨b, vs, rfl, h1, h2, h3⟩ := r
      exact ⟨b, vs, rfl, h1, by rw [upd_ne (other j _ _ n h e b rfl)]; exact h2, h3⟩
    | hd m xs =>
      obtain ⟨b, us, rfl, h1, h2, h3⟩ := r
      have nb := other j _ _ n h e b rfl
      refine ⟨b, us, rfl, h1, ?_, h3⟩
      rcases h2 with h2 | ⟨o', h2⟩
      · exact .inl (by rw [upd_ne nb]; exact h2)
      · exact .inr ⟨o', by rw [upd_ne nb]; exact h2⟩
    | ho m S => exact ⟨r.1.keep (Ex.refl T) fun b o' f q => ⟨by rw [upd_ne (other j _ _ n h e b f)]; exact q, (r.1.there f).1⟩, r.2⟩
    | gh m x ps =>
      have nf := other j _ _ n h e
      obtain ⟨T1, e1, h1, h2, h3⟩ := r
      refine ⟨T1, e1.upd ?_, h1, h2, h3⟩
      cases z : T1 a with
      | none => rfl
      | some o' =>
        rcases h2 a o' z with z1 | ⟨π, hp, z1⟩
        · rw [hT] at z1; cases z1
        · exact absurd rfl (nf a ⟨π, hp, cellAt_mono e1 z1⟩)
    | hos m Ss =>
      have nf := other j _ _ n h e
      obtain ⟨b, vs, rfl, h1, h2, h3, h4, h5⟩ := r
      have ff : ∀ (i : Nat) (u : V), vs[i]? = some u → ∀ c, FootS G H u c → c ≠ a := fun i u hu c f => nf c (.inr ⟨b, vs, u, rfl, h2, List.mem_of_getElem? hu, f⟩)
      have fb : ∀ (i : Nat) (u : V) (c : Addr), vs[i]? = some u → FootS G (upd H a o) u c → FootS G H u c := fun i u c hu f => by
        have hl : i < Ss.length := by rw [← h3]; exact (List.getElem?_eq_some_iff.mp hu).1
        exact FootS.back (h4 i u _ hu (List.getElem?_eq_getElem hl)).1 (fun p o' z q => by rw [upd_ne (ff i u hu p (.inl z))]; exact q) f
      refine ⟨b, vs, rfl, h1, by rw [upd_ne (nf b (.inl rfl))]; exact h2, h3, fun i u S hu hS => ⟨(h4 i u S hu hS).1.keep (Ex.refl T) fun c o' f q => ⟨by rw [upd_ne (ff i u hu c f)]; exact q, ((h4 i u S hu hS).1.there f).1⟩, fun f => (h4 i u S hu hS).2 (fb i u b hu f)⟩, fun i j u w c n hu hw f1 f2 => h5 i j u w c n hu hw (fb i u c hu f1) (fb j w c hw f2)⟩
  have footB : ∀ (j : Nat) (d : D) (u : V) (b : Addr), i ≠ j → ρ[j]? = some (some d) → σ[j]? = some (some u) → Foot G (upd H a o) u d b → Foot G H u d b := fun j d u b n h e f => by
    cases d with
    | p x => exact f
    | hl m xs => exact f
    | hd m xs => exact f
    | ho m S =>
      rcases f with f | ⟨p, dx, c, dd, vs, k, f1, f2, f3⟩
      · exact .inl f
      · have nb := other j _ _ n h e p (.inl f1)
        rw [upd_ne nb] at f2
        exact .inr ⟨p, dx, c, dd, vs, k, f1, f2, f3⟩
    | gh m x ps =>
      obtain ⟨π, hp, f⟩ := f
      have nf := other j _ _ n h e
      obtain ⟨T1, e1, _, h2, h3⟩ := st.v.rep h e
      obtain ⟨c, vs, h4, _, _, _⟩ := h3 π hp
      have hT1 : Ex T1 (upd H a o) := e1.upd (by
        cases z : T1 a with
        | none => rfl
        | some o' =>
          rcases h2 a o' z with z1 | ⟨π', hp', z1⟩
          · rw [hT] at z1; cases z1
          · exact absurd rfl (nf a ⟨π', hp', cellAt_mono e1 z1⟩))
      rw [cellAt_mono hT1 h4] at f
      cases f
      exact ⟨π, hp, cellAt_mono e1 h4⟩
    | hos m Ss =>
      have nf := other j _ _ n h e
      obtain ⟨c, vs, rfl, h1, h2, h3, h4, h5⟩ := st.v.rep h e
      rcases f with f | ⟨p, ws, x, f1, f2, f3, f4⟩
      · exact .inl f
      · cases f1
        rw [upd_ne (nf c (.inl rfl)), h2] at f2
        cases f2
        obtain ⟨k, hk⟩ := List.getElem?_of_mem f3
        have hl : k < Ss.length := by rw [← h3]; exact (List.getElem?_eq_some_iff.mp hk).1
        exact .inr ⟨c, vs, x, rfl, h2, f3, FootS.back (h4 k x _ hk (List.getElem?_eq_getElem hl)).1 (fun p o' z q => by rw [upd_ne (nf p (.inr ⟨c, vs, x, rfl, h2, f3, .inl z⟩))]; exact q) f4⟩
  refine ⟨?_, exB⟩
  refine ⟨⟨by rw [List.length_set]; exact st.v.len, fun j d h => ?_⟩, exT, exB, fun j d u b h e m f => ?_, fun j d u b h e m f => ?_, fun j k d e u w b n h1 h2 h3 h4 m1' m2 f1' f2 => ?_⟩
  · rcases set_cases h with ⟨z, z'⟩ | ⟨n, h⟩
    · cases z'; subst z; exact ⟨v, e0, r1⟩
    · obtain ⟨u, e, _⟩ := st.v.at_ j d h
      exact ⟨u, e, keepR j d u n h e⟩
  · rcases set_cases h with ⟨z, z'⟩ | ⟨n, h⟩
    · cases z'; subst z
      rw [e0] at e; cases e
      exact st.own i d0 v b h0 e0 m0 (f1 b f)
    · exact st.own j d u b h e m (footB j d u b n h e f)
  · rcases set_cases h with ⟨z, z'⟩ | ⟨n, h⟩
    · cases z'; exact absurd m m1
    · exact st.ro j d u b h e m (footB j d u b n h e f)
  · rcases set_cases h1 with ⟨z, z'⟩ | ⟨n1, h1⟩
    · cases z'; subst z
      rw [e0] at h2; cases h2
      rcases set_cases h3 with ⟨z, _⟩ | ⟨n2, h3⟩
      · exact n z
      · exact st.sep i k d0 e v w b n h0 e0 h3 h4 m0 m2 (f1 b f1') (footB k e w b n2 h3 h4 f2)
    · rcases set_cases h3 with ⟨z, z'⟩ | ⟨n2, h3⟩
      · cases z'; subst z
        rw [e0] at h4; cases h4
        exact st.sep j i d d0 u v b n h1 h2 h0 e0 m1' m0 (footB j d u b n1 h1 h2 f1') (f1 b f2)
      · exact st.sep j k d e u w b n h1 h2 h3 h4 m1' m2 (footB j d u b n1 h1 h2 f1') (footB k e w b n2 h3 h4 f2)
end
end SP
/-! SP7: loops, changes of lists, defs. -/
namespace SP
open PySem PySem.Spec PyProof.Rows L2

/-! ### for -/
def Fl.loop : Fl → (Rho → Fl) → Fl
  | .nx ρ, k => k ρ
  | .ct ρ, k => k ρ
  | .bk ρ, _ => .nx ρ
  | f, _ => f
@[simp] theorem loop_nx (ρ : Rho) (g : Rho → Fl) : (Fl.nx ρ).loop g = g ρ := rfl
@[simp] theorem loop_ct (ρ : Rho) (g : Rho → Fl) : (Fl.ct ρ).loop g = g ρ := rfl
@[simp] theorem loop_bk (ρ : Rho) (g : Rho → Fl) : (Fl.bk ρ).loop g = .nx ρ := rfl
@[simp] theorem loop_rt (d : D) (ρ : Rho) (g : Rho → Fl) : (Fl.rt d ρ).loop g = .rt d ρ := rfl
@[simp] theorem loop_bad (g : Rho → Fl) : Fl.bad.loop g = .bad := rfl
@[simp] theorem loop_ex (c : Nat) (ρ : Rho) (g : Rho → Fl) : (Fl.ex c ρ).loop g = .ex c ρ := rfl
@[simp] theorem loop_ite {c : Prop} [Decidable c] (a b : Fl) (g : Rho → Fl) : (if c then a else b).loop g = if c then a.loop g else b.loop g := by split <;> rfl
def forGo (i : Nat) (b : Rho → Fl) : List P → Rho → Fl
  | [], ρ => .nx ρ
  | x :: r, ρ => (b (ρ.set i (some (.p x)))).loop (forGo i b r)
section
variable {G : Gx} {W : WX} {T B : Hp} {i : Nat} {b : Rho → Fl} {tb : TS}
/-- between two turns: what is left of the loop comes to the end that is wanted -/
def FInv (G : Gx) (W : WX) (T B : Hp) (i : Nat) (b : Rho → Fl) (D : Ends) (rest : List P) (σ : L2.St) (H : Hp) : Prop :=
  ∃ ρ T', GrB T B T' H ∧ StR G ρ σ T' B H ∧ PostS G W T' B (forGo i b rest ρ) D
theorem for_turn {D : Ends} {x : P} {rest : List P} {σ : L2.St} {H : Hp} {v : V} (rx : Rp G T v x) (h : FInv G W T B i b D (x :: rest) σ H) :
    tPs G W b { D with nx := FInv G W T B i b D rest, ct := FInv G W T B i b D rest, bk := D.nx } (σ.set i (some v)) H := by
  obtain ⟨ρ, T', g, st, q⟩ := h
  refine ⟨_, T', B, st.setP (rx.mono g.t), ?_⟩
  unfold forGo at q
  cases e : b (ρ.set i (some (.p x))) with
  | nx ρ' => rw [e] at q; exact fun σ2 T2 H2 g2 st2 => ⟨ρ', T2, g.trans g2, st2, q.go g2⟩
  | ct ρ' => rw [e] at q; exact fun σ2 T2 H2 g2 st2 => ⟨ρ', T2, g.trans g2, st2, q.go g2⟩
  | bk ρ' => rw [e] at q; exact q
  | rt d ρ' => rw [e] at q; exact q
  | ex c ρ' => rw [e] at q; exact q
  | bad => rw [e] at q; exact q
theorem for_end {D : Ends} {σ : L2.St} {H : Hp} (h : FInv G W T B i b D [] σ H) : D.nx σ H := by
  obtain ⟨ρ, T', g, st, q⟩ := h
  exact q σ T' H (GrB.refl st.ex st.eb) st
end
def sForK (i : Nat) (b : Rho → Fl) (ρ : Rho) : D → Fl
  | .p (.lst xs) => forGo i b xs ρ
  | _ => .bad
@[simp] theorem sForK_ok (i : Nat) (b : Rho → Fl) (ρ : Rho) (xs : List P) : sForK i b ρ (.p (.lst xs)) = forGo i b xs ρ := rfl
@[simp] def sFor (i : Nat) (f : Rho → R D) (b : Rho → Fl) : Rho → Fl := fun ρ => onR (fz f ρ) ρ (sForK i b ρ)
def sForTK (i : Nat) (b : Rho → Fl) (ρ : Rho) : D → Fl
  | .p (.tup xs) => forGo i b xs ρ
  | _ => .bad
@[simp] theorem sForTK_ok (i : Nat) (b : Rho → Fl) (ρ : Rho) (xs : List P) : sForTK i b ρ (.p (.tup xs)) = forGo i b xs ρ := rfl
@[simp] def sForT (i : Nat) (f : Rho → R D) (b : Rho → Fl) : Rho → Fl := fun ρ => onR (fz f ρ) ρ (sForTK i b ρ)
def chars (s : Str) : List P := s.cps.toList.map fun c => .str ⟨#[c]⟩
def sForSK (i : Nat) (b : Rho → Fl) (ρ : Rho) : D → Fl
  | .p (.str s) => forGo i b (chars s) ρ
  | _ => .bad
@[simp] theorem sForSK_ok (i : Nat) (b : Rho → Fl) (ρ : Rho) (s : Str) : sForSK i b ρ (.p (.str s)) = forGo i b (chars s) ρ := rfl
@[simp] def sForS (i : Nat) (f : Rho → R D) (b : Rho → Fl) : Rho → Fl := fun ρ => onR (fz f ρ) ρ (sForSK i b ρ)
def onA (r : R (List D)) (ρ : Rho) (k : List D → Fl) : Fl := match r with
  | .ok d => k d
  | .ex c => .ex c ρ
  | .bad => .bad
@[simp] theorem onA_ok (d : List D) (ρ : Rho) (k : List D → Fl) : onA (.ok d) ρ k = k d := rfl
def sForRK (i : Nat) (b : Rho → Fl) (ρ : Rho) : Option Nat → Fl
  | some n => forGo i b (upTo n) ρ
  | none => .bad
@[simp] theorem sForRK_ok (i : Nat) (b : Rho → Fl) (ρ : Rho) (n : Nat) : sForRK i b ρ (some n) = forGo i b (upTo n) ρ := rfl
@[simp] noncomputable def sForR (i : Nat) (fs : Rho → R (List D)) (b : Rho → Fl) : Rho → Fl := fun ρ => onA (fs ρ) ρ fun ds => sForRK i b ρ (rangeOf ds)
section
variable {X : Cx} {G : Gx} {W : WX} {st : Stmt} {body : List Stmt} {g g1 g2 : Rho → Fl} {e a c tg iter : Expr} {f : Rho → R D} {fs : Rho → R (List D)} {ca : Rho → R Bool} {pos p : Pos}
theorem PostS.onA {ρ : Rho} {σ : L2.St} {T B H : Hp} {r : R (List D)} {k : List D → Fl} {D' : Ends} (st : StR G ρ σ T B H) (h : PostS G W T B (onA r ρ k) D') : PostA G W σ T H r fun vs H1 => ∃ ds T1, r = .ok ds ∧ Gr T H T1 H1 ∧ RepL G T1 H1 vs ds ∧ PostS G W T1 B (k ds) D' := by
  cases r with
  | ok d => exact fun v T1 H1 g q => ⟨d, T1, rfl, g, q, PostS.go (GrB.of st.eb g) h⟩
  | ex c => exact fun H1 e => h σ T H1 (GrB.of st.eb (Gr.grow st.ex e)) (st.grow (Gr.grow st.ex e))
  | bad => exact h
theorem s_for (i : Nat) {x : Str} (hp : PassesOwn (model X.prog X.w) X.A X.env X.xe) (hc : X.calm = true) (hN : X.N.Nodup) (hi : PE X iter (tPu G W f)) (hb : PSs X body (tPs G W g)) (hx : X.N[i]? = some x := by rfl) (hl : Loc X.env.scope x := by first | exact Or.inl rfl | exact Or.inr rfl) :
    (hf : X.fn x = true ∨ X.env.scope.names.lookup x = some .local := by first | exact .inl rfl | exact .inr rfl) → (hs : ∀ x, foldedSetIterable iter X.env x = pure x := by intro _; rfl) → PS X (.For (.Name x p) iter body [] pos) (tPs G W (sFor i f g)) := fun hf hs =>
  ps_imp (ps_for hp hc (pi_list (pu_fz hi)) (pg_name (i := i) hN hx hl hf) hb hs) fun D σ H ⟨ρ, T, B, st, q⟩ => ⟨ρ, T, st.ex, st.v, (PostS.onR st q).mono fun v H1 ⟨d, T1, _, gr, rp, q1⟩ => by
    cases d with
    | p y =>
      cases y with
      | lst xs =>
        cases (show Rp G T1 v (.lst xs) from rp.1) with
        | @lst a vs _ h1 r1 =>
          have q1 : PostS G W T1 B (forGo i g xs ρ) D := q1
          have st1 := st.grow gr
          refine ⟨a, rfl, ⟨vs, SqL.of (gr.s _ _ h1)⟩, for_list (K := X.K) (xs := vs) (fun k σ' H' => FInv G W T1 B i g D (xs.drop k) σ' H') ⟨ρ, T1, GrB.refl gr.s st1.eb, st1, q1⟩ (fun k σ' H' _ h => ?_) (fun k y σ' H' hk h => ?_) (fun σ' H' h => ?_)⟩
          · obtain ⟨_, T', g', st', _⟩ := h
            exact SqL.of (st'.ex _ _ (g'.t _ _ h1))
          · obtain ⟨z, hz, rz⟩ := r1.get hk
            have hd : xs.drop k = z :: xs.drop (k + 1) := by
              obtain ⟨hlt, e⟩ := List.getElem?_eq_some_iff.mp hz
              rw [← e]; exact List.drop_eq_getElem_cons hlt
            rw [hd] at h
            exact for_turn rz h
          · rw [List.drop_eq_nil_of_le (by rw [r1.length]; exact Nat.le_refl _)] at h
            exact for_end h
      | non => exact q1.elim
      | bl b => exact q1.elim
      | int b => exact q1.elim
      | str b => exact q1.elim
      | tup b => exact q1.elim
      | scr b => exact q1.elim
    | hl m x => exact q1.elim
    | hd m x => exact q1.elim
    | ho m x => exact q1.elim
    | gh m x ps => exact q1.elim
    | hos m x => exact q1.elim⟩
theorem s_forT (i : Nat) {x : Str} (hp : PassesOwn (model X.prog X.w) X.A X.env X.xe) (hc : X.calm = true) (hN : X.N.Nodup) (hi : PE X iter (tPu G W f)) (hb : PSs X body (tPs G W g)) (hx : X.N[i]? = some x := by rfl) (hl : Loc X.env.scope x := by first | exact Or.inl rfl | exact Or.inr rfl) :
    (hf : X.fn x = true ∨ X.env.scope.names.lookup x = some .local := by first | exact .inl rfl | exact .inr rfl) → (hs : ∀ x, foldedSetIterable iter X.env x = pure x := by intro _; rfl) → PS X (.For (.Name x p) iter body [] pos) (tPs G W (sForT i f g)) := fun hf hs =>
  ps_imp (ps_for hp hc (pi_tup (pu_fz hi)) (pg_name (i := i) hN hx hl hf) hb hs) fun D σ H ⟨ρ, T, B, st, q⟩ => ⟨ρ, T, st.ex, st.v, (PostS.onR st q).mono fun v H1 ⟨d, T1, _, gr, rp, q1⟩ => by
    cases d with
    | p y =>
      cases y with
      | tup xs =>
        cases (show Rp G T1 v (.tup xs) from rp.1) with
        | @tup a vs _ h1 r1 =>
          have q1 : PostS G W T1 B (forGo i g xs ρ) D := q1
          have st1 := st.grow gr
          refine ⟨a, rfl, ⟨vs, SqT.of (gr.s _ _ h1)⟩, for_tup (K := X.K) (xs := vs) (fun k σ' H' => FInv G W T1 B i g D (xs.drop k) σ' H') ⟨ρ, T1, GrB.refl gr.s st1.eb, st1, q1⟩ (fun k σ' H' _ h => ?_) (fun k y σ' H' hk h => ?_) (fun σ' H' h => ?_)⟩
          · obtain ⟨_, T', g', st', _⟩ := h
            exact SqT.of (st'.ex _ _ (g'.t _ _ h1))
          · obtain ⟨z, hz, rz⟩ := r1.get hk
            have hd : xs.drop k = z :: xs.drop (k + 1) := by
              obtain ⟨hlt, e⟩ := List.getElem?_eq_some_iff.mp hz
              rw [← e]; exact List.drop_eq_getElem_cons hlt
            rw [hd] at h
            exact for_turn rz h
          · rw [List.drop_eq_nil_of_le (by rw [r1.length]; exact Nat.le_refl _)] at h
            exact for_end h
      | non => exact q1.elim
      | bl b => exact q1.elim
      | int b => exact q1.elim
      | str b => exact q1.elim
      | lst b => exact q1.elim
      | scr b => exact q1.elim
    | hl m x => exact q1.elim
    | hd m x => exact q1.elim
    | ho m x => exact q1.elim
    | gh m x ps => exact q1.elim
    | hos m x => exact q1.elim⟩
theorem s_forS (i : Nat) {x : Str} (hp : PassesOwn (model X.prog X.w) X.A X.env X.xe) (hc : X.calm = true) (hN : X.N.Nodup) (hi : PE X iter (tPu G W f)) (hb : PSs X body (tPs G W g)) (hx : X.N[i]? = some x := by rfl) (hl : Loc X.env.scope x := by first | exact Or.inl rfl | exact Or.inr rfl) :
    (hf : X.fn x = true ∨ X.env.scope.names.lookup x = some .local := by first | exact .inl rfl | exact .inr rfl) → (hs : ∀ x, foldedSetIterable iter X.env x = pure x := by intro _; rfl) → PS X (.For (.Name x p) iter body [] pos) (tPs G W (sForS i f g)) := fun hf hs =>
  ps_imp (ps_for hp hc (pi_str (pu_fz hi)) (pg_name (i := i) hN hx hl hf) hb hs) fun D σ H ⟨ρ, T, B, st, q⟩ => ⟨ρ, T, st.ex, st.v, (PostS.onR st q).mono fun v H1 ⟨d, T1, _, gr, rp, q1⟩ => by
    cases d with
    | p y =>
      cases y with
      | str s =>
        cases rstr rp.1
        have q1 : PostS G W T1 B (forGo i g (chars s) ρ) D := q1
        have st1 := st.grow gr
        refine ⟨s, rfl, fun k m σ' H' => m = s.cps.size - k ∧ k ≤ s.cps.size ∧ FInv G W T1 B i g D ((chars s).drop k) σ' H', ⟨_, rfl, Nat.zero_le _, ρ, T1, GrB.refl gr.s st1.eb, st1, q1⟩, ?_⟩
        have hlen : (chars s).length = s.cps.size := by unfold chars; rw [List.length_map, Array.length_toList]
        rintro k m σ' H' ⟨rfl, hk, h⟩
        by_cases hlt : k < s.cps.size
        · refine .inr ⟨hlt, FInv G W T1 B i g D ((chars s).drop (k + 1)), fun σ2 H2 h2 => ⟨_, by omega, rfl, hlt, h2⟩, fun y H2 hy => ?_⟩
          obtain ⟨rfl, cc, hc', rfl⟩ := hy
          have hd : (chars s).drop k = .str ⟨#[cc]⟩ :: (chars s).drop (k + 1) := by
            rw [List.drop_eq_getElem_cons (by rw [hlen]; exact hlt)]
            congr 1
            have e : (chars s)[k]? = some (.str ⟨#[cc]⟩) := by
              unfold chars
              rw [List.getElem?_map, Array.getElem?_toList, hc']
              rfl
            rw [List.getElem?_eq_getElem (by rw [hlen]; exact hlt)] at e
            exact Option.some.inj e
          rw [hd] at h
          exact for_turn (.str _) h
        · have e : k = s.cps.size := by omega
          subst e
          rw [List.drop_eq_nil_of_le (by rw [hlen]; exact Nat.le_refl _)] at h
          exact .inl ⟨Nat.le_refl _, for_end h⟩
      | non => exact q1.elim
      | bl b => exact q1.elim
      | int b => exact q1.elim
      | tup b => exact q1.elim
      | lst b => exact q1.elim
      | scr b => exact q1.elim
    | hl m x => exact q1.elim
    | hd m x => exact q1.elim
    | ho m x => exact q1.elim
    | gh m x ps => exact q1.elim
    | hos m x => exact q1.elim⟩
theorem s_forR (i : Nat) {x : Str} {p1 pos' : Pos} (hp : PassesOwn (model X.prog X.w) X.A X.env X.xe) (hc : X.calm = true) (hN : X.N.Nodup) (hm : X.mg "range" = none) (ha : PA X [a] (tPuA G W fs)) (hb : PSs X body (tPs G W g)) (hgl : Gl X "range" := by rfl) (hx : X.N[i]? = some x := by rfl)
    (hl : Loc X.env.scope x := by first | exact Or.inl rfl | exact Or.inr rfl) :
    (hf : X.fn x = true ∨ X.env.scope.names.lookup x = some .local := by first | exact .inl rfl | exact .inr rfl) → (hst : starEach [a] X.env = [(false, eval a X.env)] := by rfl) → (hs : ∀ x, foldedSetIterable (.Call (.Name "range" p1) [a] [] pos') X.env x = pure x := by intro _; rfl) →
    PS X (.For (.Name x p) (.Call (.Name "range" p1) [a] [] pos') body [] pos) (tPs G W (sForR i fs g)) := fun hf hst hs =>
  ps_imp (ps_for hp hc (pi_range1 hgl hm ha hst) (pg_name (i := i) hN hx hl hf) hb hs) fun D σ H ⟨ρ, T, B, st, q⟩ => ⟨ρ, T, st.ex, st.v, (PostS.onA st q).mono fun vs H1 ⟨ds, T1, _, gr, rps, q1⟩ => by
    cases hn : rangeOf ds with
    | none => rw [hn] at q1; exact q1.elim
    | some n =>
      rw [hn] at q1
      have q1 : PostS G W T1 B (forGo i g (upTo n) ρ) D := q1
      obtain ⟨j, rfl, b1, b2, e, _⟩ := range_ok rps hn
      have st1 := st.grow gr
      refine ⟨j, rfl, b1, b2, ?_⟩
      rw [e]
      refine for_range (lo := 0) (n := n) (fun k σ' H' => FInv G W T1 B i g D ((upTo n).drop k) σ' H') ⟨ρ, T1, GrB.refl gr.s st1.eb, st1, q1⟩ (fun k σ' H' hk h => ?_) (fun σ' H' h => ?_)
      · rw [upTo_drop hk] at h
        rw [show (0 : Int) + (k : Int) = (k : Int) from Int.zero_add _]
        exact for_turn (.int _) h
      · rw [List.drop_eq_nil_of_le (by rw [upTo_length]; exact Nat.le_refl _)] at h
        exact for_end h⟩

/-! ### while, with fuel -/
def whGo (c : Rho → R Bool) (b : Rho → Fl) : Nat → Rho → Fl
  | 0, _ => .bad
  | n + 1, ρ => onB (c ρ) ρ fun k => if k = true then (b ρ).loop (whGo c b n) else .nx ρ
theorem s_while (n : Nat) (hp : PassesOwn (model X.prog X.w) X.A X.env X.xe) (hc : PT X c (tPuT G W ca)) (hb : PSs X body (tPs G W g)) : PS X (.While c body [] pos) (tPs G W (whGo ca g n)) :=
  ps_imp (ps_while hp hc hb) fun D σ H ⟨ρ, T, B, st, q⟩ => by
    refine ⟨fun m σ' H' => ∃ ρ' T', StR G ρ' σ' T' B H' ∧ PostS G W T' B (whGo ca g m ρ') D, ⟨n, ρ, T, st, q⟩, ?_⟩
    rintro m σ' H' ⟨ρ', T', st', q'⟩
    cases m with
    | zero => exact q'.elim
    | succ m =>
      refine ⟨ρ', T', st'.ex, st'.v, (PostS.onB st' q').monoQ fun k H1 ⟨T1, gr, q1⟩ => ?_⟩
      cases k with
      | false => exact iteF (q1 σ' T1 H1 (GrB.refl gr.s (st'.eb.trans gr.h)) (st'.grow gr))
      | true =>
        refine iteT ⟨fun σ2 H2 => ∃ ρ2 T2, StR G ρ2 σ2 T2 B H2 ∧ PostS G W T2 B (whGo ca g m ρ2) D, fun σ2 H2 h => ⟨m, Nat.lt_succ_self m, h⟩, ρ', T1, B, st'.grow gr, ?_⟩
        rw [if_pos rfl] at q1
        cases e : g ρ' with
        | nx ρ2 => rw [e] at q1; exact fun σ2 T2 H2 g2 st2 => ⟨ρ2, T2, st2, q1.go g2⟩
        | ct ρ2 => rw [e] at q1; exact fun σ2 T2 H2 g2 st2 => ⟨ρ2, T2, st2, q1.go g2⟩
        | bk ρ2 => rw [e] at q1; exact q1
        | rt d ρ2 => rw [e] at q1; exact q1
        | ex c ρ2 => rw [e] at q1; exact q1
        | bad => rw [e] at q1; exact q1
end

/-! ### a def -/
/-- the frame at the entry -/
def env0 (n : Nat) (ds : List D) : Rho := ds.map some ++ List.replicate (n - ds.length) none
def outF : Fl → R D
  | .nx _ => .ok (.p .non)
  | .rt d _ => .ok d
  | .ex c _ => .ex c
  | _ => .bad
@[simp] theorem outF_nx (ρ : Rho) : outF (.nx ρ) = .ok (.p .non) := rfl
@[simp] theorem outF_rt (d : D) (ρ : Rho) : outF (.rt d ρ) = .ok d := rfl
@[simp] theorem outF_ex (c : Nat) (ρ : Rho) : outF (.ex c ρ) = .ex c := rfl
@[simp] theorem outF_bad : outF .bad = .bad := rfl
@[simp] theorem outF_ite {c : Prop} [Decidable c] (a b : Fl) : outF (if c then a else b) = if c then outF a else outF b := by split <;> rfl
def runF (n : Nat) (g : Rho → Fl) (ds : List D) : R D := outF (g (env0 n ds))
/-- all arguments are plain, or handles that are only read -/
def D.isRo : D → Bool
  | .p _ => true
  | .hl .ro _ => true
  | .hd .ro _ => true
  | .ho .ro _ => true
  | .hos .ro _ => true
  | _ => false
@[simp] theorem isRo_p (x : P) : D.isRo (.p x) = true := rfl
@[simp] theorem isRo_hl (x : List P) : D.isRo (.hl .ro x) = true := rfl
@[simp] theorem isRo_hd (x : List (Key × P)) : D.isRo (.hd .ro x) = true := rfl
@[simp] theorem isRo_ho (x : SX) : D.isRo (.ho .ro x) = true := rfl
def allRo (ds : List D) : Bool := ds.all D.isRo
@[simp] theorem allRo_nil : allRo [] = true := rfl
@[simp] theorem allRo_cons (d : D) (ds : List D) : allRo (d :: ds) = (d.isRo && allRo ds) := rfl
def runP (n : Nat) (g : Rho → Fl) (ds : List D) : R D := if allRo ds = true then runF n g ds else .bad
section
variable {P : Program} {w : World} {K : PySem.W.Frag} {mg : Str → Option Value} {base : Heap} {G : Gx}
theorem repL_get {T H : Hp} : ∀ {vs : List V} {ds : List D} {i : Nat} {d : D}, RepL G T H vs ds → ds[i]? = some d → ∃ v, vs[i]? = some v ∧ Rep G T H v d
  | [], [], _, _, _, e => by simp at e
  | v :: vs, d :: ds, 0, _, h, e => by
    cases (show some d = some _ from e)
    exact ⟨v, rfl, h.1⟩
  | v :: vs, d :: ds, i + 1, d', h, e => by
    obtain ⟨u, h1, h2⟩ := repL_get (i := i) (d := d') h.2 (by simpa using e)
    exact ⟨u, by simpa using h1, h2⟩
  | [], _ :: _, _, _, h, _ => h.elim
  | _ :: _, [], _, _, h, _ => h.elim
theorem env0_at {n : Nat} {ds : List D} {i : Nat} {d : D} (h : (env0 n ds)[i]? = some (some d)) : ds[i]? = some d := by
  unfold env0 at h
  by_cases hi : i < ds.length
  · rw [List.getElem?_append_left (by rw [List.length_map]; exact hi), List.getElem?_map] at h
    cases e : ds[i]? with
    | none => rw [e] at h; cases h
    | some x => rw [e] at h; cases h; rfl
  · rw [List.getElem?_append_right (by rw [List.length_map]; omega), List.getElem?_replicate] at h
    split at h <;> cases h
theorem start_at {N : List Str} {vs : List V} {i : Nat} {v : V} (h : vs[i]? = some v) : (L2.start N vs)[i]? = some (some v) := by
  unfold L2.start
  have hi : i < vs.length := (List.getElem?_eq_some_iff.mp h).1
  rw [List.getElem?_append_left (by rw [List.length_map]; exact hi), List.getElem?_map, h]
  rfl
theorem st_start {T H : Hp} {N : List Str} {vs : List V} {ds : List D} (ex : Ex T H) (r : RepL G T H vs ds) : StV G (env0 N.length ds) (L2.start N vs) T H := ⟨by
  unfold env0 L2.start
  rw [List.length_append, List.length_append, List.length_map, List.length_map, List.length_replicate, List.length_replicate, r.length], fun i d h => by
  obtain ⟨v, e, q⟩ := repL_get r (env0_at h)
  exact ⟨v, start_at e, q⟩⟩
theorem stR_start {T H : Hp} {N : List Str} {vs : List V} {ds : List D} (ex : Ex T H) (r : RepL G T H vs ds) (ha : allRo ds = true) : StR G (env0 N.length ds) (L2.start N vs) T H H := by
  have md : ∀ (i : Nat) (d : D), (env0 N.length ds)[i]? = some (some d) → d.mode = .ro := fun i d h => by
    have m := List.mem_of_getElem? (env0_at h)
    have z := List.all_eq_true.mp ha d m
    cases d with
    | p x => rfl
    | hl m' x => cases m' <;> first | rfl | cases z
    | hd m' x => cases m' <;> first | rfl | cases z
    | ho m' x => cases m' <;> first | rfl | cases z
    | gh m' x ps => cases z
    | hos m' x => cases m' <;> first | rfl | cases z
  have sv := st_start (N := N) ex r
  exact ⟨sv, ex, Ex.refl H, fun i d u a h e m _ => absurd (md i d h) m, fun i d u a h e m f => (foot_there (sv.rep h e) f).2, fun i j d e u w a _ h _ _ _ m _ => absurd (md i d h) m⟩
/-- THE RULE for a def of plain data -/
theorem def_ok {x qual : Str} {st : Stmt} {f : Addr} {fd : FuncData} {N ps : List Str} {k : Nat} {g : Rho → Fl} (F : Fun K x qual st f fd) (S : FnScope N ps (defScope st))
    (hbody : ∀ (cdv : Value) (A : Around) (outer : List PySem.Env) (s : Shared) (H : Hp) (E : XK), Room k (A.deeper (envOfC qual (defScope st) s.heap.objs.size f cdv)) → Takes (cxOf (L2.CX P w) P w K mg base N qual (defScope st) f cdv A outer s H E) (fun c d _ H' => E c d H') →
      PassesOwn (model P w) (cxOf (L2.CX P w) P w K mg base N qual (defScope st) f cdv A outer s H E).A (cxOf (L2.CX P w) P w K mg base N qual (defScope st) f cdv A outer s H E).env (cxOf (L2.CX P w) P w K mg base N qual (defScope st) f cdv A outer s H E).xe →
      PSs (cxOf (L2.CX P w) P w K mg base N qual (defScope st) f cdv A outer s H E) (defBody st) (tPs G (fun c d _ H' => E c d H') g)) :
    FnOk P w K mg base (L2.CX P w) (k + 1) f fd ps (spF G ps.length (runP N.length g)) := by
  refine F.okX S (fun vs H Q E h => ?_) (fun cdv A outer s H vs Q E hr h => ⟨_, hbody cdv A outer s H E hr (takes_of rfl rfl rfl rfl) (passes_of rfl), ?_⟩)
  · obtain ⟨T, ds, _, r, hn, _⟩ := h
    rw [r.length, hn]
  · obtain ⟨T, ds, ex, r, hn, q⟩ := h
    unfold runP at q
    by_cases ha : allRo ds = true
    · rw [if_pos ha] at q
      refine ⟨_, T, H, stR_start ex r ha, ?_⟩
      unfold runF at q
      have gr : ∀ {T' H' : Hp}, GrB T H T' H' → Gr T H T' H' := fun g => ⟨g.t, g.s, g.b, g.n⟩
      cases e : g (env0 N.length ds) with
      | nx ρ => rw [e] at q; exact fun σ T' H' g' _ => q .non T' H' (gr g') (.p .non)
      | rt d ρ => rw [e] at q; exact fun v σ T' H' g' _ r' => q v T' H' (gr g') r'
      | ex c ρ => rw [e] at q; exact fun σ T' H' g' _ => q H' g'.b
      | bk ρ => rw [e] at q; exact q.elim
      | ct ρ => rw [e] at q; exact q.elim
      | bad => rw [e] at q; exact q.elim
    · rw [if_neg ha] at q; exact q.elim
end
end SP
/-! SP8: short rules that the printed derivations use. -/
namespace SP
open PySem PySem.Spec PyProof.Rows L2

/-- a def of the program that keeps its plain function F of n arguments, at level k -/
structure Df (P : Program) (w : World) (K : PySem.W.Frag) (mg : Str → Option Value) (base : Heap) (G : Gx) (x : Str) (k n : Nat) (F : List D → R D) : Prop where
  ex : ∃ (f : Addr) (fd : FuncData) (ps : List Str), FnOk P w K mg base (L2.CX P w) k f fd ps (spF G n F) ∧ mg x = some (.ref f) ∧ PySem.W.keepIn K (.ref f) = true ∧ Binds K fd ps []
/-- an error class of the program, derived from ValueError -/
structure ErrC (K : PySem.W.Frag) (mg : Str → Option Value) (x : Str) (c : Addr) : Prop where
  at_ : mg x = some (.ref c)
  exc : PySem.W.excIn K c [.type "ValueError", .type "Exception", .type "BaseException", .type "object"] "ValueError.__new__" = true
  kp : PySem.W.keepIn K (.ref c) = true
  base : PySem.W.subIn K (.ref c) (.type "BaseException") = some true
  ty : PySem.W.typeIn K (.ref c) = some (.type "type")
section
variable {X : Cx} {G : Gx} {W : WX} {e a b : Expr} {es : List Expr} {f fa : Rho → R D} {fs : Rho → R (List D)} {pos p : Pos}
theorem p_f {x : Str} {k k' n : Nat} {F : List D → R D} (d : Df X.prog X.w X.K X.mg X.base G x k n F) (hr : Room k' X.A) (tk : Takes X W) (ha : PA X (e :: es) (tPuA G W fs)) (hk : k ≤ k' := by decide) (hg : Gl X x := by rfl) :
    (hdb : (x == ("__debug__" : Str)) = false := by decide) → (he : starEach (e :: es) X.env = (false, eval e X.env) :: starEach es X.env := by rfl) → (hpl : (backTo pos (starEach es X.env)).any (·.1) = false := by rfl) →
    PE X (.Call (.Name x p) (e :: es) [] pos) (tPu G W (fCall n F fs)) := fun hdb he hpl => by
  obtain ⟨fa', fd, ps, F1, hm, kp, hb⟩ := d.ex
  exact p_call F1 (hr.mono hk) hm kp hb tk ha hg hdb he hpl
/-- raise X('..') -/
@[simp] def sRaise (c : Nat) : Rho → Fl := fun ρ => .ex c ρ
theorem s_raise (c : Nat) {x m : Str} {j : Nat} {p2 pos2 : Pos} (hc : X.calm = true) (tk : Takes X W) (E : ErrC X.K X.mg x (G.ec c)) (hg : Gl X x := by rfl) (hdb : (x == ("__debug__" : Str)) = false := by decide) :
    PS X (.Raise (some (.Call (.Name x p) [.Constant (.str m) j p2] [] pos)) none pos2) (tPs G W (sRaise c)) :=
  ps_imp (ps_raise hc tk (pmk_own F.excBase_ValueError E.exc E.at_ E.kp (raises_own E.base E.ty) hg hdb)) fun D σ H ⟨ρ, T, B, st, q⟩ => q σ T H (GrB.refl st.ex st.eb) st

/-! ### built-ins -/
section
variable (ha : PA X (e :: es) (tPuA G W fs)) (hK : X.K = G.K := by rfl)
include ha hK
theorem p_len (hm : X.mg "len" = none) (hg : Gl X "len" := by rfl) : (he : starEach (e :: es) X.env = (false, eval e X.env) :: starEach es X.env := by rfl) → (hpl : (backTo pos (starEach es X.env)).any (·.1) = false := by rfl) → PE X (.Call (.Name "len" p) (e :: es) [] pos) (tPu G W (fA gLen fs)) :=
  fun he hpl => p_cb call_lenA (by rw [hK]; exact okLen) hm PySem.boot_len ha hg (by decide) (by decide) he hpl
theorem p_str (hm : X.mg "str" = none) (hg : Gl X "str" := by rfl) : (he : starEach (e :: es) X.env = (false, eval e X.env) :: starEach es X.env := by rfl) → (hpl : (backTo pos (starEach es X.env)).any (·.1) = false := by rfl) → PE X (.Call (.Name "str" p) (e :: es) [] pos) (tPu G W (fA bStr fs)) :=
  fun he hpl => p_ct call_str_int okStr hm boot_str ha hg (by decide) (by decide) he hpl
theorem p_int (hm : X.mg "int" = none) (hg : Gl X "int" := by rfl) : (he : starEach (e :: es) X.env = (false, eval e X.env) :: starEach es X.env := by rfl) → (hpl : (backTo pos (starEach es X.env)).any (·.1) = false := by rfl) → PE X (.Call (.Name "int" p) (e :: es) [] pos) (tPu G W (fA bInt fs)) :=
  fun he hpl => p_ct (call_int1.or call_int_str) okInt hm boot_int ha hg (by decide) (by decide) he hpl
theorem p_list (hm : X.mg "list" = none) (hg : Gl X "list" := by rfl) : (he : starEach (e :: es) X.env = (false, eval e X.env) :: starEach es X.env := by rfl) → (hpl : (backTo pos (starEach es X.env)).any (·.1) = false := by rfl) → PE X (.Call (.Name "list" p) (e :: es) [] pos) (tPu G W (fA gList fs)) :=
  fun he hpl => p_ct call_list_of (by rw [hK]; exact okList) hm boot_list ha hg (by decide) (by decide) he hpl
theorem p_sum (hc : X.calm = true) (hm : X.mg "sum" = none) (hg : Gl X "sum" := by rfl) : (he : starEach (e :: es) X.env = (false, eval e X.env) :: starEach es X.env := by rfl) → (hpl : (backTo pos (starEach es X.env)).any (·.1) = false := by rfl) → PE X (.Call (.Name "sum" p) (e :: es) [] pos) (tPu G W (fA gSum fs)) :=
  fun he hpl => p_cb (cr_sum hc) (by rw [hK]; exact okSum) hm (by decide +kernel) ha hg (by decide) (by decide) he hpl
theorem p_max (hc : X.calm = true) (hm : X.mg "max" = none) (hg : Gl X "max" := by rfl) : (he : starEach (e :: es) X.env = (false, eval e X.env) :: starEach es X.env := by rfl) → (hpl : (backTo pos (starEach es X.env)).any (·.1) = false := by rfl) → PE X (.Call (.Name "max" p) (e :: es) [] pos) (tPu G W (fA gMax fs)) :=
  fun he hpl => p_cb ((call_max2 hc).or (cr_max hc)) (by rw [hK]; exact okMax) hm (by decide +kernel) ha hg (by decide) (by decide) he hpl
theorem p_min (hc : X.calm = true) (hm : X.mg "min" = none) (hg : Gl X "min" := by rfl) : (he : starEach (e :: es) X.env = (false, eval e X.env) :: starEach es X.env := by rfl) → (hpl : (backTo pos (starEach es X.env)).any (·.1) = false := by rfl) → PE X (.Call (.Name "min" p) (e :: es) [] pos) (tPu G W (fA gMin fs)) :=
  fun he hpl => p_cb (call_min2 hc) okMin hm (by decide +kernel) ha hg (by decide) (by decide) he hpl
end
/-- a module's constant -/
theorem gIntE {x : Str} {i : Int} (hm : ∃ t, X.mg x = some (.int i t)) (hg : Gl X x := by rfl) (hd : (x == ("__debug__" : Str)) = false := by decide) : PE X (.Name x pos) (tPu G W (fC (.int i))) := by
  obtain ⟨t, hm⟩ := hm
  exact gInt hm hg hd
theorem gStrE {x : Str} {i : Str} (hm : ∃ t, X.mg x = some (.str i t)) (hg : Gl X x := by rfl) (hd : (x == ("__debug__" : Str)) = false := by decide) : PE X (.Name x pos) (tPu G W (fC (.str i))) := by
  obtain ⟨t, hm⟩ := hm
  exact gStr hm hg hd
theorem ts_nil : PTs X [] (tPuT G W tYesF) := ⟨fun pins s σ H Q I ⟨ρ, T, ex, st, q⟩ => pts_nil.run pins s σ H Q I (q T H (Gr.refl ex))⟩
theorem ts_one {c : Expr} {ca : Rho → R Bool} (h : PT X c (tPuT G W ca)) : PTs X [c] (tPuT G W ca) := pts_one h
theorem s_setLc {elt iter : Expr} {ifs : List Expr} {scope : Scope} {y : Str} {py spos : Pos} {fi f : Rho → R D} {t : Rho → R Bool} {tg : Expr} (j : Nat) (keep : Bool) (i : Nat) (own : List (Str × Nat)) (hc : X.calm = true) (hN : X.N.Nodup) (hi : PE X iter (tPu G W fi)) (ok : BlkOk X.N X.env.scope scope own) (hin : i ∈ own.map (·.2))
    (hg : ∀ (s : Shared) (H : Hp) (C : Addr) (cl : List (Str × Addr)) (fp : List Addr), PG (X.blk s H scope (compEnvC scope cl C X.env) fp) tg (gName i)) (ht : ∀ (s : Shared) (H : Hp) (C : Addr) (cl : List (Str × Addr)) (fp : List Addr), PTs (X.blk s H scope (compEnvC scope cl C X.env) fp) ifs (tPuT G W0 t))
    (he : ∀ (s : Shared) (H : Hp) (C : Addr) (cl : List (Str × Addr)) (fp : List Addr), PE (X.blk s H scope (compEnvC scope cl C X.env) fp) elt (tPu G W0 f)) (hy : X.N[j]? = some y := by rfl) (hyl : X.env.scope.names.lookup y = some .local := by rfl) :
    (hsw : swapsWith (.ListComp elt [⟨tg, iter, ifs, 0⟩] scope pos) (some (.Name y py)) spos.line X.env = pure true := by exact sw_true rfl rfl rfl (by decide +kernel)) → (hs : ∀ x, foldedSetIterable iter X.env x = pure x := by intro _; rfl) →
    PS X (.Assign [.Name y py] (.ListComp elt [⟨tg, iter, ifs, 0⟩] scope pos) spos) (tPs G W (sAsg j keep (fLc (own.map (·.2)) i fi t f))) := fun hsw hs =>
  ps_imp (ps_setLc hc hN hy hyl hsw (pi_list (pu_fz hi)) ok hg ht (fun s H C cl fp => pu_fz (he s H C cl fp)) hs) (rd_asg (rd_lc hin))
theorem s_setLcR {elt a : Expr} {ifs : List Expr} {scope : Scope} {y : Str} {py spos p1 pos' : Pos} {fs : Rho → R (List D)} {f : Rho → R D} {t : Rho → R Bool} {tg : Expr} (j : Nat) (keep : Bool) (i : Nat) (own : List (Str × Nat)) (hc : X.calm = true) (hN : X.N.Nodup) (hm : X.mg "range" = none) (ha : PA X [a] (tPuA G W fs)) (ok : BlkOk X.N X.env.scope scope own) (hin : i ∈ own.map (·.2))
    (hg : ∀ (s : Shared) (H : Hp) (C : Addr) (cl : List (Str × Addr)) (fp : List Addr), PG (X.blk s H scope (compEnvC scope cl C X.env) fp) tg (gName i)) (ht : ∀ (s : Shared) (H : Hp) (C : Addr) (cl : List (Str × Addr)) (fp : List Addr), PTs (X.blk s H scope (compEnvC scope cl C X.env) fp) ifs (tPuT G W0 t))
    (he : ∀ (s : Shared) (H : Hp) (C : Addr) (cl : List (Str × Addr)) (fp : List Addr), PE (X.blk s H scope (compEnvC scope cl C X.env) fp) elt (tPu G W0 f)) (hgl : Gl X "range" := by rfl) (hy : X.N[j]? = some y := by rfl) (hyl : X.env.scope.names.lookup y = some .local := by rfl) :
    (hst : starEach [a] X.env = [(false, eval a X.env)] := by rfl) → (hsw : swapsWith (.ListComp elt [⟨tg, .Call (.Name "range" p1) [a] [] pos', ifs, 0⟩] scope pos) (some (.Name y py)) spos.line X.env = pure true := by exact sw_true rfl rfl rfl (by decide +kernel)) →
    (hs : ∀ x, foldedSetIterable (.Call (.Name "range" p1) [a] [] pos') X.env x = pure x := by intro _; rfl) →
    PS X (.Assign [.Name y py] (.ListComp elt [⟨tg, .Call (.Name "range" p1) [a] [] pos', ifs, 0⟩] scope pos) spos) (tPs G W (sAsg j keep (fLcR (own.map (·.2)) i fs t f))) := fun hst hsw hs =>
  ps_imp (ps_setLc hc hN hy hyl hsw (pi_range1 hgl hm ha hst) ok hg ht (fun s H C cl fp => pu_fz (he s H C cl fp)) hs) (rd_asg (rd_lcR hin))
/-- xs.append(e), xs one's own -/
def appK (i : Nat) (ρ : Rho) (xs : List P) : D → Fl
  | .p y => if xs.length < 16777216 then .nx (ρ.set i (some (.hl .own (xs ++ [y])))) else .bad
  | _ => .bad
@[simp] theorem appK_p (i : Nat) (ρ : Rho) (xs : List P) (y : P) : appK i ρ xs (.p y) = if xs.length < 16777216 then .nx (ρ.set i (some (.hl .own (xs ++ [y])))) else .bad := rfl
def appO (i : Nat) (f : Rho → R D) (ρ : Rho) : Option (Option D) → Fl
  | some (some (.hl .own xs)) => onR (fz f ρ) ρ (appK i ρ xs)
  | _ => .bad
@[simp] theorem appO_own (i : Nat) (f : Rho → R D) (ρ : Rho) (xs : List P) : appO i f ρ (some (some (.hl .own xs))) = onR (fz f ρ) ρ (appK i ρ xs) := rfl
@[simp] def sApp (i : Nat) (f : Rho → R D) : Rho → Fl := fun ρ => appO i f ρ ρ[i]?
theorem s_app (i : Nat) {x : Str} {pn apos pos' : Pos} (he : PE X e (tPu G W f)) (hN : X.N[i]? = some x := by rfl) (hv : Vis X.env.scope x := by first | exact Or.inl rfl | exact Or.inr (Or.inl rfl) | exact Or.inr (Or.inr rfl)) (hd : (x == ("__debug__" : Str)) = false := by decide)
    (hcd : (x == ("__classdict__" : Str)) = false := by decide) : (hbase : attributeBase (.Name x pn) "append" X.env (eval (.Name x pn) X.env) = eval (.Name x pn) X.env := by rfl) →
    (hfew : ((backTo pos' (starEach (e :: []) X.env)).all (fun x => !x.1) && (backToKw pos' (keywordEach [] X.env)).all (fun x => x.1.isSome)
      && decide ((e :: []).length + ([] : List Keyword).length + (if ([] : List Keyword).isEmpty then 0 else 1) < 30)) = true := by rfl) → (hline : (apos.endLine == pos'.line) = true := by rfl) → (hs : starEach (e :: []) X.env = (false, eval e X.env) :: starEach [] X.env := by rfl) →
    (hpl : (backTo pos' (starEach [] X.env)).any (·.1) = false := by rfl) → (hsw : swapsWith (.Call (.Attribute (.Name x pn) "append" apos) [e] [] pos') none pos.line X.env = pure false := by rfl) →
    PS X (.Expr (.Call (.Attribute (.Name x pn) "append" apos) [e] [] pos') pos) (tPs G W (sApp i f)) := fun hbase hfew hline hs hpl hsw =>
  ps_imp (ps_expr (pe_bm PySem.F.plainAttrs_list PySem.F.slot_list_append PySem.F.type_list_append mt_append (pe_var hN hv hd hcd) (pa_cons (pu_fz he) pa_nil hs) hbase hfew hline hs hpl) hsw) fun D σ H ⟨ρ, T, B, st, q⟩ => by
    unfold sApp appO at q
    split at q
    · rename_i xs h
      obtain ⟨v, e1, r⟩ := st.v.at_ i _ h
      obtain ⟨a1, vs, rfl, h1, h2, h3⟩ := id r
      refine ⟨_, e1, .inl ⟨rfl, vs, SqL.of h2⟩, ρ, T, st.ex, st.v, (PostS.onR st q).mono fun u H1 ⟨d, T1, _, gr, rp, q1⟩ => ?_⟩
      cases d with
      | p y =>
        have q1 : PostS G W T1 B (if xs.length < 16777216 then .nx (ρ.set i (some (.hl .own (xs ++ [y])))) else .bad) D := q1
        split at q1
        · rename_i hl
          have st1 := st.grow gr
          have h2' := gr.h _ _ h2
          have hm : (SP.D.hl .own xs).mode ≠ .ro := fun z => nomatch (show M.own = M.ro from z)
          have k := st1.mut (a := a1) (o := .lst (vs ++ [u])) (d1 := .hl .own (xs ++ [y])) h e1 hm rfl (fun z => nomatch (show M.own = M.ro from z)) ⟨a1, vs ++ [u], rfl, gr.n _ _ h2 h1, upd_same, (RpL.mono gr.t h3).append (.cons rp.1 .nil)⟩ fun _ f => f
          exact ⟨a1, vs, u, rfl, rfl, h2', by rw [big, h3.length]; exact hl, q1 σ T1 _ ⟨Ex.refl T1, k.1.ex, k.2, fun _ _ _ z => z⟩ k.1⟩
        · exact q1.elim
      | hl m x => exact q1.elim
      | hd m x => exact q1.elim
      | ho m x => exact q1.elim
      | gh m x ps => exact q1.elim
      | hos m x => exact q1.elim
    · exact q.elim
end
end SP
/-! SP9: x[i] = e of a list, sorted, in. -/
namespace SP
open PySem PySem.Spec PyProof.Rows L2

/-! ### sorted -/
def sortP (xs : List P) : List P := xs.mergeSort (PySem.W.dataLe false P.py)
def isTupN : PyData → Bool
  | .tuple (_ :: _) => true
  | _ => false
def isScal : PyData → Bool
  | .int _ => true
  | .str _ => true
  | .bool _ => true
  | _ => false
/-- what sorted can compare -/
def sortOk (xs : List P) : Bool := (xs.all fun a => xs.all fun b => PySem.W.alike a.py b.py) && ((xs.all fun a => isTupN a.py) || xs.all fun a => isScal a.py) && xs.all fun a => decide (a.py.depth ≤ 32)
def gSortL : Option (List P) → R D
  | some xs => if sortOk xs = true then .ok (.hl .new (sortP xs)) else .bad
  | none => .bad
def gSorted : List D → R D
  | [d] => gSortL d.ls
  | _ => .bad
@[simp] theorem gSorted_one (d : D) : gSorted [d] = gSortL d.ls := rfl
@[simp] theorem gSortL_some (xs : List P) : gSortL (some xs) = if sortOk xs = true then .ok (.hl .new (sortP xs)) else .bad := rfl
def rSortA (G : Gx) : List V → Hp → VK → Prop := fun vs H Q => ∃ (a : Addr) (xs : List V) (T : Hp) (bs : List P), vs = [V.ref a] ∧ SqL G.K H a xs ∧ Ex T H ∧ RpL G T xs bs ∧ sortOk bs = true ∧
  ∀ ys p, RpL G T ys (sortP bs) → H p = none → Q (.ref p) (upd H p (.lst ys))
theorem each_vals {G : Gx} {T : Hp} : ∀ {xs : List V} {us : List Value} {bs : List P}, Vals xs us → RpL G T xs bs → PySem.W.EachIs (fun u b => ∃ x, RelV x u ∧ Rp G T x b) us bs
  | [], _, [], .nil, .nil => .nil
  | _ :: _, _ :: _, _ :: _, .cons h1 t1, .cons h2 t2 => .cons ⟨_, h1, h2⟩ (each_vals t1 t2)
theorem vals_each {G : Gx} {T : Hp} : ∀ {us : List Value} {bs : List P}, PySem.W.EachIs (fun u b => ∃ x, RelV x u ∧ Rp G T x b) us bs → ∃ xs, Vals xs us ∧ RpL G T xs bs
  | [], [], .nil => ⟨[], .nil, .nil⟩
  | _ :: _, _ :: _, .cons ⟨x, h1, h2⟩ t => by
    obtain ⟨xs, k1, k2⟩ := vals_each t
    exact ⟨x :: xs, .cons h1 k1, .cons h2 k2⟩
theorem sorted_any {X : Cx} {G : Gx} (hK : X.K = G.K) (hu : X.A.units + 64 < cLine) : CallR X (.builtin "sorted") (rSortA G) := by
  intro pins s σ H vs us Q I r h
  obtain ⟨a, xs, T, bs, rfl, hs, ex, rp, ok, q⟩ := h
  rw [← hK] at hs
  obtain ⟨its, rv, hl, hz⟩ := I.list hs
  rw [Vals.ref1 r]
  unfold sortOk at ok
  rw [Bool.and_eq_true, Bool.and_eq_true] at ok
  obtain ⟨⟨k1, k2⟩, k3⟩ := ok
  have e := each_vals rv rp
  have er : PySem.W.EachIs (fun u b => ∃ as, Reads s.heap u (P.py b) as) its bs := e.mono fun u b h => by
    obtain ⟨x, h1, h2⟩ := h
    exact Dp.reads I b.py x u (by rw [hK]; exact Rp.dp ex h2) h1
  refine PySem.W.sorted_data (enc := P.py) hl.isList e er ?_ ?_ ?_ (fun b hb => ?_) fun out ho eo => ?_
  · intro d hd d' hd'
    obtain ⟨b, hb, rfl⟩ := List.mem_map.mp hd
    obtain ⟨b', hb', rfl⟩ := List.mem_map.mp hd'
    exact List.all_eq_true.mp (List.all_eq_true.mp k1 b hb) b' hb'
  · rcases Bool.or_eq_true _ _ ▸ k2 with k2 | k2
    · refine .inl fun d hd => ?_
      obtain ⟨b, hb, rfl⟩ := List.mem_map.mp hd
      have z := List.all_eq_true.mp k2 b hb
      unfold isTupN at z
      split at z
      · rename_i x r hx; exact ⟨x, r, hx⟩
      · cases z
    · refine .inr fun d hd => ?_
      obtain ⟨b, hb, rfl⟩ := List.mem_map.mp hd
      have z := List.all_eq_true.mp k2 b hb
      constructor
      · intro w; rw [w] at z; cases z
      · intro ys w; rw [w] at z; cases z
  · rw [← rp.length]; exact hz
  · have z := of_decide_eq_true (List.all_eq_true.mp k3 b hb)
    omega
  · obtain ⟨ys, v1, v2⟩ := vals_each eo
    obtain ⟨ep, he'⟩ := PyProof.Rows.sortedAll_at s.heap its out.toArray
    have hlen : ys.length ≤ sizeLine := by
      rw [v2.length, List.length_mergeSort, ← rp.length]
      exact hz
    exact ⟨.ref _, upd H (s.heap.objs.size + 1) (.lst ys), I.laid (t' := s.toks) (fun _ _ => PyProof.Rows.sortedAll_old) (Nat.le_succ _) ⟨hlen, out, ep, v1, he'⟩, rfl, q ys _ v2 (I.hok.fresh (Nat.le_succ _))⟩
theorem okSorted {G : Gx} : CallOk G (rSortA G) gSorted := fun W σ T H vs ds Q ex r q => by
  match vs, ds, r, q with
  | [v], [d], ⟨rv, _⟩, q =>
    have q : PostE G W σ T H (gSortL d.ls) Q := q
    cases h : d.ls with
    | none => rw [h] at q; exact q.elim
    | some xs =>
      rw [h] at q
      have q : PostE G W σ T H (if sortOk xs = true then .ok (.hl .new (sortP xs)) else .bad) Q := q
      split at q
      · rename_i ok
        obtain ⟨a, us, rfl, h1, h2⟩ := rls rv h ex
        exact ⟨a, us, T, xs, rfl, SqL.of h1, ex, h2, ok, fun ys p k => post_new ex k q p⟩
      · exact q.elim
  | [], [], _, q => exact q.elim
  | [], _ :: _, r, _ => exact r.elim
  | _ :: _ :: _, [], r, _ => exact r.elim
  | _ :: _ :: _, [_], r, _ => exact r.2.elim
  | _ :: _ :: _, _ :: _ :: _, _, q => exact q.elim
  | [_], [], r, _ => exact r.elim
  | [_], _ :: _ :: _, r, _ => exact r.2.elim
section
variable {X : Cx} {G : Gx} {W : WX} {e a b : Expr} {es : List Expr} {f fa fb : Rho → R D} {fs : Rho → R (List D)} {pos p : Pos}
theorem p_sorted (hu : X.A.units + 64 < cLine) (ha : PA X (e :: es) (tPuA G W fs)) (hK : X.K = G.K := by rfl) (hm : X.mg "sorted" = none) (hg : Gl X "sorted" := by rfl) : (he : starEach (e :: es) X.env = (false, eval e X.env) :: starEach es X.env := by rfl) → (hpl : (backTo pos (starEach es X.env)).any (·.1) = false := by rfl) → PE X (.Call (.Name "sorted" p) (e :: es) [] pos) (tPu G W (fA gSorted fs)) :=
  fun he hpl => p_cb (sorted_any hK hu) okSorted hm (by decide +kernel) ha hg (by decide) (by decide) he hpl

/-! ### in a list -/
def strsOf : List P → Option (List Str)
  | [] => some []
  | .str s :: r => (strsOf r).map (s :: ·)
  | _ :: _ => none
@[simp] theorem strs_map : ∀ ns : List Str, strsOf (ns.map P.str) = some ns
  | [] => rfl
  | n :: r => by rw [List.map_cons]; unfold strsOf; rw [strs_map r]; rfl
def cLIn : D → D → Option Bool
  | .p (.int i), d => (d.ls.bind intsOf).map fun ns => decide (i ∈ ns)
  | .p (.str i), d => (d.ls.bind strsOf).map fun ns => decide (i ∈ ns)
  | _, _ => none
@[simp] theorem cLIn_int (i : Int) (d : D) : cLIn (.p (.int i)) d = (d.ls.bind intsOf).map fun ns => decide (i ∈ ns) := rfl
@[simp] theorem cLIn_str (i : Str) (d : D) : cLIn (.p (.str i)) d = (d.ls.bind strsOf).map fun ns => decide (i ∈ ns) := rfl
def cLNotIn (i d : D) : Option Bool := (cLIn i d).map not
@[simp] theorem cLNotIn_eq (i d : D) : cLNotIn i d = (cLIn i d).map not := rfl
theorem rp_strs {G : Gx} {T : Hp} : ∀ {vs : List V} {xs : List P} {ss : List Str}, RpL G T vs xs → strsOf xs = some ss → vs = ss.map V.str
  | _, _, _, .nil, h => by cases h; rfl
  | _, x :: xs, ss, .cons r t, h => by
    cases x with
    | str s =>
      obtain ⟨k, h1, rfl⟩ := Option.map_eq_some_iff.mp (show (strsOf xs).map (s :: ·) = some ss from h)
      cases r
      rw [rp_strs t h1]; rfl
    | _ => cases h
theorem rp_ints {G : Gx} {T : Hp} : ∀ {vs : List V} {xs : List P} {ss : List Int}, RpL G T vs xs → intsOf xs = some ss → vs = ss.map V.int
  | _, _, _, .nil, h => by cases h; rfl
  | _, x :: xs, ss, .cons r t, h => by
    cases x with
    | int s =>
      obtain ⟨k, h1, rfl⟩ := Option.map_eq_some_iff.mp (show (intsOf xs).map (s :: ·) = some ss from h)
      cases r
      rw [rp_ints t h1]; rfl
    | _ => cases h
theorem inV_int (i : Int) : ∀ ns : List Int, inV (.int i) (ns.map V.int) = decide (i ∈ ns)
  | [] => rfl
  | n :: r => by
    have e := inV_int i r
    unfold inV at e ⊢
    rw [List.map_cons, List.any_cons, e]
    by_cases h : n = i
    · subst h; simp [eqV]
    · have h' : i ≠ n := fun z => h z.symm
      simp [eqV, h, h']
theorem inV_str (i : Str) : ∀ ns : List Str, inV (.str i) (ns.map V.str) = decide (i ∈ ns)
  | [] => rfl
  | n :: r => by
    have e := inV_str i r
    unfold inV at e ⊢
    rw [List.map_cons, List.any_cons, e]
    by_cases h : n = i
    · subst h; simp [eqV]
    · have h' : i ≠ n := fun z => h z.symm
      simp [eqV, h, h']
theorem flat_ints (ns : List Int) : (ns.map V.int).all flatV = true := by rw [List.all_map]; exact List.all_eq_true.mpr fun _ _ => rfl
theorem flat_strs (ns : List Str) : (ns.map V.str).all flatV = true := by rw [List.all_map]; exact List.all_eq_true.mpr fun _ _ => rfl
theorem okLIn {G : Gx} {neg : Bool} : CmpOk G (rIn G.K neg) (fun d e => (cLIn d e).map fun b => if neg then !b else b) := fun T H x y d e b Q ex rx ry h q => by
  obtain ⟨k, hk, rfl⟩ := Option.map_eq_some_iff.mp h
  cases d with
  | p z =>
    cases z with
    | int i =>
      obtain ⟨ns, h1, rfl⟩ := Option.map_eq_some_iff.mp (show (e.ls.bind intsOf).map (fun ns => decide (i ∈ ns)) = some k from hk)
      obtain ⟨xs, h2, h3⟩ := Option.bind_eq_some_iff.mp h1
      obtain ⟨a, vs, rfl, h4, h5⟩ := rls ry h2 ex
      cases rint rx
      cases rp_ints h5 h3
      refine ⟨a, _, rfl, .inl (SqL.of h4), rfl, flat_ints ns, ?_⟩
      rw [inV_int]; exact q
    | str i =>
      obtain ⟨ns, h1, rfl⟩ := Option.map_eq_some_iff.mp (show (e.ls.bind strsOf).map (fun ns => decide (i ∈ ns)) = some k from hk)
      obtain ⟨xs, h2, h3⟩ := Option.bind_eq_some_iff.mp h1
      obtain ⟨a, vs, rfl, h4, h5⟩ := rls ry h2 ex
      cases rstr rx
      cases rp_strs h5 h3
      refine ⟨a, _, rfl, .inl (SqL.of h4), rfl, flat_strs ns, ?_⟩
      rw [inV_str]; exact q
    | _ => cases hk
  | _ => cases hk
theorem okIn {G : Gx} : CmpOk G (rIn G.K false) cLIn := fun T H x y d e b Q ex rx ry h q => okLIn (neg := false) T H x y d e b Q ex rx ry (by show (cLIn d e).map _ = _; rw [h]; rfl) q
theorem okNIn {G : Gx} : CmpOk G (rIn G.K true) cLNotIn := fun T H x y d e b Q ex rx ry h q => okLIn (neg := true) T H x y d e b Q ex rx ry (by
  unfold cLNotIn at h
  rw [← h]; rfl) q
section
variable (ha : PE X a (tPu G W fa)) (hb : PE X b (tPu G W fb)) (hK : X.K = G.K := by rfl)
include ha hb hK
theorem p_lin (hn : behindInMarks .In b = false := by rfl) : PE X (.Compare a [.In] [b] pos) (tPu G W (cV cLIn fa fb)) := pe_c op_in_seq (by rw [hK]; exact okIn) ha hb hn
theorem q_lin (hn : behindInMarks .In b = false := by rfl) : PT X (.Compare a [.In] [b] pos) (tPuT G W (cT cLIn fa fb)) := pt_c op_in_seq (by rw [hK]; exact okIn) ha hb hn
theorem p_lnin (hn : behindInMarks .NotIn b = false := by rfl) : PE X (.Compare a [.NotIn] [b] pos) (tPu G W (cV cLNotIn fa fb)) := pe_c op_notIn_seq (by rw [hK]; exact okNIn) ha hb hn
theorem q_lnin (hn : behindInMarks .NotIn b = false := by rfl) : PT X (.Compare a [.NotIn] [b] pos) (tPuT G W (cT cLNotIn fa fb)) := pt_c op_notIn_seq (by rw [hK]; exact okNIn) ha hb hn
end

/-! ### xs[i] = e, xs one's own -/
def lsetK (i : Nat) (ρ : Rho) (xs : List P) (k v : D) : Fl := match k, v with
  | .p (.int j), .p y => match ixN xs.length j with
    | some n => .nx (ρ.set i (some (.hl .own (xs.set n y))))
    | none => .bad
  | _, _ => .bad
def lsetO (i : Nat) (fk : Rho → R D) (ρ : Rho) (v : D) : Option (Option D) → Fl
  | some (some (.hl .own xs)) => onR (fz fk ρ) ρ fun k => lsetK i ρ xs k v
  | _ => .bad
@[simp] theorem lsetO_own (i : Nat) (fk : Rho → R D) (ρ : Rho) (v : D) (xs : List P) : lsetO i fk ρ v (some (some (.hl .own xs))) = onR (fz fk ρ) ρ fun k => lsetK i ρ xs k v := rfl
@[simp] def sLSet (i : Nat) (fk fv : Rho → R D) : Rho → Fl := fun ρ => onR (fz fv ρ) ρ fun v => lsetO i fk ρ v ρ[i]?
theorem s_lset {ev ek : Expr} {fk fv : Rho → R D} (i : Nat) {x : Str} {pn apos : Pos} (hk : PE X ek (tPu G W fk)) (hv : PE X ev (tPu G W fv)) (hN : X.N[i]? = some x := by rfl) (hvi : Vis X.env.scope x := by first | exact Or.inl rfl | exact Or.inr (Or.inl rfl) | exact Or.inr (Or.inr rfl)) (hd : (x == ("__debug__" : Str)) = false := by decide)
    (hcd : (x == ("__classdict__" : Str)) = false := by decide) : (ht : ∀ v, assign (.Subscript (.Name x pn) ek apos) X.env v = (do
      let ov ← holding [v] (eval (.Name x pn) X.env)
      let iv ← holding [v, ov] (eval ek X.env)
      standAt apos
      holding [v, ov, iv] (setItem ov iv v)
      release [v, ov, iv] []) := by intro _; rfl) → (hs : swapsWithSole [.Subscript (.Name x pn) ek apos] ev pos.line X.env = pure false := by rfl) → (hw : swappedStores [.Subscript (.Name x pn) ek apos] ev X.env = pure none := by rfl) →
    (h1 : (assignEach [.Subscript (.Name x pn) ek apos] X.env).map (·.2) = [assign (.Subscript (.Name x pn) ek apos) X.env] := by rfl) → PS X (.Assign [.Subscript (.Name x pn) ek apos] ev pos) (tPs G W (sLSet i fk fv)) := fun ht hs hw h1 =>
  ps_imp (ps_asg (pu_fz hv) (pg_sub (pe_var hN hvi hd hcd) (pu_fz hk) set_list ht) hs hw h1) fun D σ H ⟨ρ, T, B, st, q⟩ =>
    ⟨ρ, T, st.ex, st.v, (PostS.onR st q).mono fun v H1 ⟨d, T1, _, gr, rp, q1⟩ => by
      have st1 := st.grow gr
      unfold lsetO at q1
      split at q1
      · rename_i xs h
        obtain ⟨u, e1, r⟩ := st1.v.at_ i _ h
        refine ⟨u, e1, ρ, T1, st1.ex, st1.v, (PostS.onR st1 q1).mono fun kv H2 ⟨k, T2, _, gr2, rk, q2⟩ => ?_⟩
        have st2 := st1.grow gr2
        have r2 := r.mono gr2
        have key : ∃ (j : Int) (y : SP.P) (n : Nat), k = .p (.int j) ∧ d = .p y ∧ ixN xs.length j = some n ∧ PostS G W T2 B (.nx (ρ.set i (some (.hl .own (xs.set n y))))) D := by
          unfold lsetK at q2
          split at q2
          · split at q2
            · exact ⟨_, _, _, rfl, rfl, by assumption, q2⟩
            · exact q2.elim
          · exact q2.elim
        obtain ⟨j, y, n, rfl, rfl, hn, q3⟩ := key
        cases rint rk.1
        obtain ⟨a1, vs, rfl, h1, h2, h3⟩ := id r2
        have rv : Rp G T2 v y := Rp.mono gr2.t rp.1
        have hm : (SP.D.hl .own xs).mode ≠ .ro := fun z => nomatch (show M.own = M.ro from z)
        have k := st2.mut (a := a1) (o := .lst (vs.set n v)) (d1 := .hl .own (xs.set n y)) h e1 hm rfl (fun z => nomatch (show M.own = M.ro from z)) ⟨a1, vs.set n v, rfl, h1, upd_same, h3.set rv n⟩ fun _ f => f
        exact ⟨a1, vs, j, n, rfl, rfl, h2, by rw [h3.length]; exact hn, q3 σ T2 _ ⟨Ex.refl T2, k.1.ex, k.2, fun _ _ _ z => z⟩ k.1⟩
      · exact q1.elim⟩
end
end SP
/-! SP10: changes of the heap that leave handles alone; data with fresh lists. -/
namespace SP
open PySem PySem.Spec PyProof.Rows L2

section
variable {G : Gx} {ρ : Rho} {σ : L2.St} {T B H T' H' : Hp}
/-- a slot is forgotten -/
theorem StR.drop (st : StR G ρ σ T B H) (i : Nat) : StR G (ρ.set i none) σ T B H := by
  have back : ∀ (j : Nat) (d : D), (ρ.set i none)[j]? = some (some d) → ρ[j]? = some (some d) := fun j d h => by
    rcases set_cases h with ⟨_, z⟩ | ⟨_, h⟩
    · cases z
    · exact h
  exact ⟨⟨by rw [List.length_set]; exact st.v.len, fun j d h => st.v.at_ j d (back j d h)⟩, st.ex, st.eb, fun j d u a h => st.own j d u a (back j d h), fun j d u a h => st.ro j d u a (back j d h),
    fun j k d e u w a n h1 h2 h3 => st.sep j k d e u w a n (back j d h1) h2 (back k e h3)⟩
/-- the heap changes at places that no handle has -/
theorem Rep.frame {v : V} {d : D} (r : Rep G T H v d) (tt : Ex T T') (ts : Ex T' H') (k : ∀ b o, Foot G H v d b → H b = some o → H' b = some o ∧ T' b = none) : Rep G T' H' v d := by
  cases d with
  | p x => exact Rp.mono tt r
  | hl m xs =>
    obtain ⟨a, vs, rfl, h1, h2, h3⟩ := r
    have q := k a _ rfl h2
    exact ⟨a, vs, rfl, q.2, q.1, RpL.mono tt h3⟩
  | hd m xs =>
    obtain ⟨a, us, rfl, h1, h2, h3, h4⟩ := r
    rcases h2 with h2 | ⟨o, h2⟩
    · have q := k a _ rfl h2
      exact ⟨a, us, rfl, q.2, .inl q.1, h3, RpL.mono tt h4⟩
    · have q := k a _ rfl h2
      exact ⟨a, us, rfl, q.2, .inr ⟨o, q.1⟩, h3, RpL.mono tt h4⟩
  | ho m S => exact ⟨r.1.keep tt k, r.2⟩
  | gh m x ps =>
    obtain ⟨T1, e1, h1, h2, h3⟩ := r
    refine ⟨T1, fun b o e => ?_, h1, fun b o e => (h2 b o e).imp (tt b o) id, fun π hp => ?_⟩
    · rcases h2 b o e with z | ⟨π, hp, z⟩
      · exact ts b o (tt b o z)
      · exact (k b o ⟨π, hp, cellAt_mono e1 z⟩ (e1 b o e)).1
    · obtain ⟨a, vs, q1, q2, q3, q4⟩ := h3 π hp
      exact ⟨a, vs, q1, (k a _ ⟨π, hp, cellAt_mono e1 q1⟩ (e1 _ _ q3)).2, q3, q4⟩
  | hos m Ss =>
    obtain ⟨b, vs, rfl, h1, h2, h3, h4, h5⟩ := r
    have fb : ∀ (i : Nat) (u : V) (c : Addr), vs[i]? = some u → FootS G H' u c → FootS G H u c := fun i u c hu f => by
      have hl : i < Ss.length := by rw [← h3]; exact (List.getElem?_eq_some_iff.mp hu).1
      exact FootS.back (h4 i u _ hu (List.getElem?_eq_getElem hl)).1 (fun p o z q => (k p o (.inr ⟨b, vs, u, rfl, h2, List.mem_of_getElem? hu, .inl z⟩) q).1) f
    have q := k b _ (.inl rfl) h2
    exact ⟨b, vs, rfl, q.2, q.1, h3, fun i u S hu hS => ⟨(h4 i u S hu hS).1.keep tt fun c o f e => k c o (.inr ⟨b, vs, u, rfl, h2, List.mem_of_getElem? hu, f⟩) e, fun f => (h4 i u S hu hS).2 (fb i u b hu f)⟩,
      fun i j u w c n hu hw f1 f2 => h5 i j u w c n hu hw (fb i u c hu f1) (fb j w c hw f2)⟩
theorem Foot.frame {v : V} {d : D} {a : Addr} (r : Rep G T H v d) (ex : Ex T H) (tt : Ex T T') (ts : Ex T' H') (k : ∀ b o, Foot G H v d b → H b = some o → H' b = some o) (f : Foot G H' v d a) : Foot G H v d a := by
  cases d with
  | p x => exact f
  | hl m xs => exact f
  | hd m xs => exact f
  | ho m S => exact FootS.back r.1 (fun p o z q => k p o (.inl z) q) f
  | gh m x ps =>
    obtain ⟨π, hp, f⟩ := f
    obtain ⟨T1, e1, h1, h2, h3⟩ := r
    obtain ⟨b, vs, q1, q2, q3, q4⟩ := h3 π hp
    have e2 : Ex T1 H' := fun b o e => by
      rcases h2 b o e with z | ⟨π, hp, z⟩
      · exact ts b o (tt b o z)
      · exact k b o ⟨π, hp, cellAt_mono e1 z⟩ (e1 b o e)
    rw [cellAt_mono e2 q1] at f
    cases f
    exact ⟨π, hp, cellAt_mono e1 q1⟩
  | hos m Ss =>
    obtain ⟨b, vs, rfl, h1, h2, h3, h4, h5⟩ := r
    rcases f with f | ⟨p, ws, u, f1, f2, f3, f4⟩
    · exact .inl f
    · cases f1
      rw [k b _ (.inl rfl) h2] at f2
      cases f2
      obtain ⟨i, hi⟩ := List.getElem?_of_mem f3
      have hl : i < Ss.length := by rw [← h3]; exact (List.getElem?_eq_some_iff.mp hi).1
      exact .inr ⟨b, vs, u, rfl, h2, f3, FootS.back (h4 i u _ hi (List.getElem?_eq_getElem hl)).1 (fun p o z q => k p o (.inr ⟨b, vs, u, rfl, h2, f3, .inl z⟩) q) f4⟩
theorem StR.frame (st : StR G ρ σ T B H) (Fo : Addr → Prop) (tt : Ex T T') (ts : Ex T' H') (k : ∀ b o, H b = some o → ¬ Fo b → H' b = some o) (n : ∀ b o, H b = some o → ¬ Fo b → T b = none → T' b = none) (hB : Ex B H')
    (own : ∀ (j : Nat) (d : D) (u : V) (b : Addr), ρ[j]? = some (some d) → σ[j]? = some (some u) → Foot G H u d b → ¬ Fo b) : StR G ρ σ T' B H' := by
  have fb : ∀ (j : Nat) (d : D) (u : V) (b : Addr), ρ[j]? = some (some d) → σ[j]? = some (some u) → Foot G H' u d b → Foot G H u d b := fun j d u b h e f =>
    Foot.frame (st.v.rep h e) st.ex tt ts (fun c o f e' => k c o e' (own j d u c h e f)) f
  refine ⟨⟨st.v.len, fun j d h => ?_⟩, ts, hB, fun j d u a h e m f => st.own j d u a h e m (fb j d u a h e f), fun j d u a h e m f => st.ro j d u a h e m (fb j d u a h e f),
    fun i j d e u w a n h1 h2 h3 h4 m1 m2 f1 f2 => st.sep i j d e u w a n h1 h2 h3 h4 m1 m2 (fb i d u a h1 h2 f1) (fb j e w a h3 h4 f2)⟩
  obtain ⟨u, e, r⟩ := st.v.at_ j d h
  exact ⟨u, e, r.frame tt ts fun b o f z => ⟨k b o z (own j d u b h e f), n b o z (own j d u b h e f) (foot_there r f).1⟩⟩
/-- the cells of a slot of ours are nobody else's -/
theorem StR.alone (st : StR G ρ σ T B H) {i : Nat} {d0 : D} {v : V} (h0 : ρ[i]? = some (some d0)) (e0 : σ[i]? = some (some v)) (m0 : d0.mode ≠ .ro) : ∀ (j : Nat) (d : D) (u : V) (b : Addr), (ρ.set i none)[j]? = some (some d) → σ[j]? = some (some u) → Foot G H u d b → ¬ Foot G H v d0 b := fun j d u b h e f f0 => by
  rcases set_cases h with ⟨_, z⟩ | ⟨n, h⟩
  · cases z
  · by_cases m : d.mode = .ro
    · obtain ⟨o, z⟩ := st.ro j d u b h e m f
      rw [st.own i d0 v b h0 e0 m0 f0] at z; cases z
    · exact st.sep i j d0 d v u b n h0 e0 h e m0 m f0 f
/-- a cell of a slot of ours is written, the slot is done with -/
theorem StR.kill {i : Nat} {d0 : D} {v : V} {a : Addr} {o : HO} (st : StR G ρ σ T B H) (h0 : ρ[i]? = some (some d0)) (e0 : σ[i]? = some (some v)) (m0 : d0.mode ≠ .ro) (f0 : Foot G H v d0 a) : StR G (ρ.set i none) σ T B (upd H a o) := by
  have hT : T a = none := (foot_there (st.v.rep h0 e0) f0).1
  have hB : B a = none := st.own i d0 v a h0 e0 m0 f0
  exact (st.drop i).frame (fun b => b = a) (Ex.refl T) (st.ex.upd hT) (fun b u e n => by rw [upd_ne n]; exact e) (fun _ _ _ _ z => z) (st.eb.upd hB) fun j d u b h e f z => st.alone h0 e0 m0 j d u b h e f (z ▸ f0)
end

/-! ### all is frozen while a test is asked -/
def D.vw : D → Option D
  | .p x => some (.p x)
  | .hl _ xs => some (.p (.lst xs))
  | .gh _ (some x) _ => some (.p x)
  | _ => none
@[simp] theorem vw_p (x : P) : D.vw (.p x) = some (.p x) := rfl
@[simp] theorem vw_hl (m : M) (x : List P) : D.vw (.hl m x) = some (.p (.lst x)) := rfl
@[simp] theorem vw_gh (m : M) (x : P) (ps : PL) : D.vw (.gh m (some x) ps) = some (.p x) := rfl
def vwO : Option D → Option D
  | some d => d.vw
  | none => none
@[simp] theorem vwO_some (d : D) : vwO (some d) = d.vw := rfl
@[simp] theorem vwO_none : vwO none = none := rfl
def frAll (ρ : Rho) : Rho := ρ.map vwO
@[simp] theorem frAll_nil : frAll [] = [] := rfl
@[simp] theorem frAll_cons (o : Option D) (ρ : Rho) : frAll (o :: ρ) = vwO o :: frAll ρ := rfl
theorem StV.fr {G : Gx} {ρ : Rho} {σ : L2.St} {T H : Hp} (ex : Ex T H) (st : StV G ρ σ T H) : StV G (frAll ρ) σ H H := by
  refine ⟨by unfold frAll; rw [List.length_map]; exact st.len, fun i d h => ?_⟩
  unfold frAll at h
  rw [List.getElem?_map] at h
  cases e : ρ[i]? with
  | none => rw [e] at h; cases h
  | some o =>
    rw [e] at h
    cases o with
    | none => cases h
    | some d0 =>
      obtain ⟨v, e1, r⟩ := st.at_ i d0 e
      refine ⟨v, e1, ?_⟩
      cases d0 with
      | p x => cases h; exact Rp.mono ex r
      | hl m xs =>
        cases h
        obtain ⟨a, vs, rfl, _, h2, h3⟩ := r
        exact .lst h2 (RpL.mono ex h3)
      | gh m x ps =>
        cases x with
        | none => cases h
        | some x =>
          cases h
          obtain ⟨T1, q1, q2, _⟩ := r
          exact Rp.mono q1 (q2 x rfl)
      | hd m x => cases h
      | ho m x => cases h
      | hos m x => cases h
@[simp] def tFr (f : Rho → R Bool) : Rho → R Bool := fun ρ => f (frAll ρ)
section
variable {X : Cx} {G : Gx} {W : WX} {e a b c : Expr} {es : List Expr} {f fa fb : Rho → R D} {fs : Rho → R (List D)} {pos p : Pos} {ca : Rho → R Bool}
theorem q_fr (h : PT X c (tPuT G W ca)) : PT X c (tPuT G W (tFr ca)) := pt_imp h fun σ H Q ⟨ρ, T, ex, st, q⟩ => ⟨frAll ρ, H, Ex.refl H, st.fr ex, by
  have q : PostT G W σ T H (ca (frAll ρ)) Q := q
  cases z : ca (frAll ρ) with
  | ok b => rw [z] at q; exact fun T' H' g => q T H' (Gr.grow ex g.h)
  | ex c => rw [z] at q; exact q
  | bad => rw [z] at q; exact q⟩

/-! ### return (e, x), x a list of ours -/
def g1K (ρ : Rho) (d : D) : Option (Option D) → Fl
  | some (some (.hl .own xs)) => match d with
    | .p x => if xs.length ≤ 16000000 then .rt (.gh .new (some (.tup [x, .lst xs])) ⟨[[1]], 16000000⟩) ρ else .bad
    | _ => .bad
  | _ => .bad
@[simp] theorem g1K_ok (ρ : Rho) (x : P) (xs : List P) : g1K ρ (.p x) (some (some (.hl .own xs))) = if xs.length ≤ 16000000 then .rt (.gh .new (some (.tup [x, .lst xs])) ⟨[[1]], 16000000⟩) ρ else .bad := rfl
@[simp] def sRetG1 (f : Rho → R D) (i : Nat) : Rho → Fl := fun ρ => onR (fz f ρ) ρ fun d => g1K ρ d ρ[i]?
theorem vis_or {sc : Scope} {x : Str} (h : Vis sc x) : Vis sc x := h
/-- two values of which the second is a list of ours: their tuple -/
theorem tup_gh {T H : Hp} {v : V} {a p : Addr} {us : List V} {x : P} {xs : List P} (ex : Ex T H) (rv : Rp G T v x) (ra : H a = some (.lst us)) (na : T a = none) (rl : RpL G T us xs) (hl : xs.length ≤ 16000000) (hp : H p = none) :
    Rep G (upd T p (.tup [v, .ref a])) (upd H p (.tup [v, .ref a])) (.ref p) (.gh .new (some (.tup [x, .lst xs])) ⟨[[1]], 16000000⟩) := by
  have np : T p = none := ex.free hp
  have hne : a ≠ p := fun z => by rw [z, hp] at ra; cases ra
  have eT : Ex T (upd T p (.tup [v, .ref a])) := Ex.new np
  have e1 : Ex (upd T p (.tup [v, .ref a])) (upd (upd T p (.tup [v, .ref a])) a (.lst us)) := Ex.new (by rw [upd_ne hne]; exact na)
  refine ⟨upd (upd T p (.tup [v, .ref a])) a (.lst us), fun b o q => ?_, fun x0 hx => by cases hx; exact .tup (by rw [upd_ne hne.symm]; exact upd_same) (.cons (Rp.mono (eT.trans e1) rv) (.cons (.lst upd_same (RpL.mono (eT.trans e1) rl)) .nil)), fun b o q => ?_, fun π hπ => ?_⟩
  · by_cases hb : b = a
    · subst hb; rw [upd_same] at q; cases q; rw [upd_ne hne]; exact ra
    · rw [upd_ne hb] at q
      by_cases hb2 : b = p
      · subst hb2; rw [upd_same] at q ⊢; exact q
      · rw [upd_ne hb2] at q ⊢; exact ex b o q
  · by_cases hb : b = a
    · subst hb
      refine .inr ⟨[1], List.mem_singleton.mpr rfl, ?_⟩
      unfold cellAt
      rw [upd_ne hne.symm, upd_same]
      rfl
    · rw [upd_ne hb] at q; exact .inl q
  · cases List.mem_singleton.mp hπ
    refine ⟨a, us, ?_, by rw [upd_ne hne]; exact na, upd_same, by rw [rl.length]; exact hl⟩
    unfold cellAt
    rw [upd_ne hne.symm, upd_same]
    rfl
theorem s_retG1 (i : Nat) {x : Str} {pn pt : Pos} {x1} (he : PE X e (tPu G W f)) (hN : X.N[i]? = some x := by rfl) (hv : Vis X.env.scope x := by first | exact Or.inl rfl | exact Or.inr (Or.inl rfl) | exact Or.inr (Or.inr rfl)) (hd : (x == ("__debug__" : Str)) = false := by decide)
    (hcd : (x == ("__classdict__" : Str)) = false := by decide) : (h1 : starEach (e :: [.Name x pn]) X.env = (false, eval e X.env) :: starEach [.Name x pn] X.env := by rfl) → (h2 : starEach (.Name x pn :: []) X.env = (false, eval (.Name x pn) X.env) :: starEach [] X.env := by rfl) →
    PS X (.Return (some (.Tuple [e, .Name x pn] x1 pt)) pos) (tPs G W (sRetG1 f i)) := fun h1 h2 =>
  ps_imp (ps_ret (pe_tup (pa_cons (pu_fz he) (pa_cons (pe_var hN hv hd hcd) pa_nil h2) h1))) fun D σ H ⟨ρ, T, B, st, q⟩ => ⟨ρ, T, st.ex, st.v, (PostS.onR st q).mono fun v H1 ⟨d, T1, _, gr, rp, q1⟩ => by
    have key : ∃ (y : SP.P) (xs : List SP.P), d = .p y ∧ ρ[i]? = some (some (.hl .own xs)) ∧ xs.length ≤ 16000000 ∧ PostS G W T1 B (.rt (.gh .new (some (.tup [y, .lst xs])) ⟨[[1]], 16000000⟩) ρ) D := by
      unfold g1K at q1
      split at q1
      · split at q1
        · split at q1
          · exact ⟨_, _, rfl, by assumption, by assumption, q1⟩
          · exact q1.elim
        · exact q1.elim
      · exact q1.elim
    obtain ⟨y, xs, rfl, hρ, hxl, q2⟩ := key
    have st1 := st.grow gr
    obtain ⟨u, e1, r⟩ := st1.v.at_ i _ hρ
    obtain ⟨a, us, rfl, r1, r2, r3⟩ := id r
    refine ⟨.ref a, e1, (by rw [big]; show 2 ≤ 16777216; omega), fun p hp => ?_⟩
    have np : T1 p = none := st1.ex.free hp
    have nB : B p = none := st1.eb.free hp
    have hne : a ≠ p := fun z => by rw [z, hp] at r2; cases r2
    have g2 := Gr.add (o := .tup [v, .ref a]) st1.ex hp
    refine q2 (.ref p) σ _ _ (GrB.of st1.eb g2) (st1.grow g2) ⟨tup_gh st1.ex rp.1 r2 r1 r3 hxl hp, fun _ b fb => ?_⟩
    obtain ⟨π, hπ, fb⟩ := fb
    cases List.mem_singleton.mp hπ
    have : b = a := by
      unfold cellAt at fb
      rw [upd_same] at fb
      exact (Option.some.inj fb).symm
    subst this
    exact st1.own i _ _ b hρ e1 (fun z => nomatch (show M.own = M.ro from z)) rfl⟩

/-! ### return ((e, x), (e', x')) -/
theorem tup2_gh {T H : Hp} {v v' : V} {a c p1 p2 p3 : Addr} {us ws : List V} {y z : P} {xs ys : List P} (ex : Ex T H) (t1 : T p1 = some (.tup [v, .ref a])) (t2 : T p2 = some (.tup [v', .ref c])) (t3 : T p3 = some (.tup [.ref p1, .ref p2]))
    (na : T a = none) (ha : H a = some (.lst us)) (la : RpL G T us xs) (nc : T c = none) (hc : H c = some (.lst ws)) (lc : RpL G T ws ys) (rv : Rp G T v y) (rv' : Rp G T v' z) (hx : xs.length ≤ 16000000) (hy : ys.length ≤ 16000000) :
    Rep G T H (.ref p3) (.gh .new (some (.tup [.tup [y, .lst xs], .tup [z, .lst ys]])) ⟨[[0, 1], [1, 1]], 16000000⟩) ∧ ∀ b, Foot G H (.ref p3) (.gh .new (some (.tup [.tup [y, .lst xs], .tup [z, .lst ys]])) ⟨[[0, 1], [1, 1]], 16000000⟩) b → b = a ∨ b = c := by
  have ne : ∀ {q : Addr} {o : HO} {b : Addr}, T q = some o → T b = none → q ≠ b := fun h n z => by rw [z, n] at h; cases h
  let T1 : Hp := fun b => if b = a then some (.lst us) else if b = c then some (.lst ws) else T b
  have eT : Ex T T1 := fun b o q => by
    show (if b = a then _ else if b = c then _ else T b) = some o
    rw [if_neg (ne q na), if_neg (ne q nc)]
    exact q
  have hT1a : T1 a = some (.lst us) := if_pos rfl
  have hT1c : T1 c = some (.lst ws) := by
    show (if c = a then _ else if c = c then _ else T c) = _
    by_cases h : c = a
    · rw [if_pos h, ← ha, ← h, hc]
    · rw [if_neg h, if_pos rfl]
  have eH : Ex T1 H := fun b o q => by
    have q : (if b = a then some (.lst us) else if b = c then some (.lst ws) else T b) = some o := q
    by_cases h : b = a
    · rw [if_pos h] at q; rw [h, ha]; exact q
    · rw [if_neg h] at q
      by_cases h' : b = c
      · rw [if_pos h'] at q; rw [h', hc]; exact q
      · rw [if_neg h'] at q; exact ex b o q
  have c1 : cellAt T1 (.ref p3) [0, 1] = some a := by
    simp [cellAt, eT _ _ t3, eT _ _ t1]
  have c2 : cellAt T1 (.ref p3) [1, 1] = some c := by
    simp [cellAt, eT _ _ t3, eT _ _ t2]
  refine ⟨⟨T1, eH, fun x0 hx0 => by cases hx0; exact .tup (eT _ _ t3) (.cons (.tup (eT _ _ t1) (.cons (Rp.mono eT rv) (.cons (.lst hT1a (RpL.mono eT la)) .nil))) (.cons (.tup (eT _ _ t2) (.cons (Rp.mono eT rv') (.cons (.lst hT1c (RpL.mono eT lc)) .nil))) .nil)), fun b o q => ?_, fun π hπ => ?_⟩, fun b f => ?_⟩
  · have q : (if b = a then some (.lst us) else if b = c then some (.lst ws) else T b) = some o := q
    by_cases h : b = a
    · exact .inr ⟨_, List.mem_cons_self, by rw [h]; exact c1⟩
    · rw [if_neg h] at q
      by_cases h' : b = c
      · exact .inr ⟨_, List.mem_cons_of_mem _ List.mem_cons_self, by rw [h']; exact c2⟩
      · rw [if_neg h'] at q; exact .inl q
  · rcases List.mem_cons.mp hπ with rfl | hπ
    · exact ⟨a, us, c1, na, hT1a, by rw [la.length]; exact hx⟩
    · cases List.mem_singleton.mp hπ
      exact ⟨c, ws, c2, nc, hT1c, by rw [lc.length]; exact hy⟩
  · obtain ⟨π, hπ, f⟩ := f
    rcases List.mem_cons.mp hπ with rfl | hπ
    · rw [cellAt_mono eH c1] at f
      exact .inl (Option.some.inj f).symm
    · cases List.mem_singleton.mp hπ
      rw [cellAt_mono eH c2] at f
      exact .inr (Option.some.inj f).symm
def g2K (ρ : Rho) (y : P) (xs : List P) (d' : D) : Option (Option D) → Fl
  | some (some (.hl .own ys)) => match d' with
    | .p z => if xs.length ≤ 16000000 ∧ ys.length ≤ 16000000 then .rt (.gh .new (some (.tup [.tup [y, .lst xs], .tup [z, .lst ys]])) ⟨[[0, 1], [1, 1]], 16000000⟩) ρ else .bad
    | _ => .bad
  | _ => .bad
@[simp] theorem g2K_ok (ρ : Rho) (x y : P) (xs ys : List P) : g2K ρ x xs (.p y) (some (some (.hl .own ys))) = if xs.length ≤ 16000000 ∧ ys.length ≤ 16000000 then .rt (.gh .new (some (.tup [.tup [x, .lst xs], .tup [y, .lst ys]])) ⟨[[0, 1], [1, 1]], 16000000⟩) ρ else .bad := rfl
def g2H (ρ : Rho) (d : D) (f' : Rho → R D) (o2 : Option (Option D)) : Option (Option D) → Fl
  | some (some (.hl .own xs)) => match d with
    | .p y => onR (fz f' ρ) ρ fun d' => g2K ρ y xs d' o2
    | _ => .bad
  | _ => .bad
@[simp] theorem g2H_ok (ρ : Rho) (y : P) (f' : Rho → R D) (o2 : Option (Option D)) (xs : List P) : g2H ρ (.p y) f' o2 (some (some (.hl .own xs))) = onR (fz f' ρ) ρ fun d' => g2K ρ y xs d' o2 := rfl
@[simp] def sRetG2 (f : Rho → R D) (i : Nat) (f' : Rho → R D) (j : Nat) : Rho → Fl := fun ρ => onR (fz f ρ) ρ fun d => g2H ρ d f' ρ[j]? ρ[i]?
theorem s_retG2 {e' : Expr} {f' : Rho → R D} (i j : Nat) {x x' : Str} {pn pt pn' pt' ptt : Pos} {x1 x2 x3} (he : PE X e (tPu G W f)) (he' : PE X e' (tPu G W f')) (hN : X.N[i]? = some x := by rfl) (hN' : X.N[j]? = some x' := by rfl) (hv : Vis X.env.scope x := by first | exact Or.inl rfl | exact Or.inr (Or.inl rfl) | exact Or.inr (Or.inr rfl)) (hv' : Vis X.env.scope x' := by first | exact Or.inl rfl | exact Or.inr (Or.inl rfl) | exact Or.inr (Or.inr rfl))
    (hd : (x == ("__debug__" : Str)) = false := by decide) (hcd : (x == ("__classdict__" : Str)) = false := by decide) (hd' : (x' == ("__debug__" : Str)) = false := by decide) (hcd' : (x' == ("__classdict__" : Str)) = false := by decide) :
    (h1 : starEach (e :: [.Name x pn]) X.env = (false, eval e X.env) :: starEach [.Name x pn] X.env := by rfl) → (h2 : starEach (.Name x pn :: []) X.env = (false, eval (.Name x pn) X.env) :: starEach [] X.env := by rfl) →
    (h1' : starEach (e' :: [.Name x' pn']) X.env = (false, eval e' X.env) :: starEach [.Name x' pn'] X.env := by rfl) → (h2' : starEach (.Name x' pn' :: []) X.env = (false, eval (.Name x' pn') X.env) :: starEach [] X.env := by rfl) →
    (h3 : starEach (.Tuple [e, .Name x pn] x1 pt :: [.Tuple [e', .Name x' pn'] x2 pt']) X.env = (false, eval (.Tuple [e, .Name x pn] x1 pt) X.env) :: starEach [.Tuple [e', .Name x' pn'] x2 pt'] X.env := by rfl) →
    (h4 : starEach (.Tuple [e', .Name x' pn'] x2 pt' :: []) X.env = (false, eval (.Tuple [e', .Name x' pn'] x2 pt') X.env) :: starEach [] X.env := by rfl) →
    PS X (.Return (some (.Tuple [.Tuple [e, .Name x pn] x1 pt, .Tuple [e', .Name x' pn'] x2 pt'] x3 ptt)) pos) (tPs G W (sRetG2 f i f' j)) := fun h1 h2 h1' h2' h3 h4 =>
  ps_imp (ps_ret (pe_tup (pa_cons (pe_tup (pa_cons (pu_fz he) (pa_cons (pe_var hN hv hd hcd) pa_nil h2) h1)) (pa_cons (pe_tup (pa_cons (pu_fz he') (pa_cons (pe_var hN' hv' hd' hcd') pa_nil h2') h1')) pa_nil h4) h3))) fun D σ H ⟨ρ, T, B, st, q⟩ => ⟨ρ, T, st.ex, st.v, (PostS.onR st q).mono fun v H1 ⟨d, T1, _, gr, rp, q1⟩ => by
    have st1 := st.grow gr
    have key : ∃ (y : SP.P) (xs : List SP.P), d = .p y ∧ ρ[i]? = some (some (.hl .own xs)) ∧ PostS G W T1 B (onR (fz f' ρ) ρ fun d' => g2K ρ y xs d' ρ[j]?) D := by
      unfold g2H at q1
      split at q1
      · split at q1
        · exact ⟨_, _, rfl, by assumption, q1⟩
        · exact q1.elim
      · exact q1.elim
    obtain ⟨y, xs, rfl, hi, q2⟩ := key
    obtain ⟨u, ei, ri⟩ := st1.v.at_ i _ hi
    obtain ⟨a, us, rfl, ra1, ra2, ra3⟩ := ri
    refine ⟨.ref a, ei, (by rw [big]; show 2 ≤ 16777216; omega), fun p1 hp1 => ?_⟩
    have g1 := Gr.add (o := .tup [v, .ref a]) st1.ex hp1
    have st2 := st1.grow g1
    have q3 := PostS.go (GrB.of st1.eb g1) q2
    refine ⟨ρ, _, st2.ex, st2.v, (PostS.onR st2 q3).mono fun v' H2 ⟨d', T2, _, gr2, rp2, q4⟩ => ?_⟩
    have st3 := st2.grow gr2
    have key2 : ∃ (z : SP.P) (ys : List SP.P), d' = .p z ∧ ρ[j]? = some (some (.hl .own ys)) ∧ (xs.length ≤ 16000000 ∧ ys.length ≤ 16000000) ∧ PostS G W T2 B (.rt (.gh .new (some (.tup [.tup [y, .lst xs], .tup [z, .lst ys]])) ⟨[[0, 1], [1, 1]], 16000000⟩) ρ) D := by
      unfold g2K at q4
      split at q4
      · split at q4
        · split at q4
          · exact ⟨_, _, rfl, by assumption, by assumption, q4⟩
          · exact q4.elim
        · exact q4.elim
      · exact q4.elim
    obtain ⟨z, ys, rfl, hj, hxy, q5⟩ := key2
    obtain ⟨u, ej, rj⟩ := st3.v.at_ j _ hj
    obtain ⟨c, ws, rfl, rc1, rc2, rc3⟩ := rj
    refine ⟨.ref c, ej, (by rw [big]; show 2 ≤ 16777216; omega), fun p2 hp2 => ?_⟩
    have g2 := Gr.add (o := .tup [v', .ref c]) st3.ex hp2
    have st4 := st3.grow g2
    refine ⟨(by rw [big]; show 2 ≤ 16777216; omega), fun p3 hp3 => ?_⟩
    have g3 := Gr.add (o := .tup [.ref p1, .ref p2]) st4.ex hp3
    have st5 := st4.grow g3
    -- what stands where
    have own : (SP.D.hl .own xs).mode ≠ .ro := fun z => nomatch (show M.own = M.ro from z)
    have own' : (SP.D.hl .own ys).mode ≠ .ro := fun z => nomatch (show M.own = M.ro from z)
    have T3p1 : upd T2 p2 (.tup [v', .ref c]) p1 = some (.tup [v, .ref a]) := g2.t _ _ (gr2.t _ _ upd_same)
    have t1 : upd (upd T2 p2 (.tup [v', .ref c])) p3 (.tup [.ref p1, .ref p2]) p1 = some (.tup [v, .ref a]) := g3.t _ _ T3p1
    have t2 : upd (upd T2 p2 (.tup [v', .ref c])) p3 (.tup [.ref p1, .ref p2]) p2 = some (.tup [v', .ref c]) := g3.t _ _ upd_same
    have t3 : upd (upd T2 p2 (.tup [v', .ref c])) p3 (.tup [.ref p1, .ref p2]) p3 = some (.tup [.ref p1, .ref p2]) := upd_same
    -- both lists, at the end
    have fi := st5.v.rep hi ei
    have fj := st5.v.rep hj ej
    obtain ⟨a', us', ea, na, ha, la⟩ := fi
    obtain ⟨c', ws', ec, nc, hc, lc⟩ := fj
    cases ea
    cases ec
    have h5 := st5.ex
    have x5 : Ex T1 (upd (upd T2 p2 (.tup [v', .ref c])) p3 (.tup [.ref p1, .ref p2])) := (g1.t.trans gr2.t).trans (g2.t.trans g3.t)
    have x6 : Ex T2 (upd (upd T2 p2 (.tup [v', .ref c])) p3 (.tup [.ref p1, .ref p2])) := g2.t.trans g3.t
    have rv := Rp.mono x5 rp.1
    have rv' := Rp.mono x6 rp2.1
    have G5 := (GrB.of st3.eb g2).trans (GrB.of st4.eb g3)
    obtain ⟨r, ff⟩ := tup2_gh h5 t1 t2 t3 na ha la nc hc lc rv rv' hxy.1 hxy.2
    refine q5 (.ref p3) σ _ _ G5 st5 ⟨r, fun _ b fb => ?_⟩
    rcases ff b fb with rfl | rfl
    · exact st5.own i _ _ _ hi ei own rfl
    · exact st5.own j _ _ _ hj ej own' rfl⟩

/-! ### x[i].append(e), x[i][j].append(e): fresh lists within x -/
theorem cell_step {T : Hp} {v : V} {n : Nat} {r : List Nat} {b : Addr} (h : cellAt T v (n :: r) = some b) : ∃ a vs w, v = .ref a ∧ (T a = some (.lst vs) ∨ T a = some (.tup vs)) ∧ vs[n]? = some w ∧ cellAt T w r = some b := by
  cases v with
  | ref a =>
    unfold cellAt at h
    cases ha : T a with
    | none => rw [ha] at h; cases h
    | some o =>
      rw [ha] at h
      cases o <;> first | cases h | skip
      · rename_i vs
        have h : (match vs[n]? with | some u => cellAt T u r | none => none) = some b := h
        cases hn : vs[n]? with
        | none => rw [hn] at h; cases h
        | some w => rw [hn] at h; exact ⟨a, vs, w, rfl, .inl ha, hn, h⟩
      · rename_i vs
        have h : (match vs[n]? with | some u => cellAt T u r | none => none) = some b := h
        cases hn : vs[n]? with
        | none => rw [hn] at h; cases h
        | some w => rw [hn] at h; exact ⟨a, vs, w, rfl, .inr ha, hn, h⟩
  | _ => cases h
theorem cell_nil {T : Hp} {v : V} {b : Addr} (h : cellAt T v [] = some b) : v = .ref b := by
  cases v with
  | ref a => cases (show some a = some b from h); rfl
  | _ => cases h
theorem cell_in {T : Hp} {a : Addr} {vs : List V} {n : Nat} {w : V} {r : List Nat} (h : T a = some (.lst vs) ∨ T a = some (.tup vs)) (hn : vs[n]? = some w) : cellAt T (.ref a) (n :: r) = cellAt T w r := by
  rcases h with h | h
  · simp only [cellAt, h, hn]
  · simp only [cellAt, h, hn]
theorem cellAt_app {H : Hp} {b : Addr} {us : List V} {u : V} (hb : H b = some (.lst us)) : ∀ {π : List Nat} {v : V} {a : Addr}, cellAt H v π = some a → cellAt (upd H b (.lst (us ++ [u]))) v π = some a
  | [], v, a, h => by cases v <;> first | exact h | cases h
  | n :: r, v, a, h => by
    obtain ⟨c, vs, w, rfl, h1, h2, h3⟩ := cell_step h
    by_cases hc : c = b
    · subst hc
      have e : vs = us := by
        rcases h1 with h1 | h1
        · rw [hb] at h1; cases h1; rfl
        · rw [hb] at h1; cases h1
      subst e
      rw [cell_in (.inl upd_same) (by rw [List.getElem?_append_left (List.getElem?_eq_some_iff.mp h2).1]; exact h2)]
      exact cellAt_app hb h3
    · rw [cell_in (h1.imp (fun z => by rw [upd_ne hc]; exact z) fun z => by rw [upd_ne hc]; exact z) h2]
      exact cellAt_app hb h3
/-- one of the lists of ours grows -/
theorem gh_app {T H : Hp} {v u : V} {x : Option P} {ps : PL} {b : Addr} {π0 : List Nat} (r : Rep G T H v (.gh .own x ps)) (hp : π0 ∈ ps.l) (hc : cellAt H v π0 = some b) :
    ∃ us, H b = some (.lst us) ∧ us.length ≤ ps.k ∧ Rep G T (upd H b (.lst (us ++ [u]))) v (.gh .own none ⟨ps.l, ps.k + 1⟩) ∧ ∀ c, Foot G (upd H b (.lst (us ++ [u]))) v (.gh .own none ⟨ps.l, ps.k + 1⟩) c → Foot G H v (.gh .own x ps) c := by
  obtain ⟨TT, k1, k2, k3, k4⟩ := r
  obtain ⟨b', us, q1, q2, q3, q4⟩ := k4 π0 hp
  have hb := cellAt_mono k1 q1
  rw [hc] at hb
  cases hb
  refine ⟨us, k1 _ _ q3, q4, ⟨upd TT b (.lst (us ++ [u])), fun c o e => ?_, (fun _ z => by cases z), fun c o e => ?_, fun π hπ => ?_⟩, fun c f => ?_⟩
  · by_cases h : c = b
    · subst h; rw [upd_same] at e ⊢; exact e
    · rw [upd_ne h] at e ⊢; exact k1 c o e
  · by_cases h : c = b
    · subst h; exact .inr ⟨π0, hp, cellAt_app q3 q1⟩
    · rw [upd_ne h] at e
      rcases k3 c o e with z | ⟨π, hπ, z⟩
      · exact .inl z
      · exact .inr ⟨π, hπ, cellAt_app q3 z⟩
  · obtain ⟨a, vs, w1, w2, w3, w4⟩ := k4 π hπ
    by_cases h : a = b
    · subst h
      rw [q3] at w3; cases w3
      exact ⟨a, us ++ [u], cellAt_app q3 w1, w2, upd_same, by rw [List.length_append]; exact Nat.succ_le_succ w4⟩
    · exact ⟨a, vs, cellAt_app q3 w1, w2, by rw [upd_ne h]; exact w3, Nat.le_succ_of_le w4⟩
  · obtain ⟨π, hπ, f⟩ := f
    obtain ⟨a, vs, w1, w2, w3, w4⟩ := k4 π hπ
    have z := cellAt_mono k1 w1
    have z2 := cellAt_app (u := u) (k1 _ _ q3) z
    rw [f] at z2
    cases z2
    exact ⟨π, hπ, z⟩
def natD : D → Option Nat
  | .p (.int j) => if 0 ≤ j then some j.toNat else none
  | _ => none
@[simp] theorem natD_int (j : Int) : natD (.p (.int j)) = if 0 ≤ j then some j.toNat else none := rfl
theorem natD_ok {T H : Hp} {u : V} {d : D} {n : Nat} (r : Rep G T H u d) (h : natD d = some n) : u = .int (n : Int) := by
  cases d with
  | p x =>
    cases x with
    | int j =>
      have h : (if 0 ≤ j then some j.toNat else none) = some n := h
      split at h
      · rename_i hj
        cases h
        rw [rint r, Int.toNat_of_nonneg hj]
      · cases h
    | _ => cases h
  | _ => cases h
theorem atI_natV {vs : List V} {n : Nat} {w : V} (h : vs[n]? = some w) : atI vs (n : Int) = some w := by
  have hl := (List.getElem?_eq_some_iff.mp h).1
  unfold atI ixN
  rw [if_pos (by omega), if_pos (by omega)]
  exact h
theorem rix_of {K : PySem.W.Frag} {H : Hp} {a : Addr} {vs : List V} {n : Nat} {w : V} {Q : VK} (h : H a = some (.lst vs) ∨ H a = some (.tup vs)) (e : vs[n]? = some w) (q : Q w H) : rIx K (.ref a) (.int (n : Int)) H Q := by
  rcases h with h | h
  · exact .inl ⟨a, vs, n, w, rfl, rfl, SqL.of h, atI_natV e, q⟩
  · exact .inr (.inl ⟨a, vs, n, w, rfl, rfl, SqT.of h, atI_natV e, q⟩)
/-- the append itself -/
def gaK (i : Nat) (ρ : Rho) (ps : PL) : D → Fl
  | .p _ => if ps.k < 16777216 then .nx (ρ.set i (some (.gh .own none ⟨ps.l, ps.k + 1⟩))) else .bad
  | _ => .bad
@[simp] theorem gaK_p (i : Nat) (ρ : Rho) (ps : PL) (y : P) : gaK i ρ ps (.p y) = if ps.k < 16777216 then .nx (ρ.set i (some (.gh .own none ⟨ps.l, ps.k + 1⟩))) else .bad := rfl
def gaP (i : Nat) (fv : Rho → R D) (ρ : Rho) (ps : PL) (π : List Nat) : Fl := if π ∈ ps.l then onR (fz fv ρ) ρ (gaK i ρ ps) else .bad
def ga2 (i : Nat) (fv : Rho → R D) (ρ : Rho) (ps : PL) (n : Nat) : Option Nat → Fl
  | some m => gaP i fv ρ ps [n, m]
  | none => .bad
@[simp] theorem ga2_ok (i : Nat) (fv : Rho → R D) (ρ : Rho) (ps : PL) (n m : Nat) : ga2 i fv ρ ps n (some m) = gaP i fv ρ ps [n, m] := rfl
def hasFst (n : Nat) (ps : PL) : Bool := ps.l.any fun π => match π with
  | m :: _ => decide (m = n)
  | [] => false
def ga1 (i : Nat) (f2 fv : Rho → R D) (ρ : Rho) (ps : PL) : Option Nat → Fl
  | some n => if hasFst n ps = true then onR (fz f2 ρ) ρ fun d => ga2 i fv ρ ps n (natD d) else .bad
  | none => .bad
@[simp] theorem ga1_ok (i : Nat) (f2 fv : Rho → R D) (ρ : Rho) (ps : PL) (n : Nat) : ga1 i f2 fv ρ ps (some n) = if hasFst n ps = true then onR (fz f2 ρ) ρ fun d => ga2 i fv ρ ps n (natD d) else .bad := rfl
def ga0 (i : Nat) (f1 f2 fv : Rho → R D) (ρ : Rho) : Option (Option D) → Fl
  | some (some (.gh .own x ps)) => onR (fz f1 ρ) ρ fun d => ga1 i f2 fv ρ ps (natD d)
  | _ => .bad
@[simp] theorem ga0_ok (i : Nat) (f1 f2 fv : Rho → R D) (ρ : Rho) (x : Option P) (ps : PL) : ga0 i f1 f2 fv ρ (some (some (.gh .own x ps))) = onR (fz f1 ρ) ρ fun d => ga1 i f2 fv ρ ps (natD d) := rfl
@[simp] def sGApp2 (i : Nat) (f1 f2 fv : Rho → R D) : Rho → Fl := fun ρ => ga0 i f1 f2 fv ρ ρ[i]?
theorem gaK_ok {ρ : Rho} {σ : L2.St} {B T3 H3 : Hp} {v u3 : V} {i : Nat} {x0 : Option P} {ps : PL} {b : Addr} {π : List Nat} {d3 : D} {D' : Ends} (hρ : ρ[i]? = some (some (.gh .own x0 ps))) (e0 : σ[i]? = some (some v)) (st : StR G ρ σ T3 B H3) (hp : π ∈ ps.l) (hc : cellAt H3 v π = some b)
    (rp3 : Rep G T3 H3 u3 d3) (q3 : PostS G W T3 B (gaK i ρ ps d3) D') : rAppend (.ref b) [u3] H3 fun _ H' => D'.nx σ H' := by
  cases d3 with
  | p y3 =>
    have q3 : PostS G W T3 B (if ps.k < 16777216 then .nx (ρ.set i (some (.gh .own none ⟨ps.l, ps.k + 1⟩))) else .bad) D' := q3
    split at q3
    · rename_i hh
      obtain ⟨us, hb, hl, r', ff⟩ := gh_app (u := u3) (st.v.rep hρ e0) hp hc
      have k := st.mut (a := b) (o := .lst (us ++ [u3])) (d1 := .gh .own none ⟨ps.l, ps.k + 1⟩) hρ e0 (fun z => nomatch (show M.own = M.ro from z)) ⟨π, hp, hc⟩ (fun z => nomatch (show M.own = M.ro from z)) r' ff
      exact ⟨b, us, u3, rfl, rfl, hb, by rw [big]; omega, q3 σ T3 _ ⟨Ex.refl T3, k.1.ex, k.2, fun _ _ _ z => z⟩ k.1⟩
    · exact q3.elim
  | hl m x => exact q3.elim
  | hd m x => exact q3.elim
  | ho m x => exact q3.elim
  | gh m x ps => exact q3.elim
  | hos m x => exact q3.elim
theorem hasFst_ok {n : Nat} {ps : PL} (h : hasFst n ps = true) : ∃ r, n :: r ∈ ps.l := by
  unfold hasFst at h
  obtain ⟨π, hπ, h⟩ := List.any_eq_true.mp h
  cases π with
  | nil => cases h
  | cons m r => cases of_decide_eq_true h; exact ⟨r, hπ⟩
/-- the cells of the paths, in any later heap -/
theorem gh_cell {T H : Hp} {v : V} {x : Option P} {ps : PL} {π : List Nat} (r : Rep G T H v (.gh .own x ps)) (hp : π ∈ ps.l) : ∃ b us, cellAt H v π = some b ∧ H b = some (.lst us) := by
  obtain ⟨TT, k1, k2, k3, k4⟩ := r
  obtain ⟨b, us, q1, q2, q3, q4⟩ := k4 π hp
  exact ⟨b, us, cellAt_mono k1 q1, k1 _ _ q3⟩
theorem s_gapp2 {e1 e2 : Expr} {f1 f2 fv : Rho → R D} (i : Nat) {x : Str} {pn ps1 ps2 apos pos' : Pos} (h1 : PE X e1 (tPu G W f1)) (h2 : PE X e2 (tPu G W f2)) (he : PE X e (tPu G W fv)) (hN : X.N[i]? = some x := by rfl) (hv : Vis X.env.scope x := by first | exact Or.inl rfl | exact Or.inr (Or.inl rfl) | exact Or.inr (Or.inr rfl)) (hd : (x == ("__debug__" : Str)) = false := by decide)
    (hcd : (x == ("__classdict__" : Str)) = false := by decide) (hx1 : PlainIx e1 := by intro _ _; rfl) (hx2 : PlainIx e2 := by intro _ _; rfl) : (hbase : attributeBase (.Subscript (.Subscript (.Name x pn) e1 ps1) e2 ps2) "append" X.env (eval (.Subscript (.Subscript (.Name x pn) e1 ps1) e2 ps2) X.env) = eval (.Subscript (.Subscript (.Name x pn) e1 ps1) e2 ps2) X.env := by rfl) →
    (hfew : ((backTo pos' (starEach (e :: []) X.env)).all (fun x => !x.1) && (backToKw pos' (keywordEach [] X.env)).all (fun x => x.1.isSome)
      && decide ((e :: []).length + ([] : List Keyword).length + (if ([] : List Keyword).isEmpty then 0 else 1) < 30)) = true := by rfl) → (hline : (apos.endLine == pos'.line) = true := by rfl) → (hs : starEach (e :: []) X.env = (false, eval e X.env) :: starEach [] X.env := by rfl) →
    (hpl : (backTo pos' (starEach [] X.env)).any (·.1) = false := by rfl) → (hsw : swapsWith (.Call (.Attribute (.Subscript (.Subscript (.Name x pn) e1 ps1) e2 ps2) "append" apos) [e] [] pos') none pos.line X.env = pure false := by rfl) →
    PS X (.Expr (.Call (.Attribute (.Subscript (.Subscript (.Name x pn) e1 ps1) e2 ps2) "append" apos) [e] [] pos') pos) (tPs G W (sGApp2 i f1 f2 fv)) := fun hbase hfew hline hs hpl hsw =>
  ps_imp (ps_expr (pe_bm PySem.F.plainAttrs_list PySem.F.slot_list_append PySem.F.type_list_append mt_append (pe_ix ix_seq (pe_ix ix_seq (pe_var hN hv hd hcd) (pu_fz h1) hx1) (pu_fz h2) hx2) (pa_cons (pu_fz he) pa_nil hs) hbase hfew hline hs hpl) hsw) fun D σ H ⟨ρ, T, B, st, q⟩ => by
    unfold sGApp2 ga0 at q
    split at q
    · rename_i x0 ps hρ
      obtain ⟨v, e0, r⟩ := st.v.at_ i _ hρ
      refine ⟨v, e0, ρ, T, st.ex, st.v, (PostS.onR st q).mono fun u1 H1 ⟨d1, T1, _, gr1, rp1, q1⟩ => ?_⟩
      have st1 := st.grow gr1
      cases z1 : natD d1 with
      | none => rw [z1] at q1; exact q1.elim
      | some n =>
        rw [z1] at q1
        cases natD_ok rp1.1 z1
        have q1 : PostS G W T1 B (if hasFst n ps = true then onR (fz f2 ρ) ρ fun d => ga2 i fv ρ ps n (natD d) else .bad) D := q1
        split at q1
        · rename_i hf
          obtain ⟨rr, hr⟩ := hasFst_ok hf
          obtain ⟨b0, us0, hc0, _⟩ := gh_cell (st1.v.rep hρ e0) hr
          obtain ⟨a, vs, w, rfl, ha, hn, _⟩ := cell_step hc0
          refine rix_of ha hn ?_
          refine ⟨ρ, T1, st1.ex, st1.v, (PostS.onR st1 q1).mono fun u2 H2 ⟨d2, T2, _, gr2, rp2, q2⟩ => ?_⟩
          have st2 := st1.grow gr2
          cases z2 : natD d2 with
          | none => rw [z2] at q2; exact q2.elim
          | some m =>
            rw [z2] at q2
            cases natD_ok rp2.1 z2
            have q2 : PostS G W T2 B (if [n, m] ∈ ps.l then onR (fz fv ρ) ρ (gaK i ρ ps) else .bad) D := q2
            split at q2
            · rename_i hm
              obtain ⟨b, us, hc, hb⟩ := gh_cell (st2.v.rep hρ e0) hm
              obtain ⟨a1, vs1, w1, ea, ha1, hn1, hc1⟩ := cell_step hc
              cases ea
              have ew : w1 = w := by
                rcases ha with ha | ha <;> rcases ha1 with ha1 | ha1 <;> have z := gr2.h _ _ ha <;> rw [ha1] at z <;> cases z
                · rw [hn] at hn1; exact (Option.some.inj hn1).symm
                · rw [hn] at hn1; exact (Option.some.inj hn1).symm
              subst ew
              obtain ⟨a2, vs2, w2, rfl, ha2, hn2, hc2⟩ := cell_step hc1
              refine rix_of ha2 hn2 ?_
              cases cell_nil hc2
              refine ⟨.inl ⟨rfl, us, SqL.of hb⟩, ρ, T2, st2.ex, st2.v, (PostS.onR st2 q2).mono fun u3 H3 ⟨d3, T3, _, gr3, rp3, q3⟩ => ?_⟩
              exact gaK_ok hρ e0 (st2.grow gr3) hm (cellAt_mono gr3.h hc) rp3.1 q3
            · exact q2.elim
        · exact q1.elim
    · exact q.elim
def gb1 (i : Nat) (fv : Rho → R D) (ρ : Rho) (ps : PL) : Option Nat → Fl
  | some n => gaP i fv ρ ps [n]
  | none => .bad
@[simp] theorem gb1_ok (i : Nat) (fv : Rho → R D) (ρ : Rho) (ps : PL) (n : Nat) : gb1 i fv ρ ps (some n) = gaP i fv ρ ps [n] := rfl
def gb0 (i : Nat) (f1 fv : Rho → R D) (ρ : Rho) : Option (Option D) → Fl
  | some (some (.gh .own x ps)) => onR (fz f1 ρ) ρ fun d => gb1 i fv ρ ps (natD d)
  | _ => .bad
@[simp] theorem gb0_ok (i : Nat) (f1 fv : Rho → R D) (ρ : Rho) (x : Option P) (ps : PL) : gb0 i f1 fv ρ (some (some (.gh .own x ps))) = onR (fz f1 ρ) ρ fun d => gb1 i fv ρ ps (natD d) := rfl
@[simp] def sGApp1 (i : Nat) (f1 fv : Rho → R D) : Rho → Fl := fun ρ => gb0 i f1 fv ρ ρ[i]?
theorem s_gapp1 {e1 : Expr} {f1 fv : Rho → R D} (i : Nat) {x : Str} {pn ps1 apos pos' : Pos} (h1 : PE X e1 (tPu G W f1)) (he : PE X e (tPu G W fv)) (hN : X.N[i]? = some x := by rfl) (hv : Vis X.env.scope x := by first | exact Or.inl rfl | exact Or.inr (Or.inl rfl) | exact Or.inr (Or.inr rfl)) (hd : (x == ("__debug__" : Str)) = false := by decide)
    (hcd : (x == ("__classdict__" : Str)) = false := by decide) (hx1 : PlainIx e1 := by intro _ _; rfl) : (hbase : attributeBase (.Subscript (.Name x pn) e1 ps1) "append" X.env (eval (.Subscript (.Name x pn) e1 ps1) X.env) = eval (.Subscript (.Name x pn) e1 ps1) X.env := by rfl) →
    (hfew : ((backTo pos' (starEach (e :: []) X.env)).all (fun x => !x.1) && (backToKw pos' (keywordEach [] X.env)).all (fun x => x.1.isSome)
      && decide ((e :: []).length + ([] : List Keyword).length + (if ([] : List Keyword).isEmpty then 0 else 1) < 30)) = true := by rfl) → (hline : (apos.endLine == pos'.line) = true := by rfl) → (hs : starEach (e :: []) X.env = (false, eval e X.env) :: starEach [] X.env := by rfl) →
    (hpl : (backTo pos' (starEach [] X.env)).any (·.1) = false := by rfl) → (hsw : swapsWith (.Call (.Attribute (.Subscript (.Name x pn) e1 ps1) "append" apos) [e] [] pos') none pos.line X.env = pure false := by rfl) →
    PS X (.Expr (.Call (.Attribute (.Subscript (.Name x pn) e1 ps1) "append" apos) [e] [] pos') pos) (tPs G W (sGApp1 i f1 fv)) := fun hbase hfew hline hs hpl hsw =>
  ps_imp (ps_expr (pe_bm PySem.F.plainAttrs_list PySem.F.slot_list_append PySem.F.type_list_append mt_append (pe_ix ix_seq (pe_var hN hv hd hcd) (pu_fz h1) hx1) (pa_cons (pu_fz he) pa_nil hs) hbase hfew hline hs hpl) hsw) fun D σ H ⟨ρ, T, B, st, q⟩ => by
    unfold sGApp1 gb0 at q
    split at q
    · rename_i x0 ps hρ
      obtain ⟨v, e0, r⟩ := st.v.at_ i _ hρ
      refine ⟨v, e0, ρ, T, st.ex, st.v, (PostS.onR st q).mono fun u1 H1 ⟨d1, T1, _, gr1, rp1, q1⟩ => ?_⟩
      have st1 := st.grow gr1
      cases z1 : natD d1 with
      | none => rw [z1] at q1; exact q1.elim
      | some n =>
        rw [z1] at q1
        cases natD_ok rp1.1 z1
        have q1 : PostS G W T1 B (if [n] ∈ ps.l then onR (fz fv ρ) ρ (gaK i ρ ps) else .bad) D := q1
        split at q1
        · rename_i hm
          obtain ⟨b, us, hc, hb⟩ := gh_cell (st1.v.rep hρ e0) hm
          obtain ⟨a, vs, w, rfl, ha, hn, hc1⟩ := cell_step hc
          refine rix_of ha hn ?_
          cases cell_nil hc1
          refine ⟨.inl ⟨rfl, us, SqL.of hb⟩, ρ, T1, st1.ex, st1.v, (PostS.onR st1 q1).mono fun u3 H3 ⟨d3, T3, _, gr3, rp3, q3⟩ => ?_⟩
          exact gaK_ok hρ e0 (st1.grow gr3) hm (cellAt_mono gr3.h hc) rp3.1 q3
        · exact q1.elim
    · exact q.elim

/-! ### for x in y, y a name: a list that is frozen or only read -/
def forV (i : Nat) (b : Rho → Fl) (ρ : Rho) : Option (Option D) → Fl
  | some (some (.p (.lst xs))) => forGo i b xs ρ
  | some (some (.hl .ro xs)) => forGo i b xs ρ
  | _ => .bad
@[simp] theorem forV_p (i : Nat) (b : Rho → Fl) (ρ : Rho) (xs : List P) : forV i b ρ (some (some (.p (.lst xs)))) = forGo i b xs ρ := rfl
@[simp] theorem forV_h (i : Nat) (b : Rho → Fl) (ρ : Rho) (xs : List P) : forV i b ρ (some (some (.hl .ro xs))) = forGo i b xs ρ := rfl
@[simp] def sForV (i j : Nat) (b : Rho → Fl) : Rho → Fl := fun ρ => forV i b ρ ρ[j]?
theorem s_forV {body : List Stmt} {g : Rho → Fl} (i j : Nat) {x y : Str} {pn : Pos} (hp : PassesOwn (model X.prog X.w) X.A X.env X.xe) (hc : X.calm = true) (hN : X.N.Nodup) (hb : PSs X body (tPs G W g)) (hx : X.N[i]? = some x := by rfl) (hl : Loc X.env.scope x := by first | exact Or.inl rfl | exact Or.inr rfl)
    (hNj : X.N[j]? = some y := by rfl) (hv : Vis X.env.scope y := by first | exact Or.inl rfl | exact Or.inr (Or.inl rfl) | exact Or.inr (Or.inr rfl)) (hd : (y == ("__debug__" : Str)) = false := by decide) (hcd : (y == ("__classdict__" : Str)) = false := by decide) :
    (hf : X.fn x = true ∨ X.env.scope.names.lookup x = some .local := by first | exact .inl rfl | exact .inr rfl) → (hs : ∀ x, foldedSetIterable (.Name y pn) X.env x = pure x := by intro _; rfl) → PS X (.For (.Name x p) (.Name y pn) body [] pos) (tPs G W (sForV i j g)) := fun hf hs =>
  ps_imp (ps_for hp hc (pi_list (pe_var hNj hv hd hcd)) (pg_name (i := i) hN hx hl hf) hb hs) fun D σ H ⟨ρ, T, B, st, q⟩ => by
    have key : ∃ (xs : List SP.P) (a : Addr) (vs : List V), σ[j]? = some (some (.ref a)) ∧ H a = some (.lst vs) ∧ RpL G T vs xs ∧ (∀ σ' H' T' ρ', GrB T B T' H' → StR G ρ' σ' T' B H' → H' a = some (.lst vs)) ∧ PostS G W T B (forGo i g xs ρ) D := by
      unfold sForV forV at q
      split at q
      · rename_i xs h
        obtain ⟨v, e, r⟩ := st.v.at_ j _ h
        cases (show Rp G T v (.lst xs) from r) with
        | @lst a vs _ h1 r1 => exact ⟨xs, a, vs, e, st.ex _ _ h1, r1, fun σ' H' T' ρ' g' st' => st'.ex _ _ (g'.t _ _ h1), q⟩
      · rename_i xs h
        obtain ⟨v, e, r⟩ := st.v.at_ j _ h
        obtain ⟨a, vs, rfl, h1, h2, h3⟩ := r
        obtain ⟨o, ho⟩ := st.ro j _ _ a h e rfl rfl
        have : o = .lst vs := by have := st.eb a o ho; rw [h2] at this; exact (Option.some.inj this).symm
        subst this
        exact ⟨xs, a, vs, e, h2, h3, fun σ' H' T' ρ' g' st' => st'.eb _ _ ho, q⟩
      · exact q.elim
    obtain ⟨xs, a, vs, e, h2, r1, keep, q1⟩ := key
    refine ⟨_, e, a, rfl, ⟨vs, SqL.of h2⟩, for_list (K := X.K) (xs := vs) (fun k σ' H' => FInv G W T B i g D (xs.drop k) σ' H') ⟨ρ, T, GrB.refl st.ex st.eb, st, q1⟩ (fun k σ' H' _ h => ?_) (fun k y σ' H' hk h => ?_) (fun σ' H' h => ?_)⟩
    · obtain ⟨ρ', T', g', st', _⟩ := h
      exact SqL.of (keep σ' H' T' ρ' g' st')
    · obtain ⟨z, hz, rz⟩ := r1.get hk
      have hd : xs.drop k = z :: xs.drop (k + 1) := by
        obtain ⟨hlt, e⟩ := List.getElem?_eq_some_iff.mp hz
        rw [← e]; exact List.drop_eq_getElem_cons hlt
      rw [hd] at h
      exact for_turn rz h
    · rw [List.drop_eq_nil_of_le (by rw [r1.length]; exact Nat.le_refl _)] at h
      exact for_end h
end
end SP
namespace Run
open PySem PySem.Spec PyProof.Rows L2 SP

noncomputable def g_need_name : Rho → Fl := (sSeq (sIf (tOrF (tNotF (tV (f1 (gIsi "int") (fV 0)))) (tOrF (tV (f1 (gIsi "bool") (fV 0))) (tOrF (cT cLt (fV 0) (fC (.int 0))) (cT cGe (fV 0) (fC (.int 256)))))) (sRaise 1) sNext)
  (sRet (fV 0)))
noncomputable def F_need_name : List D → R D := runP 1 g_need_name
noncomputable def g_mixed : Rho → Fl := (sRet (f2 gMod (f2 gAdd (f2 gMul (fC (.int 171)) (fCall 1 F_need_name (aC (fV 0) aN))) (fC (.int 37))) (fC (.int 256))))
noncomputable def F_mixed : List D → R D := runP 1 g_mixed
noncomputable def g_signs : Rho → Fl := (sSeq (sAsg 1 false (fCall 1 F_mixed (aC (fV 0) aN)))
  (sSeq (sAsg 2 false (fC (.str "")))
  (sSeq (sForR 3 (aC (fC (.int 8)) aN) (sSeq (sAsg 2 false (f2 gAdd (fA bStr (aC (f2 gMod (fV 1) (fC (.int 2))) aN)) (fV 2)))
  (sAsg 1 false (f2 gDiv (fV 1) (fC (.int 2))))))
  (sRet (fV 2)))))
noncomputable def F_signs : List D → R D := runP 4 g_signs
noncomputable def g_l_whole : Rho → Fl := (sRet (fAndF (f1 (gIsi "int") (fV 0)) (f1 gNot (f1 (gIsi "bool") (fV 0)))))
noncomputable def F_l_whole : List D → R D := runP 1 g_l_whole
noncomputable def g_l_cell_at : Rho → Fl := (sSeq (sIf (cT cLt (fV 1) (fA gLen (aC (fV 0) aN))) (sRet (f2 gIx (fV 0) (fV 1))) sNext)
  (sRet (fC (.int 0))))
noncomputable def F_l_cell_at : List D → R D := runP 2 g_l_cell_at
noncomputable def g_l_none : Rho → Fl := (sSeq (sAsg 1 false (f2 gMod (f2 gDiv (fV 0) (fC (.int 8))) (f2 gPow (fC (.int 10)) (fC (.int 20)))))
  (sRet (f2 gIx (fA gLst (aC (f2 gSub (f1 gNeg (fC (.int 1))) (fV 1)) (aC (f2 gAdd (fC (.int 256)) (fV 1)) (aC (fC (.bl true)) (aC (fC (.bl false)) (aC (fC (.str "7")) (aC (fC .non) (aC (fA gLst (aC (fC (.int 7)) aN)) (aC (fA gTup (aC (fC (.int 7)) aN)) aN))))))))) (f2 gMod (fV 0) (fC (.int 8))))))
noncomputable def F_l_none : List D → R D := runP 2 g_l_none
noncomputable def g_with_thing : Rho → Fl := (sSeq (sAsg 3 true (fA gLst aN))
  (sSeq (sAsg 4 false (fC (.bl false)))
  (sSeq (sForV 5 0 (sSeq (sIf (tAndF (tNotF (tV (fV 4))) (cT cGe (f2 gIx (fV 5) (fC (.int 0))) (fV 1))) (sSeq (sApp 3 (fA gTup (aC (fV 1) (aC (fV 2) aN))))
  (sAsg 4 false (fC (.bl true)))) sNext)
  (sIf (cT cNe (f2 gIx (fV 5) (fC (.int 0))) (fV 1)) (sApp 3 (fV 5)) sNext)))
  (sSeq (sIf (tNotF (tV (fV 4))) (sApp 3 (fA gTup (aC (fV 1) (aC (fV 2) aN)))) sNext)
  (sRetV 3)))))
noncomputable def F_with_thing : List D → R D := runP 6 g_with_thing
noncomputable def g_without_thing : Rho → Fl := (sRet (fLc [2] 2 (fV 0) (cT cNe (f2 gIx (fV 2) (fC (.int 0))) (fV 1)) (fV 2)))
noncomputable def F_without_thing : List D → R D := runP 3 g_without_thing
noncomputable def g_value_in : Rho → Fl := (sSeq (sForV 2 0 (sIf (cT cEq (f2 gIx (fV 2) (fC (.int 0))) (fV 1)) (sRet (f2 gIx (fV 2) (fC (.int 1)))) sNext))
  (sRet (fC .non)))
noncomputable def F_value_in : List D → R D := runP 3 g_value_in
noncomputable def g_l_value : Rho → Fl := (sSeq (sIf (cT cEq (f2 gMod (fV 0) (fC (.int 7))) (fC (.int 2))) (sRet (f2 gMod (f2 gAdd (f2 gMul (fV 0) (fC (.int 48271))) (fV 1)) (f2 gPow (fC (.int 10)) (fC (.int 60))))) sNext)
  (sSeq (sIf (cT cEq (f2 gMod (fV 0) (fC (.int 7))) (fC (.int 3))) (sRet (f2 gSub (fC (.int 0)) (f2 gDiv (f2 gSub (f2 gSub (f2 gPow (fC (.int 10)) (fC (.int 60))) (fC (.int 1))) (f2 gMod (f2 gDiv (fV 0) (fC (.int 7))) (f2 gPow (fC (.int 10)) (fC (.int 20))))) (f2 gAdd (fC (.int 1)) (f2 gMod (f2 gDiv (fV 0) (fC (.int 7))) (fC (.int 3))))))) sNext)
  (sRet (f2 gSub (f2 gMod (f2 gAdd (f2 gDiv (fV 0) (fC (.int 7))) (f2 gMul (fC (.int 13)) (fV 1))) (fC (.int 2003))) (fC (.int 1001))))))
noncomputable def F_l_value : List D → R D := runP 2 g_l_value
noncomputable def g_l_alike : Rho → Fl := (sSeq (sIf (tOrF (tNotF (tV (f1 (gIsi "list") (fV 0)))) (cT cNe (fA gLen (aC (fV 0) aN)) (fA gLen (aC (fV 1) aN)))) (sRet (fC (.bl false))) sNext)
  (sSeq (sForR 2 (aC (fA gLen (aC (fV 1) aN)) aN) (sSeq (sAsg 3 false (f2 gIx (fV 0) (fV 2)))
  (sSeq (sIf (tOrF (tNotF (tV (f1 (gIsi "tuple") (fV 3)))) (tOrF (cT cNe (fA gLen (aC (fV 3) aN)) (fC (.int 2))) (tOrF (tNotF (tV (fCall 1 F_l_whole (aC (f2 gIx (fV 3) (fC (.int 0))) aN)))) (tNotF (tV (fCall 1 F_l_whole (aC (f2 gIx (fV 3) (fC (.int 1))) aN))))))) (sRet (fC (.bl false))) sNext)
  (sIf (tOrF (cT cNe (f2 gIx (fV 3) (fC (.int 0))) (f2 gIx (f2 gIx (fV 1) (fV 2)) (fC (.int 0)))) (cT cNe (f2 gIx (fV 3) (fC (.int 1))) (f2 gIx (f2 gIx (fV 1) (fV 2)) (fC (.int 1))))) (sRet (fC (.bl false))) sNext))))
  (sRet (fC (.bl true)))))
noncomputable def F_l_alike : List D → R D := runP 4 g_l_alike
noncomputable def g_parted : Rho → Fl := (sSeq (sAsg 1 false (f2 gIx (fV 0) (fC (.int 0))))
  (sSeq (sAsg 2 true (fLc [4] 4 (f2 gIx (fV 0) (fC (.int 1))) (cT cEq (f2 gIx (fCall 1 F_signs (aC (f2 gIx (fV 4) (fC (.int 0))) aN)) (fA gLen (aC (fV 1) aN))) (fC (.str "0"))) (fV 4)))
  (sSeq (sAsg 3 true (fLc [4] 4 (f2 gIx (fV 0) (fC (.int 1))) (cT cEq (f2 gIx (fCall 1 F_signs (aC (f2 gIx (fV 4) (fC (.int 0))) aN)) (fA gLen (aC (fV 1) aN))) (fC (.str "1"))) (fV 4)))
  (sRetG2 (f2 gAdd (fV 1) (fC (.str "0"))) 2 (f2 gAdd (fV 1) (fC (.str "1"))) 3))))
noncomputable def F_parted : List D → R D := runP 5 g_parted
noncomputable def g_joined : Rho → Fl := (sSeq (sAsg 2 true (fA gList (aC (f2 gIx (fV 0) (fC (.int 1))) aN)))
  (sSeq (sFor 3 (f2 gIx (fV 1) (fC (.int 1))) (sAsg 2 true (fCall 3 F_with_thing (aC (fV 2) (aC (f2 gIx (fV 3) (fC (.int 0))) (aC (f2 gIx (fV 3) (fC (.int 1))) aN))))))
  (sRetG1 (fSl (f2 gIx (fV 0) (fC (.int 0))) fNo (fSo (f1 gNeg (fC (.int 1))))) 2)))
noncomputable def F_joined : List D → R D := runP 4 g_joined
noncomputable def g_l_signs : Rho → Fl := (sSeq (sAsg 1 false (f2 gMod (f2 gAdd (f2 gMul (fC (.int 171)) (fV 0)) (fC (.int 37))) (fC (.int 256))))
  (sSeq (sAsg 2 false (fC (.str "")))
  (sSeq (sFor 3 (fA gLst (aC (fC (.int 128)) (aC (fC (.int 64)) (aC (fC (.int 32)) (aC (fC (.int 16)) (aC (fC (.int 8)) (aC (fC (.int 4)) (aC (fC (.int 2)) (aC (fC (.int 1)) aN))))))))) (sSeq (sAsg 2 false (f2 gAdd (fV 2) (fA bStr (aC (fA bInt (aC (cV cGe (fV 1) (fV 3)) aN)) aN))))
  (sAsg 1 false (f2 gSub (fV 1) (f2 gMul (fV 3) (fA bInt (aC (cV cGe (fV 1) (fV 3)) aN)))))))
  (sRet (fV 2)))))
noncomputable def F_l_signs : List D → R D := runP 4 g_l_signs
noncomputable def g_l_known : Rho → Fl := (sSeq (sAsg 1 false (fC (.int 0)))
  (sSeq (sForR 2 (aC (fC (.int 8)) aN) (sAsg 1 false (f2 gAdd (f2 gMul (fC (.int 2)) (fV 1)) (fA bInt (aC (cV cEq (fSl (fV 0) (fSo (fV 2)) (fSo (f2 gAdd (fV 2) (fC (.int 1))))) (fC (.str "1"))) aN)))))
  (sSeq (sAsg 3 false (f2 gIx (fA gLst (aC (fC (.int 256)) (aC (fC (.int 128)) (aC (fC (.int 64)) (aC (fC (.int 32)) (aC (fC (.int 16)) (aC (fC (.int 8)) (aC (fC (.int 4)) (aC (fC (.int 2)) (aC (fC (.int 1)) aN)))))))))) (fA gLen (aC (fV 0) aN))))
  (sRet (fA gSorted (aC (fLcR [4] 4 (aC (fV 3) aN) tYesF (f2 gMod (f2 gMul (f2 gSub (f2 gAdd (fV 1) (fV 4)) (fC (.int 37))) (fC (.int 3))) (fC (.int 256)))) aN))))))
noncomputable def F_l_known : List D → R D := runP 5 g_l_known
noncomputable def g_doubled : Rho → Fl := (sSeq (sAsg 1 true (fA gLst aN))
  (sSeq (sForV 2 0 (sSeq (sApp 1 (fV 2))
  (sApp 1 (fV 2))))
  (sRetV 1)))
noncomputable def F_doubled : List D → R D := runP 3 g_doubled
noncomputable def g_can_halve : Rho → Fl := (sSeq (sIf (cT cLt (fA gLen (aC (fV 0) aN)) (fC (.int 2))) (sRet (fC (.bl false))) sNext)
  (sSeq (sForR 1 (aC (f2 gDiv (fA gLen (aC (fV 0) aN)) (fC (.int 2))) aN) (sIf (cT cNe (f2 gIx (fV 0) (f2 gMul (fC (.int 2)) (fV 1))) (f2 gIx (fV 0) (f2 gAdd (f2 gMul (fC (.int 2)) (fV 1)) (fC (.int 1))))) (sRet (fC (.bl false))) sNext))
  (sRet (fC (.bl true)))))
noncomputable def F_can_halve : List D → R D := runP 2 g_can_halve
noncomputable def g_halved : Rho → Fl := (sRet (fLcR [1] 1 (aC (f2 gDiv (fA gLen (aC (fV 0) aN)) (fC (.int 2))) aN) tYesF (f2 gIx (fV 0) (f2 gMul (fC (.int 2)) (fV 1)))))
noncomputable def F_halved : List D → R D := runP 2 g_halved
noncomputable def g_parted_at : Rho → Fl := (sSeq (sAsg 2 false (fA gLen (aC (fLc [5] 5 (fV 0) (cT cEq (fV 5) (fV 1)) (fV 5)) aN)))
  (sSeq (sAsg 3 true (fA gLst aN))
  (sSeq (sAsg 4 false (fC (.int 0)))
  (sSeq (sForV 5 0 (sIf (cT cNe (fV 5) (fV 1)) (sApp 3 (fV 5)) (sIf (cT cLt (fV 4) (f2 gDiv (fV 2) (fC (.int 2)))) (sSeq (sApp 3 (f2 gAdd (fV 1) (fC (.str "0"))))
  (sAsg 4 false (f2 gAdd (fV 4) (fC (.int 1))))) (sApp 3 (f2 gAdd (fV 1) (fC (.str "1")))))))
  (sRetV 3)))))
noncomputable def F_parted_at : List D → R D := runP 6 g_parted_at
noncomputable def g_joined_at : Rho → Fl := (sRet (fLc [2] 2 (fV 0) tYesF (fIfE (tOrF (cT cEq (fV 2) (f2 gAdd (fV 1) (fC (.str "0")))) (cT cEq (fV 2) (f2 gAdd (fV 1) (fC (.str "1"))))) (fV 1) (fV 2))))
noncomputable def F_joined_at : List D → R D := runP 3 g_joined_at
noncomputable def g_l_rooms : Rho → Fl := (sSeq (sAsg 2 true (fA gLst aN))
  (sSeq (sAsg 3 false (fA gLst (aC (fA gTup (aC (fC (.str "")) (aC (fLc [8] 8 (fV 0) tYesF (fA gTup (aC (fCall 1 F_l_signs (aC (f2 gIx (fV 8) (fC (.int 0))) aN)) (aC (fV 8) aN)))) aN))) aN)))
  (sSeq (whGo (cT cNe (fV 3) (fA gLst aN)) (sSeq (sAsg 4 false (f2 gIx (f2 gIx (fV 3) (fC (.int 0))) (fC (.int 0))))
  (sSeq (sAsg 5 false (f2 gIx (f2 gIx (fV 3) (fC (.int 0))) (fC (.int 1))))
  (sSeq (sAsg 3 false (fSl (fV 3) (fSo (fC (.int 1))) fNo))
  (sIf (cT cLe (fA gLen (aC (fV 5) aN)) (fV 1)) (sApp 2 (fA gTup (aC (fV 4) (aC (fLc [8] 8 (fV 5) tYesF (f2 gIx (fV 8) (fC (.int 1)))) aN)))) (sSeq (sAsg 6 false (fLc [8] 8 (fV 5) (cT cEq (f2 gIx (f2 gIx (fV 8) (fC (.int 0))) (fA gLen (aC (fV 4) aN))) (fC (.str "0"))) (fV 8)))
  (sSeq (sAsg 7 false (fLc [8] 8 (fV 5) (cT cEq (f2 gIx (f2 gIx (fV 8) (fC (.int 0))) (fA gLen (aC (fV 4) aN))) (fC (.str "1"))) (fV 8)))
  (sAsg 3 false (f2 gAdd (fA gLst (aC (fA gTup (aC (f2 gAdd (fV 4) (fC (.str "0"))) (aC (fV 6) aN))) (aC (fA gTup (aC (f2 gAdd (fV 4) (fC (.str "1"))) (aC (fV 7) aN))) aN))) (fV 3))))))))) 100000)
  (sRetV 2))))
noncomputable def F_l_rooms : List D → R D := runP 9 g_l_rooms
noncomputable def g_beside : Rho → Fl := (sSeq (sIf (cT cEq (f2 gIx (fV 0) (f1 gNeg (fC (.int 1)))) (fC (.str "0"))) (sRet (f2 gAdd (fSl (fV 0) fNo (fSo (f1 gNeg (fC (.int 1))))) (fC (.str "1")))) sNext)
  (sRet (f2 gAdd (fSl (fV 0) fNo (fSo (f1 gNeg (fC (.int 1))))) (fC (.str "0")))))
noncomputable def F_beside : List D → R D := runP 1 g_beside
noncomputable def g_l_name : Rho → Fl := (sSeq (sAsg 2 false (fCall 2 F_l_cell_at (aC (fV 0) (aC (fC (.int 1)) aN))))
  (sSeq (sIf (cT cEq (f2 gMod (fV 2) (fC (.int 2))) (fC (.int 1))) (sRet (f2 gMod (f2 gMul (f2 gSub (f2 gAdd (f2 gMul (f2 gMod (f2 gDiv (fV 2) (fC (.int 2))) (fC (.int 16))) (fC (.int 16))) (f2 gMod (fV 1) (fC (.int 16)))) (fC (.int 37))) (fC (.int 3))) (fC (.int 256)))) sNext)
  (sRet (f2 gMod (fV 1) (fC (.int 256))))))
noncomputable def F_l_name : List D → R D := runP 3 g_l_name
noncomputable def g_l_bound : Rho → Fl := (sSeq (sIf (cT cEq (f2 gMod (fV 0) (fC (.int 4))) (fC (.int 1))) (sRet (f2 gAdd (fC (.int 1)) (f2 gMod (f2 gDiv (fV 0) (fC (.int 4))) (fC (.int 64))))) sNext)
  (sRet (f2 gAdd (fC (.int 1)) (f2 gMod (f2 gDiv (fV 0) (fC (.int 4))) (fC (.int 3))))))
noncomputable def F_l_bound : List D → R D := runP 1 g_l_bound
noncomputable def g_l_room : Rho → Fl := (sSeq (sIf (cT cGt (fA gLen (aC (fV 0) aN)) (fC (.int 63))) (sRet (fC (.int 98))) sNext)
  (sRet (fC (.int 32))))
noncomputable def F_l_room : List D → R D := runP 1 g_l_room
noncomputable def g_l_deeds_by : Rho → Fl := (sSeq (sAsg 3 false (f2 gIx (fV 0) (fV 1)))
  (sSeq (sAsg 4 false (f2 gDiv (fV 3) (fC (.int 16))))
  (sSeq (sIf (cT cLt (f2 gMod (fV 3) (fC (.int 16))) (fC (.int 9))) (sRet (fA gLst (aC (fA gTup (aC (fC (.str "put")) (aC (fCall 2 F_l_name (aC (fV 0) (aC (fV 4) aN))) (aC (fCall 2 F_l_value (aC (fV 3) (aC (fV 1) aN))) aN)))) aN))) sNext)
  (sSeq (sIf (tAndF (cT cLt (f2 gMod (fV 3) (fC (.int 16))) (fC (.int 13))) (tAndF (cT cNe (fV 2) (fA gLst aN)) (cT cGt (f2 gMod (fV 3) (fC (.int 3))) (fC (.int 0))))) (sRet (fA gLst (aC (fA gTup (aC (fC (.str "take")) (aC (f2 gIx (fV 2) (f2 gMod (fV 4) (fA gLen (aC (fV 2) aN)))) (aC (fC (.int 0)) aN)))) aN))) sNext)
  (sSeq (sIf (cT cLt (f2 gMod (fV 3) (fC (.int 16))) (fC (.int 13))) (sRet (fA gLst (aC (fA gTup (aC (fC (.str "take")) (aC (fCall 2 F_l_name (aC (fV 0) (aC (fV 4) aN))) (aC (fC (.int 0)) aN)))) aN))) sNext)
  (sSeq (sAsg 5 false (f2 gIx (fA gLst (aC (fC (.str "put")) (aC (fC (.str "put")) (aC (fC (.str "take")) aN)))) (f2 gSub (f2 gMod (fV 3) (fC (.int 16))) (fC (.int 13)))))
  (sRet (fLcR [6] 6 (aC (f2 gMod (fV 4) (fC (.int 7))) aN) tYesF (fA gTup (aC (fV 5) (aC (fCall 2 F_l_name (aC (fV 0) (aC (f2 gAdd (f2 gDiv (fV 4) (fC (.int 7))) (fV 6)) aN))) (aC (fCall 2 F_l_value (aC (f2 gAdd (fV 3) (fV 6)) (aC (fV 1) aN))) aN))))))))))))
noncomputable def F_l_deeds_by : List D → R D := runP 7 g_l_deeds_by
noncomputable def g_l_behind : Rho → Fl := (sSeq (sAsg 2 true (fLc [3] 3 (fV 0) (cT cNe (f2 gIx (fV 3) (fC (.int 0))) (f2 gIx (fV 1) (fC (.int 1)))) (fV 3)))
  (sSeq (sIf (cT cEq (f2 gIx (fV 1) (fC (.int 0))) (fC (.str "put"))) (sApp 2 (fA gTup (aC (f2 gIx (fV 1) (fC (.int 1))) (aC (f2 gIx (fV 1) (fC (.int 2))) aN)))) sNext)
  (sRet (fA gSorted (aC (fV 2) aN)))))
noncomputable def F_l_behind : List D → R D := runP 4 g_l_behind
noncomputable def g_l_first : Rho → Fl := (sSeq (sAsg 1 false (f2 gDiv (fCall 2 F_l_cell_at (aC (fV 0) (aC (fC (.int 1)) aN))) (fC (.int 32))))
  (sSeq (sAsg 2 false (f2 gIx (fA gLst (aC (fC (.int 70)) (aC (fC (.int 70)) (aC (fC (.int 70)) (aC (fC (.int 256)) aN))))) (f2 gMod (f2 gDiv (fV 1) (fC (.int 8))) (fC (.int 4)))))
  (sSeq (sIf (cT cEq (f2 gMod (fV 1) (fC (.int 8))) (fC (.int 1))) (sRet (fLcR [3] 3 (aC (fV 2) aN) tYesF (fA gTup (aC (fC (.str "put")) (aC (f2 gMod (f2 gAdd (f2 gDiv (fV 1) (fC (.int 32))) (fV 3)) (fC (.int 256))) (aC (fCall 2 F_l_value (aC (fV 1) (aC (fV 3) aN))) aN)))))) sNext)
  (sRet (fA gLst aN)))))
noncomputable def F_l_first : List D → R D := runP 4 g_l_first
noncomputable def g_l_plain : Rho → Fl := (sSeq (sAsg 1 false (fA gLst aN))
  (sSeq (sForV 2 0 (sAsg 1 false (fCall 2 F_l_behind (aC (fV 1) (aC (fV 2) aN)))))
  (sRet (fV 1))))
noncomputable def F_l_plain : List D → R D := runP 3 g_l_plain
noncomputable def g_l_is_room : Rho → Fl := (sSeq (sIf (tOrF (tNotF (tV (f1 (gIsi "tuple") (fV 0)))) (tOrF (cT cNe (fA gLen (aC (fV 0) aN)) (fC (.int 2))) (tOrF (tNotF (tV (f1 (gIsi "str") (f2 gIx (fV 0) (fC (.int 0)))))) (cT cNe (f2 gIx (fV 0) (fC (.int 0))) (fV 1))))) (sRet (fC (.bl false))) sNext)
  (sSeq (sIf (tOrF (tNotF (tV (f1 (gIsi "list") (f2 gIx (fV 0) (fC (.int 1)))))) (cT cNe (fA gLen (aC (f2 gIx (fV 0) (fC (.int 1))) aN)) (fA gLen (aC (fV 2) aN)))) (sRet (fC (.bl false))) sNext)
  (sSeq (sForR 3 (aC (fA gLen (aC (fV 2) aN)) aN) (sSeq (sAsg 4 false (f2 gIx (f2 gIx (fV 0) (fC (.int 1))) (fV 3)))
  (sSeq (sIf (tOrF (tNotF (tV (f1 (gIsi "tuple") (fV 4)))) (tOrF (cT cNe (fA gLen (aC (fV 4) aN)) (fC (.int 2))) (tOrF (tNotF (tV (fCall 1 F_l_whole (aC (f2 gIx (fV 4) (fC (.int 0))) aN)))) (tNotF (tV (fCall 1 F_l_whole (aC (f2 gIx (fV 4) (fC (.int 1))) aN))))))) (sRet (fC (.bl false))) sNext)
  (sIf (tOrF (cT cNe (f2 gIx (fV 4) (fC (.int 0))) (f2 gIx (f2 gIx (fV 2) (fV 3)) (fC (.int 0)))) (cT cNe (f2 gIx (fV 4) (fC (.int 1))) (f2 gIx (f2 gIx (fV 2) (fV 3)) (fC (.int 1))))) (sRet (fC (.bl false))) sNext))))
  (sRet (fC (.bl true))))))
noncomputable def F_l_is_room : List D → R D := runP 5 g_l_is_room
noncomputable def g_l_is_in : Rho → Fl := (sSeq (sIf (cT cEq (fV 1) (fC (.int 0))) (sRet (fC (.bl false))) sNext)
  (sSeq (sIf (cT cEq (fV 1) (fC (.int 1))) (sRet (cV cEq (f2 gMod (f2 gMod (f2 gMul (fV 0) (fC (.int 48271))) (fC (.int 1009))) (fC (.int 9))) (f2 gMod (fV 2) (fC (.int 9))))) sNext)
  (sSeq (sIf (cT cEq (fV 1) (fC (.int 2))) (sRet (cV cEq (f2 gMod (f2 gMod (f2 gMul (fV 0) (fC (.int 16807))) (fC (.int 1013))) (fC (.int 2))) (f2 gMod (fV 2) (fC (.int 2))))) sNext)
  (sRet (fC (.bl true))))))
noncomputable def F_l_is_in : List D → R D := runP 3 g_l_is_in
noncomputable def g_law : Rho → Fl := (sSeq (sAsg 1 false (fSl (fCall 1 F_l_signs (aC (f2 gMod (fCall 2 F_l_cell_at (aC (fV 0) (aC (fC (.int 0)) aN))) (fC (.int 256))) aN)) fNo (fSo (f2 gMod (fCall 2 F_l_cell_at (aC (fV 0) (aC (fC (.int 1)) aN))) (fC (.int 8))))))
  (sSeq (sAsg 2 false (f2 gMod (f2 gMod (fCall 2 F_l_cell_at (aC (fV 0) (aC (fC (.int 2)) aN))) (fC (.int 7))) (fC (.int 4))))
  (sSeq (sAsg 3 false (fCall 2 F_l_cell_at (aC (fV 0) (aC (fC (.int 3)) aN))))
  (sSeq (sAsg 4 false (f2 gMod (fCall 2 F_l_cell_at (aC (fV 0) (aC (fC (.int 4)) aN))) (f2 gPow (fC (.int 10)) (fC (.int 58)))))
  (sSeq (sAsg 5 false (fSl (fLc [11] 11 (fCall 1 F_l_known (aC (fV 1) aN)) (tV (fCall 3 F_l_is_in (aC (fV 11) (aC (fV 2) (aC (fV 3) aN))))) (fV 11)) fNo (fSo (fC (.int 70)))))
  (sSeq (sAsg 6 false (fLc [11] 11 (fV 5) tYesF (fA gTup (aC (fV 11) (aC (f2 gSub (fV 4) (f2 gMul (fV 11) (f2 gMod (fV 3) (fC (.int 5))))) aN)))))
  (sSeq (sAsg 7 false (fA gTup (aC (fV 1) (aC (fA gList (aC (fV 6) aN)) aN))))
  (sSeq (sAsg 8 true (fCall 1 F_parted (aC (fV 7) aN)))
  (sSeq (sIf (tFr (tOrF (tNotF (tV (f1 (gIsi "tuple") (fV 8)))) (tOrF (cT cNe (fA gLen (aC (fV 8) aN)) (fC (.int 2))) (tNotF (tV (fCall 3 F_l_is_room (aC (fV 7) (aC (fV 1) (aC (fV 6) aN))))))))) (sRet (fC (.bl false))) sNext)
  (sSeq (sFor 9 (fA gLst (aC (fC (.int 0)) (aC (fC (.int 1)) aN))) (sSeq (sAsg 10 false (fLc [12] 12 (fV 6) (cT cEq (f2 gIx (fCall 1 F_l_signs (aC (f2 gIx (fV 12) (fC (.int 0))) aN)) (fA gLen (aC (fV 1) aN))) (f2 gIx (fC (.str "01")) (fV 9))) (fV 12)))
  (sIf (tFr (tNotF (tV (fCall 3 F_l_is_room (aC (f2 gIx (fV 8) (fV 9)) (aC (f2 gAdd (fV 1) (f2 gIx (fC (.str "01")) (fV 9))) (aC (fV 10) aN))))))) (sRet (fC (.bl false))) sNext)))
  (sSeq (sIf (tFr (tNotF (tV (fCall 3 F_l_is_room (aC (fCall 2 F_joined (aC (f2 gIx (fV 8) (fC (.int 0))) (aC (f2 gIx (fV 8) (fC (.int 1))) aN))) (aC (fV 1) (aC (fV 6) aN))))))) (sRet (fC (.bl false))) sNext)
  (sSeq (sGApp2 8 (fC (.int 0)) (fC (.int 1)) (fA gTup (aC (fC (.int 999)) (aC (fC (.int 0)) aN))))
  (sSeq (sGApp2 8 (fC (.int 1)) (fC (.int 1)) (fA gTup (aC (fC (.int 999)) (aC (fC (.int 0)) aN))))
  (sRet (fCall 3 F_l_is_room (aC (fV 7) (aC (fV 1) (aC (fV 6) aN))))))))))))))))))
noncomputable def F_law : List D → R D := runP 13 g_law
end Run
/-! plain facts about signs, texts of signs, cells -/
namespace Run
open SP L2
open PySem (Str)
/-- a text of signs -/
def B (l : List Bool) : Str := ⟨(l.map fun b => if b then 49 else 48).toArray⟩
/-- the number a name is mixed to -/
def mx (n : Int) : Int := (171 * n + 37) % 256
/-- the last k signs of a number -/
def lo (x : Int) : Nat → List Bool
  | 0 => []
  | k + 1 => decide (x / 2 ^ k % 2 = 1) :: lo x k
/-- the signs of a name -/
def sg (n : Int) : List Bool := lo (mx n) 8
/-- a cell of the script -/
def cell (ns : List Int) (k : Int) : Int := ns.getD k.toNat 0
theorem B_length (l : List Bool) : (B l).length = l.length := by simp [B, Str.length]
theorem B_append (a b : List Bool) : B a ++ B b = B (a ++ b) := by
  show Str.mk ((a.map _).toArray ++ (b.map _).toArray) = _
  unfold B
  rw [List.map_append]
  try simp
theorem B_nil : ("" : Str) = B [] := by decide +kernel
theorem B_0 : ("0" : Str) = B [false] := by decide +kernel
theorem B_1 : ("1" : Str) = B [true] := by decide +kernel
theorem B_inj {a b : List Bool} : B a = B b ↔ a = b := by
  constructor
  · intro h
    unfold B at h
    injection h with h
    have h : (a.map fun b => if b then 49 else 48) = b.map fun b => if b then 49 else 48 := by simpa using h
    exact (List.map_inj_right (by intro x y; cases x <;> cases y <;> simp)).mp h
  · rintro rfl; rfl
theorem istr_bit (x : Int) (h0 : x = 0 ∨ x = 1) : istr x = B [decide (x = 1)] := by
  rcases h0 with rfl | rfl <;> decide +kernel
theorem istr_mod2 (x : Int) : istr (x % 2) = B [decide (x % 2 = 1)] := istr_bit _ (by omega)
theorem atI_nn {α : Type} {xs : List α} {k : Int} (h0 : 0 ≤ k) : atI xs k = xs[k.toNat]? := by
  unfold atI ixN
  rw [if_pos h0]
  by_cases h : k < xs.length
  · rw [if_pos h]; rfl
  · rw [if_neg h, List.getElem?_eq_none (by omega)]; rfl
theorem chars_B (l : List Bool) : chars (B l) = l.map fun b => .str (B [b]) := by
  unfold chars B
  simp
  try intro a _; cases a <;> rfl
/-! step by step -/
theorem run_go {n : Nat} {g : Rho → Fl} {ds : List D} {r : R D} (ha : allRo ds = true) (k : outF (g (env0 n ds)) = r) : runP n g ds = r := by
  unfold runP
  rw [if_pos ha]
  exact k
theorem seq_go {g1 g2 : Rho → Fl} {ρ ρ' : Rho} {r : R D} (h : g1 ρ = .nx ρ') (k : outF (g2 ρ') = r) : outF (sSeq g1 g2 ρ) = r := by
  rw [sSeq, h]
  exact k
theorem seq_out {g1 g2 : Rho → Fl} {ρ ρ' : Rho} {d : D} {r : R D} (h : g1 ρ = .rt d ρ') (k : .ok d = r) : outF (sSeq g1 g2 ρ) = r := by
  rw [sSeq, h]
  exact k
theorem if_go {c : Rho → R Bool} {g1 g2 g : Rho → Fl} {ρ : Rho} {b : Bool} {r : R D} (h : c ρ = .ok b) (k : outF (sSeq (if b = true then g1 else g2) g ρ) = r) : outF (sSeq (sIf c g1 g2) g ρ) = r := by
  rw [← k]
  unfold sSeq sIf
  rw [h]
  cases b <;> rfl
theorem seq_assoc {g1 g2 g3 : Rho → Fl} {ρ : Rho} : sSeq (sSeq g1 g2) g3 ρ = sSeq g1 (sSeq g2 g3) ρ := by
  unfold sSeq
  cases h : g1 ρ <;> rfl
/-! loops -/
theorem forGo_fold {α : Type} {i : Nat} {b : Rho → Fl} (mk : α → Option D → Rho) (step : α → P → α) (I : α → Prop) (hset : ∀ a o x, (mk a o).set i (some (.p x)) = mk a (some (.p x))) :
    ∀ (xs : List P) (a : α) (o : Option D), I a → (∀ a x, x ∈ xs → I a → b (mk a (some (.p x))) = .nx (mk (step a x) (some (.p x))) ∧ I (step a x)) → ∃ o', forGo i b xs (mk a o) = .nx (mk (xs.foldl step a) o') ∧ I (xs.foldl step a)
  | [], a, o, h, _ => ⟨o, rfl, h⟩
  | x :: r, a, o, h, hb => by
    obtain ⟨e, h1⟩ := hb a x List.mem_cons_self h
    obtain ⟨o', e', h2⟩ := forGo_fold mk step I hset r (step a x) (some (.p x)) h1 fun a y m => hb a y (List.mem_cons_of_mem _ m)
    exact ⟨o', by unfold forGo; rw [hset, e]; exact e', h2⟩
/-- a loop that leaves with an answer at the first item that fails -/
theorem forGo_all {i : Nat} {b : Rho → Fl} (mk : Option D → Rho) (p : P → Bool) (d : D) (hset : ∀ o x, (mk o).set i (some (.p x)) = mk (some (.p x))) :
    ∀ (xs : List P) (o : Option D), (∀ x, x ∈ xs → b (mk (some (.p x))) = if p x = true then .nx (mk (some (.p x))) else .rt d (mk (some (.p x)))) →
      ∃ o', forGo i b xs (mk o) = if xs.all p = true then .nx (mk o') else .rt d (mk o')
  | [], o, _ => ⟨o, rfl⟩
  | x :: r, o, hb => by
    have e := hb x List.mem_cons_self
    obtain ⟨o', e'⟩ := forGo_all mk p d hset r (some (.p x)) fun y m => hb y (List.mem_cons_of_mem _ m)
    unfold forGo
    rw [hset, e, List.all_cons]
    cases h : p x with
    | true => exact ⟨o', by simpa using e'⟩
    | false => exact ⟨some (.p x), by simp⟩
theorem forGo_allR {i : Nat} {b : Rho → Fl} {n : Nat} (mk : Option D → Rho) (p : Nat → Bool) (d : D) (o : Option D) (hset : ∀ o x, (mk o).set i (some (.p x)) = mk (some (.p x))) (hb : ∀ k, k < n → b (mk (some (.p (.int (k : Int))))) = if p k = true then .nx (mk (some (.p (.int (k : Int))))) else .rt d (mk (some (.p (.int (k : Int)))))) :
      ∃ o', forGo i b (SP.upTo n) (mk o) = if (List.range n).all p = true then .nx (mk o') else .rt d (mk o') := by
  obtain ⟨o', e⟩ := forGo_all (i := i) (b := b) mk (fun x => match x with | .int k => p k.toNat | _ => false) d hset (SP.upTo n) o fun x hx => by
    obtain ⟨k, hk, rfl⟩ := List.mem_map.mp hx
    simpa using hb k (List.mem_range.mp hk)
  refine ⟨o', e.trans ?_⟩
  have z : ((SP.upTo n).all fun x => match x with | .int k => p k.toNat | _ => false) = (List.range n).all p := by
    unfold SP.upTo
    rw [List.all_map]
    congr 1
  rw [z]
/-- such a loop, with slots that change -/
theorem forGo_allS {S : Type} {i : Nat} {b : Rho → Fl} (mk : S → Option D → Rho) (d : D) (hset : ∀ s o x, (mk s o).set i (some (.p x)) = mk s (some (.p x))) :
    ∀ (xs : List P) (p : P → Bool) (s : S) (o : Option D), (∀ x ∈ xs, ∀ s, ∃ s', b (mk s (some (.p x))) = if p x = true then .nx (mk s' (some (.p x))) else .rt d (mk s' (some (.p x)))) →
      ∃ s' o', forGo i b xs (mk s o) = if xs.all p = true then .nx (mk s' o') else .rt d (mk s' o')
  | [], _, s, o, _ => ⟨s, o, rfl⟩
  | x :: r, p, s, o, hb => by
    obtain ⟨s1, e⟩ := hb x List.mem_cons_self s
    obtain ⟨s', o', e'⟩ := forGo_allS mk d hset r p s1 (some (.p x)) fun y m => hb y (List.mem_cons_of_mem _ m)
    unfold forGo
    rw [hset, e, List.all_cons]
    cases h : p x with
    | true => exact ⟨s', o', by simpa using e'⟩
    | false => exact ⟨s1, some (.p x), by simp⟩
theorem forGo_allRS {S : Type} {i : Nat} {b : Rho → Fl} {n : Nat} (mk : S → Option D → Rho) (p : Nat → Bool) (d : D) (s : S) (o : Option D) (hset : ∀ s o x, (mk s o).set i (some (.p x)) = mk s (some (.p x)))
    (hb : ∀ k, k < n → ∀ s, ∃ s', b (mk s (some (.p (.int (k : Int))))) = if p k = true then .nx (mk s' (some (.p (.int (k : Int))))) else .rt d (mk s' (some (.p (.int (k : Int)))))) :
      ∃ s' o', forGo i b (SP.upTo n) (mk s o) = if (List.range n).all p = true then .nx (mk s' o') else .rt d (mk s' o') := by
  obtain ⟨s', o', e⟩ := forGo_allS (i := i) (b := b) mk d hset (SP.upTo n) (fun x => match x with | .int k => p k.toNat | _ => false) s o fun x hx s => by
    obtain ⟨k, hk, rfl⟩ := List.mem_map.mp hx
    simpa using hb k (List.mem_range.mp hk) s
  refine ⟨s', o', e.trans ?_⟩
  have z : ((SP.upTo n).all fun x => match x with | .int k => p k.toNat | _ => false) = (List.range n).all p := by
    unfold SP.upTo
    rw [List.all_map]
    congr 1
  rw [z]
theorem all_get {α : Type} [DecidableEq α] {l m : List α} (hl : l.length = m.length) : ((List.range m.length).all fun k => decide (l[k]? = m[k]?)) = decide (l = m) := by
  by_cases hh : l = m
  · subst hh; simp
  · rw [decide_eq_false hh]
    cases z : (List.range m.length).all fun k => decide (l[k]? = m[k]?) with
    | false => rfl
    | true =>
      simp at z
      exact absurd (List.ext_getElem? fun k => by
        by_cases hk : k < m.length
        · exact z k hk
        · rw [List.getElem?_eq_none (by omega), List.getElem?_eq_none (by omega)]) hh
/-- a loop whose state is known by the number of turns -/
theorem forGo_idx {i : Nat} {b : Rho → Fl} (mk : Nat → Option D → Rho) (xs : List P) (o : Option D) (hset : ∀ k o x, (mk k o).set i (some (.p x)) = mk k (some (.p x))) (hb : ∀ k x, xs[k]? = some x → b (mk k (some (.p x))) = .nx (mk (k + 1) (some (.p x)))) :
      ∃ o', forGo i b xs (mk 0 o) = .nx (mk xs.length o') := by
  have key : ∀ (r : List P) (k : Nat) (o : Option D), xs.drop k = r → ∃ o', forGo i b r (mk k o) = .nx (mk (k + r.length) o') := by
    intro r
    induction r with
    | nil => exact fun k o _ => ⟨o, rfl⟩
    | cons x r ih =>
      intro k o e
      have hk : xs[k]? = some x := by
        have := List.getElem?_drop (xs := xs) (i := k) (j := 0)
        rw [e] at this
        simpa using this.symm
      have hd : xs.drop (k + 1) = r := by
        rw [← List.drop_drop, e]; rfl
      obtain ⟨o', z⟩ := ih (k + 1) (some (.p x)) hd
      refine ⟨o', ?_⟩
      unfold forGo
      rw [hset, hb k x hk]
      rw [loop_nx, z]
      congr 2
      simp; omega
  obtain ⟨o', z⟩ := key xs 0 o rfl
  rw [Nat.zero_add] at z
  exact ⟨o', z⟩
theorem forGo_upTo {i : Nat} {b : Rho → Fl} {n : Nat} (mk : Nat → Option D → Rho) (o : Option D) (hset : ∀ k o x, (mk k o).set i (some (.p x)) = mk k (some (.p x))) (hb : ∀ k, k < n → b (mk k (some (.p (.int (k : Int))))) = .nx (mk (k + 1) (some (.p (.int (k : Int)))))) :
      ∃ o', forGo i b (SP.upTo n) (mk 0 o) = .nx (mk n o') := by
  obtain ⟨o', z⟩ := forGo_idx (i := i) (b := b) mk (SP.upTo n) o hset fun k x hx => by
    have hk : k < n := by
      have := (List.getElem?_eq_some_iff.mp hx).1
      rwa [upTo_length] at this
    rw [upTo_get hk] at hx
    cases hx
    exact hb k hk
  rw [upTo_length] at z
  exact ⟨o', z⟩
/-- the worths of eight places -/
theorem pow8 {k : Nat} (h : k < 8) : ([P.int 1, .int 2, .int 4, .int 8, .int 16, .int 32, .int 64, .int 128] : List P)[k]? = some (.int (2 ^ k)) := by
  match k, h with
  | 0, _ | 1, _ | 2, _ | 3, _ | 4, _ | 5, _ | 6, _ | 7, _ => rfl
theorem sign01 (x : Int) : atI (("01" : Str)).cps.toList (x % 2) = some (if x % 2 = 1 then 49 else 48) := by
  have h : x % 2 = 0 ∨ x % 2 = 1 := by omega
  rcases h with h | h <;> rw [h] <;> rfl
theorem B_one (b : Bool) : (⟨#[if b then 49 else 48]⟩ : Str) = B [b] := rfl
theorem B_oneP (c : Prop) [Decidable c] : (⟨#[if c then 49 else 48]⟩ : Str) = B [decide c] := by
  unfold B
  by_cases h : c <;> simp [h]
theorem bMulR {i j : Int} (h : -18446744073709551616 < j ∧ j < 18446744073709551616) : bMul i j = true := by
  rw [bMul_eq, decide_eq_true h.1, decide_eq_true h.2]
  simp
theorem bMulL {i j : Int} (h : -18446744073709551616 < i ∧ i < 18446744073709551616) : bMul i j = true := by
  rw [bMul_eq, decide_eq_true h.1, decide_eq_true h.2]
  simp
theorem len01 : (("01" : Str)).length = 2 := by decide +kernel
/-! comprehensions -/
theorem lcGo_map {α : Type} {own : List Nat} {i : Nat} {t : Rho → R Bool} {f : Rho → R D} {ρ : Rho} (enc : α → P) (p : α → Bool) (h : α → P) : ∀ l : List α, (∀ a ∈ l, t (lcEnv own i ρ (enc a)) = .ok (p a)) → (∀ a ∈ l, p a = true → fz f (lcEnv own i ρ (enc a)) = .ok (.p (h a))) →
    lcGo own i t f ρ (l.map enc) = some ((l.filter p).map h)
  | [], _, _ => rfl
  | a :: r, ht, hf => by
    have ih := lcGo_map (t := t) (f := f) enc p h r (fun b m => ht b (List.mem_cons_of_mem _ m)) (fun b m => hf b (List.mem_cons_of_mem _ m))
    rw [List.map_cons]
    unfold lcGo
    rw [ht a List.mem_cons_self]
    cases e : p a with
    | true =>
      have e2 := hf a List.mem_cons_self e
      simp only [e2]
      rw [ih, List.filter_cons_of_pos e]
      rfl
    | false =>
      simp only
      rw [ih, List.filter_cons_of_neg (by rw [e]; decide)]
theorem fLc_eq {α : Type} {own : List Nat} {i : Nat} {it : Rho → R D} {t : Rho → R Bool} {f : Rho → R D} {ρ : Rho} {d : D} {l : List α} (enc : α → P) (p : α → Bool) (h : α → P) (hi : fz it ρ = .ok d) (hd : itemsOf d = some (l.map enc)) (hl : l.length ≤ 16777216)
    (ht : ∀ a ∈ l, t (lcEnv own i ρ (enc a)) = .ok (p a)) (hf : ∀ a ∈ l, p a = true → fz f (lcEnv own i ρ (enc a)) = .ok (.p (h a))) : fLc own i it t f ρ = .ok (.hl .new ((l.filter p).map h)) := by
  unfold fLc
  rw [hi]
  simp only [bind_ok, hd]
  rw [if_pos (by rw [List.length_map]; exact hl), lcGo_map enc p h l ht hf]
  rfl
/-- without an if -/
theorem fLc_all {α : Type} {own : List Nat} {i : Nat} {it : Rho → R D} {f : Rho → R D} {ρ : Rho} {d : D} {l : List α} (enc : α → P) (h : α → P) (hi : fz it ρ = .ok d) (hd : itemsOf d = some (l.map enc)) (hl : l.length ≤ 16777216)
    (hf : ∀ a ∈ l, fz f (lcEnv own i ρ (enc a)) = .ok (.p (h a))) : fLc own i it tYesF f ρ = .ok (.hl .new (l.map h)) := by
  rw [fLc_eq enc (fun _ => true) h hi hd hl (fun _ _ => rfl) fun a m _ => hf a m]
  rw [List.filter_eq_self.mpr (fun _ _ => rfl)]
theorem fLcR_eq {own : List Nat} {i : Nat} {fs : Rho → R (List D)} {t : Rho → R Bool} {f : Rho → R D} {ρ : Rho} {ds : List D} {n : Nat} (p : Nat → Bool) (h : Nat → P) (hi : fs ρ = .ok ds) (hd : rangeOf ds = some n)
    (ht : ∀ a < n, t (lcEnv own i ρ (.int (a : Int))) = .ok (p a)) (hf : ∀ a < n, p a = true → fz f (lcEnv own i ρ (.int (a : Int))) = .ok (.p (h a))) : fLcR own i fs t f ρ = .ok (.hl .new (((List.range n).filter p).map h)) := by
  unfold fLcR
  rw [hi]
  simp only [bind_ok, hd]
  unfold SP.upTo
  rw [lcGo_map (fun j : Nat => .int (j : Int)) p h (List.range n) (fun a m => ht a (List.mem_range.mp m)) fun a m => hf a (List.mem_range.mp m)]
  rfl
theorem fLcR_all {own : List Nat} {i : Nat} {fs : Rho → R (List D)} {f : Rho → R D} {ρ : Rho} {ds : List D} {n : Nat} (h : Nat → P) (hi : fs ρ = .ok ds) (hd : rangeOf ds = some n)
    (hf : ∀ a < n, fz f (lcEnv own i ρ (.int (a : Int))) = .ok (.p (h a))) : fLcR own i fs tYesF f ρ = .ok (.hl .new ((List.range n).map h)) := by
  rw [fLcR_eq (fun _ => true) h hi hd (fun _ _ => rfl) fun a m _ => hf a m]
  rw [List.filter_eq_self.mpr (fun _ _ => rfl)]
theorem range_nat {n : Nat} (h : n ≤ 16777216) : rangeOf [.p (.int (n : Int))] = some n := by
  show (if inRg (n : Int) = true then some ((n : Int).toNat) else none) = some n
  rw [inRg_eq, if_pos (decide_eq_true (by omega))]
  rfl
theorem range_int {n : Int} (h0 : 0 ≤ n) (h : n ≤ 16777216) : rangeOf [.p (.int n)] = some n.toNat := by
  show (if inRg n = true then some (n.toNat) else none) = some n.toNat
  rw [inRg_eq, if_pos (decide_eq_true (by omega))]
/-! equality of data -/
/-- data of texts, whole numbers, None, lists and tuples of them, n deep at most -/
def gd : Nat → P → Bool
  | _, .int _ => true
  | _, .non => true
  | _, .str s => PySem.PyData.strOk s
  | n + 1, .lst xs => xs.all (gd n)
  | n + 1, .tup xs => xs.all (gd n)
  | _, _ => false
theorem pyL_map : ∀ xs : List P, P.pyL xs = xs.map P.py
  | [] => rfl
  | x :: r => by unfold P.pyL; rw [pyL_map r]; rfl
theorem lay_all : ∀ {xs : List P}, (∀ x ∈ xs, x.py.canLay0 = true) → PySem.PyData.canLayAll0 (P.pyL xs) = true
  | [], _ => rfl
  | x :: r, h => by
    show (x.py.canLay0 && PySem.PyData.canLayAll0 (P.pyL r)) = true
    rw [h x List.mem_cons_self, lay_all fun y m => h y (List.mem_cons_of_mem _ m)]
    rfl
theorem depth_all {n : Nat} : ∀ {xs : List P}, (∀ x ∈ xs, x.py.depth ≤ n) → PySem.PyData.depthAll (P.pyL xs) ≤ n
  | [], _ => Nat.zero_le _
  | x :: r, h => by
    show max x.py.depth (PySem.PyData.depthAll (P.pyL r)) ≤ n
    exact Nat.max_le.mpr ⟨h x List.mem_cons_self, depth_all fun y m => h y (List.mem_cons_of_mem _ m)⟩
theorem gd_spec : ∀ (n : Nat) (x : P), gd n x = true → x.py.canLay0 = true ∧ x.py.depth ≤ n
  | _, .int _, _ => ⟨rfl, Nat.zero_le _⟩
  | _, .non, _ => ⟨rfl, Nat.zero_le _⟩
  | n, .str s, h => ⟨by cases n <;> exact h, Nat.zero_le _⟩
  | n + 1, .lst xs, h => by
    have z := fun x m => gd_spec n x (List.all_eq_true.mp (show xs.all (gd n) = true from h) x m)
    exact ⟨lay_all fun x m => (z x m).1, Nat.succ_le_succ (depth_all fun x m => (z x m).2)⟩
  | n + 1, .tup xs, h => by
    have z := fun x m => gd_spec n x (List.all_eq_true.mp (show xs.all (gd n) = true from h) x m)
    exact ⟨lay_all fun x m => (z x m).1, Nat.succ_le_succ (depth_all fun x m => (z x m).2)⟩
  | 0, .lst _, h => by cases h
  | 0, .tup _, h => by cases h
  | 0, .bl _, h => by cases h
  | _ + 1, .bl _, h => by cases h
  | 0, .scr _, h => by cases h
  | _ + 1, .scr _, h => by cases h
theorem eqv_all {n : Nat} (ih : ∀ x y, gd n x = true → gd n y = true → (PySem.PyData.eqv x.py y.py = true ↔ x = y)) : ∀ xs ys : List P, xs.all (gd n) = true → ys.all (gd n) = true → (PySem.PyData.eqvAll (P.pyL xs) (P.pyL ys) = true ↔ xs = ys)
  | [], [], _, _ => by simp [P.pyL, PySem.PyData.eqvAll]
  | [], _ :: _, _, _ => by simp [P.pyL, PySem.PyData.eqvAll]
  | _ :: _, [], _, _ => by simp [P.pyL, PySem.PyData.eqvAll]
  | x :: xs, y :: ys, hx, hy => by
    rw [List.all_cons, Bool.and_eq_true] at hx hy
    show (PySem.PyData.eqv x.py y.py && PySem.PyData.eqvAll (P.pyL xs) (P.pyL ys)) = true ↔ _
    rw [Bool.and_eq_true, ih x y hx.1 hy.1, eqv_all ih xs ys hx.2 hy.2]
    simp
theorem gd_eq : ∀ (n : Nat) (x y : P), gd n x = true → gd n y = true → (PySem.PyData.eqv x.py y.py = true ↔ x = y) := by
  intro n
  induction n with
  | zero =>
    intro x y hx hy
    cases x <;> cases y <;> first | (cases hx; done) | (cases hy; done) | simp [P.py, PySem.PyData.eqv]
  | succ n ih =>
    intro x y hx hy
    cases x with
    | lst xs =>
      cases y with
      | lst ys =>
        show PySem.PyData.eqvAll (P.pyL xs) (P.pyL ys) = true ↔ _
        rw [eqv_all ih xs ys hx hy]
        simp
      | bl b => cases hy
      | scr b => cases hy
      | _ => simp [P.py, PySem.PyData.eqv]
    | tup xs =>
      cases y with
      | tup ys =>
        show PySem.PyData.eqvAll (P.pyL xs) (P.pyL ys) = true ↔ _
        rw [eqv_all ih xs ys hx hy]
        simp
      | bl b => cases hy
      | scr b => cases hy
      | _ => simp [P.py, PySem.PyData.eqv]
    | bl b => cases hx
    | scr b => cases hx
    | _ =>
      cases y with
      | bl b => cases hy
      | scr b => cases hy
      | _ => simp [P.py, PySem.PyData.eqv]
theorem shaped_gd {n : Nat} {x : P} (h : gd n x = true) (hn : n ≤ 64) : PySem.SeqAt.shaped x.py = true := by
  have z := gd_spec n x h
  unfold PySem.SeqAt.shaped
  rw [z.1, decide_eq_true (Nat.le_trans z.2 hn)]
  rfl
/-- == of two lists of data, frozen or not -/
theorem cEq_ls {d e : D} {xs ys : List P} (hd : d.ls = some xs) (he : e.ls = some ys) (gx : xs.all (gd 40) = true) (gy : ys.all (gd 40) = true) {b : Bool} (hb : xs = ys ↔ b = true) : cEq d e = some b := by
  have ed : d.py = some (.list (P.pyL xs)) := by
    cases d with
    | p x => cases x <;> first | (cases hd; rfl) | cases hd
    | hl m x => cases hd; rfl
    | _ => cases hd
  have ee : e.py = some (.list (P.pyL ys)) := by
    cases e with
    | p x => cases x <;> first | (cases he; rfl) | cases he
    | hl m x => cases he; rfl
    | _ => cases he
  have hx : gd 41 (.lst xs) = true := gx
  have hy : gd 41 (.lst ys) = true := gy
  have sx := shaped_gd hx (by omega)
  have sy := shaped_gd hy (by omega)
  have q : cEq d e = match d.py, e.py with
    | some x, some y => if (PySem.SeqAt.shaped x && PySem.SeqAt.shaped y) = true then some (PySem.PyData.eqv x y) else none
    | _, _ => none := by
    unfold cEq
    split <;> first | rfl | (cases hd; done) | (cases he; done)
  have sx' : PySem.SeqAt.shaped (.list (P.pyL xs)) = true := sx
  have sy' : PySem.SeqAt.shaped (.list (P.pyL ys)) = true := sy
  rw [q, ed, ee]
  simp only [sx', sy', Bool.and_self, if_true]
  congr 1
  have w := gd_eq 41 (.lst xs) (.lst ys) hx hy
  have w : PySem.PyData.eqv (.list (P.pyL xs)) (.list (P.pyL ys)) = true ↔ b = true := by
    refine (w : PySem.PyData.eqv (.list (P.pyL xs)) (.list (P.pyL ys)) = true ↔ _).trans ?_
    rw [← hb]
    simp
  cases z : PySem.PyData.eqv (.list (P.pyL xs)) (.list (P.pyL ys)) <;> cases b <;> simp_all
theorem strOk_B (l : List Bool) : PySem.PyData.strOk (B l) = true := by
  unfold PySem.PyData.strOk B
  simp
  try (intro b _; cases b <;> simp)
/-! sorted -/
theorem le_int (a b : Int) : PySem.W.dataLe false P.py (.int a) (.int b) = decide (a ≤ b) := by
  show (!(decide (b < a) || (!decide (a < b) && false))) = _
  by_cases h : a ≤ b
  · simp [h, show ¬ b < a by omega]
  · simp [h, show b < a by omega]
theorem map_msort {α : Type} (f : α → P) (le : α → α → Bool) (h : ∀ a b, PySem.W.dataLe false P.py (f a) (f b) = le a b) (l : List α) : sortP (l.map f) = (l.mergeSort le).map f := by
  unfold sortP
  exact (List.map_mergeSort (fun a _ b _ => (h a b).symm)).symm
theorem sortP_ints (l : List Int) : sortP (l.map P.int) = (l.mergeSort fun a b => decide (a ≤ b)).map P.int := map_msort P.int _ le_int l
theorem sortOk_ints (l : List Int) : sortOk (l.map P.int) = true := by
  unfold sortOk
  simp [P.py, PySem.W.alike, isScal, PySem.PyData.depth]
theorem msort_ints {l : List Int} (h : l.Nodup) : (l.mergeSort fun a b => decide (a ≤ b)).Pairwise (· < ·) := by
  have h1 : (l.mergeSort fun a b => decide (a ≤ b)).Pairwise (fun a b => decide (a ≤ b) = true) := List.pairwise_mergeSort (fun a b c h1 h2 => by simp at *; omega) (fun a b => by simp; omega) l
  have h2 : (l.mergeSort fun a b => decide (a ≤ b)).Nodup := (List.mergeSort_perm l _).nodup_iff.mpr h
  exact (h1.and h2).imp fun {a b} z => by
    have := of_decide_eq_true z.1
    have := z.2
    omega
/-! slices -/
theorem sIx_nn {n d : Nat} {k : Int} (h : 0 ≤ k) : HT.sIx n d (some k) = min k.toNat n := by
  show (if k < 0 then (k + (n : Int)).toNat else min k.toNat n) = min k.toNat n
  rw [if_neg (by omega)]
theorem sIx_last {n d : Nat} : HT.sIx n d (some (-1)) = n - 1 := by
  show (if (-1 : Int) < 0 then (-1 + (n : Int)).toNat else min (-1 : Int).toNat n) = n - 1
  rw [if_pos (by omega)]
  omega
theorem take_min' {α : Type} (l : List α) (k : Nat) : l.take (min k l.length) = l.take k := by
  by_cases h : k ≤ l.length
  · rw [Nat.min_eq_left h]
  · rw [Nat.min_eq_right (by omega), List.take_of_length_le (Nat.le_refl _), List.take_of_length_le (by omega)]
theorem drop_min' {α : Type} (l : List α) (k : Nat) : l.drop (min k l.length) = l.drop k := by
  by_cases h : k ≤ l.length
  · rw [Nat.min_eq_left h]
  · rw [Nat.min_eq_right (by omega), List.drop_of_length_le (Nat.le_refl _), List.drop_of_length_le (by omega)]
theorem cutL_to {α : Type} (l : List α) {k : Int} (h : 0 ≤ k) : cutL l none (some k) = l.take k.toNat := by
  unfold cutL
  rw [sIx_nn h]
  show (l.drop 0).take (min k.toNat l.length - 0) = _
  rw [List.drop_zero, Nat.sub_zero, take_min']
theorem cutL_from {α : Type} (l : List α) {k : Int} (h : 0 ≤ k) : cutL l (some k) none = l.drop k.toNat := by
  unfold cutL
  rw [sIx_nn h]
  show (l.drop (min k.toNat l.length)).take (l.length - min k.toNat l.length) = _
  rw [List.take_of_length_le (by rw [List.length_drop]; exact Nat.le_refl _), drop_min']
theorem cutL_last {α : Type} (l : List α) : cutL l (some (-1)) none = l.drop (l.length - 1) := by
  unfold cutL
  rw [sIx_last]
  show (l.drop (l.length - 1)).take (l.length - (l.length - 1)) = _
  rw [List.take_of_length_le (by rw [List.length_drop]; exact Nat.le_refl _)]
theorem cutL_init {α : Type} (l : List α) : cutL l none (some (-1)) = l.dropLast := by
  unfold cutL
  rw [sIx_last]
  show (l.drop 0).take (l.length - 1 - 0) = _
  rw [List.drop_zero, Nat.sub_zero, List.dropLast_eq_take]
theorem cutL_map {α β : Type} (f : α → β) (l : List α) (lo hi : Option Int) : cutL (l.map f) lo hi = (cutL l lo hi).map f := by
  unfold cutL
  rw [List.length_map, List.map_take, List.map_drop]
theorem cutS_B (l : List Bool) (lo hi : Option Int) : cutS (B l) lo hi = B (cutL l lo hi) := by
  unfold cutS cutL B
  simp [Str.length]
theorem gMax_ints {ns : List Int} (h : 0 < ns.length) : gMax [.p (.lst (ns.map P.int))] = .ok (.p (.int (maxI ns))) := by
  unfold gMax
  simp only [ls_p, ints_map]
  rw [if_pos h]
theorem mod_nat {x : Int} {n : Nat} (h : 0 < n) : ∃ k : Nat, x % (n : Int) = (k : Int) ∧ k < n := by
  have h1 : 0 ≤ x % (n : Int) := Int.emod_nonneg _ (by omega)
  have h2 : x % (n : Int) < n := Int.emod_lt_of_pos _ (by omega)
  exact ⟨(x % (n : Int)).toNat, (Int.toNat_of_nonneg h1).symm, by omega⟩
theorem atI_map' {α : Type} (f : α → P) {l : List α} {k : Nat} {s : α} (h : l[k]? = some s) : atI (l.map f) (k : Int) = some (f s) := by
  rw [atI_nn (by omega), Int.toNat_natCast, List.getElem?_map, h]; rfl
/-! isinstance -/
@[simp] theorem isi_bool_bool (i : Bool) : gIsi "bool" (.p (.bl i)) = .ok (.p (.bl true)) := by unfold gIsi tyName; simp [kitB_tab]
@[simp] theorem isi_int_str (i : Int) : gIsi "str" (.p (.int i)) = .ok (.p (.bl false)) := by unfold gIsi tyName; simp [kitB_tab]
@[simp] theorem isi_bool_int (i : Bool) : gIsi "int" (.p (.bl i)) = .ok (.p (.bl true)) := by unfold gIsi tyName; simp [kitB_tab]
@[simp] theorem isi_str_int (i : Str) : gIsi "int" (.p (.str i)) = .ok (.p (.bl false)) := by unfold gIsi tyName; simp [kitB_tab]
@[simp] theorem isi_str_bool (i : Str) : gIsi "bool" (.p (.str i)) = .ok (.p (.bl false)) := by unfold gIsi tyName; simp [kitB_tab]
@[simp] theorem isi_non_int : gIsi "int" (.p .non) = .ok (.p (.bl false)) := by unfold gIsi tyName; simp [kitB_tab]
@[simp] theorem isi_non_str : gIsi "str" (.p .non) = .ok (.p (.bl false)) := by unfold gIsi tyName; simp [kitB_tab]
@[simp] theorem isi_non_bool : gIsi "bool" (.p .non) = .ok (.p (.bl false)) := by unfold gIsi tyName; simp [kitB_tab]
/-- the cells of a script -/
theorem F_cell_gen {g : Rho → Fl} (hg : g = (sSeq (sIf (cT cLt (fV 1) (fA gLen (aC (fV 0) aN))) (sRet (f2 gIx (fV 0) (fV 1))) sNext) (sRet (fC (.int 0))))) {ns : List Int} {k : Int} (h0 : 0 ≤ k) : runP 2 g [.p (.scr ns), .p (.int k)] = .ok (.p (.int (cell ns k))) := by
  subst hg
  simp [runP, runF, env0, atI_nn h0]
  split
  · rename_i h
    have hk : k.toNat < ns.length := by omega
    simp [cell, List.getElem?_eq_getElem hk, hk]
  · rename_i h
    simp [cell, List.getElem?_eq_none (show ns.length ≤ k.toNat by omega)]
end Run
/-! the things of a room -/
namespace Run
open SP L2
open PySem (Str)
theorem F_cell {ns : List Int} {k : Int} (h0 : 0 ≤ k) : F_l_cell_at [.p (.scr ns), .p (.int k)] = .ok (.p (.int (cell ns k))) := F_cell_gen rfl h0
abbrev Th := Int × Int
/-- a thing as a tuple -/
def tp (t : Th) : P := .tup [.int t.1, .int t.2]
@[simp] theorem tp_0 (t : Th) : gIx (.p (tp t)) (.p (.int 0)) = .ok (.p (.int t.1)) := rfl
@[simp] theorem tp_1 (t : Th) : gIx (.p (tp t)) (.p (.int 1)) = .ok (.p (.int t.2)) := rfl
@[simp] theorem tp_mk (n v : Int) : SP.gTup [.p (.int n), .p (.int v)] = .ok (.p (tp (n, v))) := by simp [SP.gTup, tp]
@[simp] theorem tp_siz (t : Th) : D.siz (.p (tp t)) = some 2 := rfl
@[simp] theorem tp_isi (t : Th) : gIsi "tuple" (.p (tp t)) = .ok (.p (.bl true)) := isi_tup _
theorem tp_inj {a b : Th} : tp a = tp b ↔ a = b := by
  constructor
  · intro h
    unfold tp at h
    injection h with h
    injection h with h1 h2
    injection h2 with h2
    injection h1 with h1
    injection h2 with h2
    exact Prod.ext h1 h2
  · rintro rfl; rfl
/-- an argument that is a list -/
def IsL (d : D) (xs : List P) : Prop := d = .p (.lst xs) ∨ d = .hl .ro xs
section
variable {d : D} {xs : List P} (h : IsL d xs)
include h
theorem ix_ls (k : Int) : gIx d (.p (.int k)) = oP (atI xs k) := by rcases h with rfl | rfl <;> rfl
theorem siz_ls : d.siz = some xs.length := by rcases h with rfl | rfl <;> rfl
theorem seen_ls : d.seen = .ok d := by rcases h with rfl | rfl <;> rfl
theorem frz_ls : d.frz = .ok d := by rcases h with rfl | rfl <;> rfl
theorem ro_ls : d.isRo = true := by rcases h with rfl | rfl <;> rfl
theorem isi_ls : gIsi "list" d = .ok (.p (.bl true)) := by rcases h with rfl | rfl <;> simp
end
/-- things with one more -/
def wt (ts : List Th) (n v : Int) : List Th := ts.filter (fun t => decide (t.1 < n)) ++ (n, v) :: ts.filter (fun t => decide (n < t.1))
/-- names rise -/
def Rise (ts : List Th) : Prop := ts.Pairwise fun a b => a.1 < b.1
theorem with_go (n v : Int) : ∀ (ts : List Th) (acc : List Th) (b : Bool) (a : Option D) (o : Option D), Rise ts → (b = true → ∀ t ∈ ts, n < t.1) → acc.length + ts.length + (if b = true then 0 else 1) ≤ 16777216 →
    ∃ o' b', forGo 5 (sSeq (sIf (tAndF (tNotF (tV (fV 4))) (cT cGe (f2 gIx (fV 5) (fC (.int 0))) (fV 1))) (sSeq (sApp 3 (fA SP.gTup (aC (fV 1) (aC (fV 2) aN))))
  (sAsg 4 false (fC (.bl true)))) sNext)
  (sIf (cT cNe (f2 gIx (fV 5) (fC (.int 0))) (fV 1)) (sApp 3 (fV 5)) sNext)) (ts.map tp) [a, some (.p (.int n)), some (.p (.int v)), some (.hl .own (acc.map tp)), some (.p (.bl b)), o] =
      .nx [a, some (.p (.int n)), some (.p (.int v)), some (.hl .own ((if b' = true then (if b = true then acc ++ ts else acc ++ wt ts n v) else acc ++ ts).map tp)), some (.p (.bl b')), o'] ∧ (b = true → b' = true) ∧ (b' = false → ∀ t ∈ ts, t.1 < n)
  | [], acc, b, a, o, _, _, _ => by
    refine ⟨o, b, ?_, id, fun _ t m => absurd m (by simp)⟩
    cases b <;> simp [forGo]
  | t :: ts, acc, b, a, o, hr, hb, hl => by
    have hr' := List.pairwise_cons.mp hr
    have hr1 : ∀ u ∈ ts, t.1 < u.1 := fun u m => hr'.1 u m
    rw [List.length_cons] at hl
    rw [List.map_cons]
    unfold forGo
    cases b with
    | true =>
      simp at hl
      have ht := hb rfl t List.mem_cons_self
      obtain ⟨o', b', e, k1, k2⟩ := with_go n v ts (acc ++ [t]) true a (some (.p (tp t))) hr'.2 (fun _ u m => hb rfl u (List.mem_cons_of_mem _ m)) (by simp; omega)
      have hb' := k1 rfl
      subst hb'
      simp at e
      refine ⟨o', true, ?_, fun _ => rfl, fun z => by cases z⟩
      have hne : ¬ t.1 = n := by omega
      simp [hne]
      rw [if_pos (by omega)]
      simp [e]
    | false =>
      simp at hl
      by_cases c1 : n ≤ t.1
      · by_cases c2 : t.1 = n
        · obtain ⟨o', b', e, k1, k2⟩ := with_go n v ts (acc ++ [(n, v)]) true a (some (.p (tp t))) hr'.2 (fun _ u m => by have := hr1 u m; omega) (by simp; omega)
          have hb' := k1 rfl
          subst hb'
          simp at e
          refine ⟨o', true, ?_, fun _ => rfl, fun z => by cases z⟩
          have w : wt (t :: ts) n v = (n, v) :: ts := by
            unfold wt
            rw [List.filter_cons_of_neg (by simp; omega), List.filter_cons_of_neg (by simp; omega), List.filter_eq_nil_iff.mpr (fun u m => by have := hr1 u m; simp; omega), List.filter_eq_self.mpr (fun u m => by have := hr1 u m; simp; omega)]
            rfl
          simp [c1, c2, w]
          rw [if_pos (by omega)]
          simp [e]
        · obtain ⟨o', b', e, k1, k2⟩ := with_go n v ts (acc ++ [(n, v), t]) true a (some (.p (tp t))) hr'.2 (fun _ u m => by have := hr1 u m; omega) (by simp; omega)
          have hb' := k1 rfl
          subst hb'
          simp at e
          refine ⟨o', true, ?_, fun _ => rfl, fun z => by cases z⟩
          have w : wt (t :: ts) n v = (n, v) :: t :: ts := by
            unfold wt
            rw [List.filter_cons_of_neg (by simp; omega), List.filter_cons_of_pos (by simp; omega), List.filter_eq_nil_iff.mpr (fun u m => by have := hr1 u m; simp; omega), List.filter_eq_self.mpr (fun u m => by have := hr1 u m; simp; omega)]
            rfl
          simp [c1, c2, w]
          rw [if_pos (by omega)]
          rw [if_pos (by omega)]
          simp [e]
      · obtain ⟨o', b', e, k1, k2⟩ := with_go n v ts (acc ++ [t]) false a (some (.p (tp t))) hr'.2 (fun z => by cases z) (by simp; omega)
        simp at e
        have c2 : ¬ t.1 = n := by omega
        have k3 : b' = false → ∀ u ∈ t :: ts, u.1 < n := fun z u m => by
          rcases List.mem_cons.mp m with rfl | m
          · omega
          · exact k2 z u m
        refine ⟨o', b', ?_, (fun z => by cases z), k3⟩
        have w : wt (t :: ts) n v = t :: wt ts n v := by
          unfold wt
          rw [List.filter_cons_of_pos (by simp; omega), List.filter_cons_of_neg (by simp; omega)]
          rfl
        simp [c1, c2, w]
        rw [if_pos (by omega)]
        simp [e]
theorem F_with_ok {d : D} {ts : List Th} {n v : Int} (hd : IsL d (ts.map tp)) (hr : Rise ts) (hl : ts.length ≤ 100000) : F_with_thing [d, .p (.int n), .p (.int v)] = .ok (.hl .new ((wt ts n v).map tp)) := by
  obtain ⟨o', b', e, k1, k2⟩ := with_go n v ts [] false (some d) none hr (fun z => by cases z) (by simp; omega)
  simp at e
  refine run_go (by simp [ro_ls hd]) ?_
  unfold g_with_thing
  refine seq_go (by simp [env0, SP.gLst]; rfl) ?_
  refine seq_go (by simp; rfl) ?_
  refine seq_go (ρ' := [some d, some (.p (.int n)), some (.p (.int v)), some (.hl .own ((if b' = true then wt ts n v else ts).map tp)), some (.p (.bl b')), o']) (by
    rw [sForV]
    rcases hd with rfl | rfl
    · simp [e]
    · simp [e]) ?_
  cases b' with
  | true => simp
  | false =>
    have w : wt ts n v = ts ++ [(n, v)] := by
      unfold wt
      rw [List.filter_eq_self.mpr (fun u m => by simpa using k2 rfl u m), List.filter_eq_nil_iff.mpr (fun u m => by have := k2 rfl u m; simp; omega)]
    simp [w]
    omega
def wo (ts : List Th) (n : Int) : List Th := ts.filter fun t => !decide (t.1 = n)
theorem F_without_ok {d : D} {ts : List Th} {n : Int} (hd : IsL d (ts.map tp)) (hl : ts.length ≤ 100000) : F_without_thing [d, .p (.int n)] = .ok (.hl .new ((wo ts n).map tp)) := by
  refine run_go (by simp [ro_ls hd]) ?_
  unfold g_without_thing
  rw [sRet, fLc_eq (d := d) (l := ts) tp (fun t => !decide (t.1 = n)) tp (by simp [env0, seen_ls hd, frz_ls hd]) (by rcases hd with rfl | rfl <;> rfl) (by omega) (fun t _ => by by_cases h : t.1 = n <;> simp [env0, lcEnv, wipeE, h]) (fun t _ _ => by simp [env0, lcEnv, wipeE])]
  simp [wo]
def vi (ts : List Th) (n : Int) : P := match ts.find? fun t => decide (t.1 = n) with
  | some t => .int t.2
  | none => .non
theorem value_go (n : Int) (a : Option D) : ∀ (ts : List Th) (o : Option D), ∃ o', forGo 2 (sIf (cT cEq (f2 gIx (fV 2) (fC (.int 0))) (fV 1)) (sRet (f2 gIx (fV 2) (fC (.int 1)))) sNext) (ts.map tp) [a, some (.p (.int n)), o] =
    match ts.find? fun t => decide (t.1 = n) with
    | some t => .rt (.p (.int t.2)) [a, some (.p (.int n)), o']
    | none => .nx [a, some (.p (.int n)), o']
  | [], o => ⟨o, rfl⟩
  | t :: ts, o => by
    rw [List.map_cons]
    unfold forGo
    by_cases h : t.1 = n
    · exact ⟨some (.p (tp t)), by simp [h]⟩
    · obtain ⟨o', e⟩ := value_go n a ts (some (.p (tp t)))
      refine ⟨o', ?_⟩
      simp at e
      simp [h, e]
theorem F_value_in_ok {d : D} {ts : List Th} {n : Int} (hd : IsL d (ts.map tp)) : F_value_in [d, .p (.int n)] = .ok (.p (vi ts n)) := by
  obtain ⟨o', e⟩ := value_go n (some d) ts none
  simp at e
  refine run_go (by simp [ro_ls hd]) ?_
  unfold g_value_in
  rw [sSeq, sForV]
  have e' : forV 2 (sIf (cT cEq (f2 gIx (fV 2) (fC (.int 0))) (fV 1)) (sRet (f2 gIx (fV 2) (fC (.int 1)))) sNext) (env0 3 [d, .p (.int n)]) (some (some d)) = match ts.find? fun t => decide (t.1 = n) with
    | some t => .rt (.p (.int t.2)) [some d, some (.p (.int n)), o']
    | none => .nx [some d, some (.p (.int n)), o'] := by
    rcases hd with rfl | rfl
    · exact e
    · exact e
  have e2 : (env0 3 [d, .p (.int n)])[0]? = some (some d) := rfl
  rw [e2, e']
  unfold vi
  cases ts.find? fun t => decide (t.1 = n) <;> simp
theorem F_whole_int (i : Int) : F_l_whole [.p (.int i)] = .ok (.p (.bl true)) := by simp [F_l_whole, runP, runF, env0, g_l_whole]
theorem F_whole_non : F_l_whole [.p .non] = .ok (.p (.bl false)) := by simp [F_l_whole, runP, runF, env0, g_l_whole]
theorem atI_th {l : List Th} {k : Nat} {s : Th} (h : l[k]? = some s) : atI (l.map tp) (k : Int) = some (tp s) := by
  rw [atI_nn (by omega), Int.toNat_natCast, List.getElem?_map, h]; rfl
theorem F_alike_ok {d e : D} {l m : List Th} (hd : IsL d (l.map tp)) (he : IsL e (m.map tp)) (h : m.length ≤ 100000) : F_l_alike [d, e] = .ok (.p (.bl (decide (l = m)))) := by
  refine run_go (by simp [ro_ls hd, ro_ls he]) ?_
  unfold g_l_alike
  by_cases hl : l.length = m.length
  · refine seq_go (by simp [env0, seen_ls hd, frz_ls hd, siz_ls hd, seen_ls he, frz_ls he, siz_ls he, isi_ls hd, hl]; rfl) ?_
    obtain ⟨s', o', e'⟩ := forGo_allRS (i := 2) (n := m.length) (b := (sSeq (sAsg 3 false (f2 gIx (fV 0) (fV 2)))
  (sSeq (sIf (tOrF (tNotF (tV (f1 (gIsi "tuple") (fV 3)))) (tOrF (cT cNe (fA gLen (aC (fV 3) aN)) (fC (.int 2))) (tOrF (tNotF (tV (fCall 1 F_l_whole (aC (f2 gIx (fV 3) (fC (.int 0))) aN)))) (tNotF (tV (fCall 1 F_l_whole (aC (f2 gIx (fV 3) (fC (.int 1))) aN))))))) (sRet (fC (.bl false))) sNext)
  (sIf (tOrF (cT cNe (f2 gIx (fV 3) (fC (.int 0))) (f2 gIx (f2 gIx (fV 1) (fV 2)) (fC (.int 0)))) (cT cNe (f2 gIx (fV 3) (fC (.int 1))) (f2 gIx (f2 gIx (fV 1) (fV 2)) (fC (.int 1))))) (sRet (fC (.bl false))) sNext))))
      (fun (s : Option D) o => [some d, some e, o, s]) (fun k => decide (l[k]? = m[k]?)) (.p (.bl false)) none none (fun _ _ _ => rfl) (fun k hk s => by
        have hk' : k < l.length := by omega
        have g1 := atI_th (List.getElem?_eq_getElem hk')
        have g2 := atI_th (List.getElem?_eq_getElem hk)
        refine ⟨some (.p (tp l[k])), ?_⟩
        simp [seen_ls hd, frz_ls hd, ix_ls hd, seen_ls he, frz_ls he, ix_ls he, g1, g2, hk, hk', F_whole_int]
        by_cases h1 : l[k].1 = m[k].1
        · by_cases h2 : l[k].2 = m[k].2
          · have : l[k] = m[k] := Prod.ext h1 h2
            simp [h1, h2, this]
          · have : ¬ l[k] = m[k] := fun z => h2 (by rw [z])
            simp [h1, h2, this]
        · have : ¬ l[k] = m[k] := fun z => h1 (by rw [z])
          simp [h1, this])
    rw [all_get hl] at e'
    rw [sSeq, sForR]
    simp [seen_ls he, frz_ls he, siz_ls he, range_nat (show m.length ≤ 16777216 by omega)]
    simp at e'
    rw [e']
    by_cases hh : l = m <;> simp [hh]
  · have : ¬ l = m := fun z => hl (by rw [z])
    have hl2 : ¬ (l.length : Int) = m.length := by omega
    exact seq_out (by simp [env0, seen_ls hd, frz_ls hd, siz_ls hd, seen_ls he, frz_ls he, siz_ls he, isi_ls hd, hl2]; exact ⟨rfl, rfl⟩) (by simp [this])
end Run
/-! signs of names, the names of a text of signs -/
namespace Run
open SP L2
open PySem (Str)
theorem F_need {n : Int} (h0 : 0 ≤ n) (h1 : n < 256) : F_need_name [.p (.int n)] = .ok (.p (.int n)) := by
  simp [F_need_name, runP, runF, env0, g_need_name]
  rw [if_neg (by omega), if_neg (by omega)]
theorem F_mixed_ok {n : Int} (h0 : 0 ≤ n) (h1 : n < 256) : F_mixed [.p (.int n)] = .ok (.p (.int (mx n))) := by
  simp [F_mixed, runP, runF, env0, g_mixed, F_need h0 h1, mx]
theorem bit_small (x : Int) : (x % 2).natAbs.log2 < 1920 := by
  have h : (x % 2).natAbs = 0 ∨ (x % 2).natAbs = 1 := by omega
  rcases h with h | h <;> rw [h] <;> decide
theorem F_signs_ok {n : Int} (h0 : 0 ≤ n) (h1 : n < 256) : F_signs [.p (.int n)] = .ok (.p (.str (B (sg n)))) := by
  have e : SP.upTo 8 = [.int 0, .int 1, .int 2, .int 3, .int 4, .int 5, .int 6, .int 7] := rfl
  have r8 : rangeOf [.p (.int 8)] = some 8 := range_int (by decide) (by decide)
  simp [F_signs, runP, runF, env0, g_signs, F_mixed_ok h0 h1, r8, e, forGo, bit_small, istr_mod2, B_nil, B_append, B_length, sg, lo, Int.ediv_ediv_of_nonneg]
theorem mx_rg (n : Int) : 0 ≤ mx n ∧ mx n < 256 := by unfold mx; omega
theorem sg_len (n : Int) : (sg n).length = 8 := rfl
/-- a number's part below a power of two -/
theorem mod_two {q x : Int} (hq : 0 < q) : x % (q * 2) = q * (x / q % 2) + x % q := by
  have e1 := Int.emod_add_mul_ediv x q
  have e2 := Int.emod_add_mul_ediv (x / q) 2
  have b1 := Int.emod_nonneg x (show q ≠ 0 by omega)
  have b2 := Int.emod_lt_of_pos x hq
  have e3 : x = (q * (x / q % 2) + x % q) + (q * 2) * (x / q / 2) := by
    have : q * (x / q) = q * (x / q % 2) + (q * 2) * (x / q / 2) := by
      rw [Int.mul_assoc, ← Int.mul_add, e2]
    omega
  have hm : x / q % 2 = 0 ∨ x / q % 2 = 1 := by omega
  have b3 : 0 ≤ q * (x / q % 2) + x % q ∧ q * (x / q % 2) + x % q < q * 2 := by
    rcases hm with h | h <;> rw [h] <;> omega
  have e4 : ((q * (x / q % 2) + x % q) + (q * 2) * (x / q / 2)) % (q * 2) = q * (x / q % 2) + x % q := by
    rw [Int.add_mul_emod_self_left, Int.emod_eq_of_lt b3.1 b3.2]
  rw [← e3] at e4
  exact e4
/-- worths from a place down -/
def wsv : Nat → List P
  | 0 => []
  | k + 1 => .int (2 ^ k) :: wsv k
theorem pow_k8 {k : Nat} (hk8 : k < 8) : (0 : Int) < 2 ^ k ∧ (2 : Int) ^ k < 1000 := by
  match k, hk8 with
  | 0, _ | 1, _ | 2, _ | 3, _ | 4, _ | 5, _ | 6, _ | 7, _ => decide
theorem lsigns_go (x : Int) (a : Option D) : ∀ (k : Nat) (acc : List Bool) (o : Option D), acc.length + k ≤ 8 → ∃ (o' : Option D), forGo 3 (sSeq (sAsg 2 false (f2 gAdd (fV 2) (fA bStr (aC (fA bInt (aC (cV cGe (fV 1) (fV 3)) aN)) aN))))
  (sAsg 1 false (f2 gSub (fV 1) (f2 gMul (fV 3) (fA bInt (aC (cV cGe (fV 1) (fV 3)) aN)))))) (wsv k) [a, some (.p (.int (x % 2 ^ k))), some (.p (.str (B acc))), o] =
    .nx [a, some (.p (.int (x % 2 ^ 0))), some (.p (.str (B (acc ++ lo x k)))), o']
  | 0, acc, o, _ => ⟨o, by simp [wsv, forGo, lo]⟩
  | k + 1, acc, o, hk => by
    have hq := pow_k8 (show k < 8 by omega)
    have hs : (2 : Int) ^ (k + 1) = 2 ^ k * 2 := Int.pow_succ ..
    have hm := mod_two (x := x) hq.1
    have b1 := Int.emod_nonneg x (show (2 : Int) ^ k ≠ 0 by omega)
    have b2 := Int.emod_lt_of_pos x hq.1
    have hb : x / 2 ^ k % 2 = 0 ∨ x / 2 ^ k % 2 = 1 := by omega
    have m0 : bMul (2 ^ k) 0 = true := bMulR (by omega)
    have m1 : bMul (2 ^ k) 1 = true := bMulR (by omega)
    have i0 : istr 0 = B [false] := by decide +kernel
    have i1 : istr 1 = B [true] := by decide +kernel
    have l0 : (0 : Nat).log2 < 1920 := by decide
    have l1 : (1 : Nat).log2 < 1920 := by decide
    have hl : acc.length + 1 ≤ 16777216 := by omega
    by_cases c : x / 2 ^ k % 2 = 1
    · obtain ⟨o', e⟩ := lsigns_go x a k (acc ++ [true]) (some (.p (.int (2 ^ k)))) (by simp; omega)
      refine ⟨o', ?_⟩
      rw [hs, hm, c]
      have e1 : lo x (k + 1) = true :: lo x k := by show decide _ :: _ = _; rw [c]; rfl
      have g : (2 : Int) ^ k ≤ 2 ^ k + x % 2 ^ k := by omega
      have h : (2 : Int) ^ k + x % 2 ^ k - 2 ^ k = x % 2 ^ k := by omega
      rw [e1]
      unfold wsv forGo
      rw [← List.append_cons] at e
      simp [-bMul_eq, g, h, m1, i1, l1, hl, B_length, B_append]
      simpa using e
    · have c0 : x / 2 ^ k % 2 = 0 := by omega
      obtain ⟨o', e⟩ := lsigns_go x a k (acc ++ [false]) (some (.p (.int (2 ^ k)))) (by simp; omega)
      refine ⟨o', ?_⟩
      rw [hs, hm, c0]
      have e1 : lo x (k + 1) = false :: lo x k := by show decide _ :: _ = _; rw [c0]; rfl
      have g : ¬ (2 : Int) ^ k ≤ x % 2 ^ k := by omega
      rw [e1]
      unfold wsv forGo
      rw [← List.append_cons] at e
      simp [-bMul_eq, g, m0, i0, l0, hl, B_length, B_append]
      simpa using e
theorem F_lsigns_ok (n : Int) : F_l_signs [.p (.int n)] = .ok (.p (.str (B (sg n)))) := by
  refine run_go rfl ?_
  unfold g_l_signs
  refine seq_go (by simp [env0]; rfl) ?_
  refine seq_go (by simp; rfl) ?_
  obtain ⟨o', e⟩ := lsigns_go (mx n) (some (.p (.int n))) 8 [] none (by simp)
  have em : mx n % 2 ^ 8 = mx n := by have := mx_rg n; show mx n % 256 = _; omega
  rw [em] at e
  refine seq_go (by
    rw [sFor]
    have ew : wsv 8 = [.int 128, .int 64, .int 32, .int 16, .int 8, .int 4, .int 2, .int 1] := rfl
    rw [ew] at e
    simp only [List.nil_append] at e
    simp only [fz, fA, SP.gLst]
    simp [B_nil]
    simp at e
    exact e) ?_
  simp [sg]
/-- what a text of signs is worth, of k places -/
def wv : List Bool → Nat → Int
  | _, 0 => 0
  | [], _ + 1 => 0
  | c :: b, k + 1 => (if c = true then 2 ^ k else 0) + wv b k
theorem wv_nil : ∀ k, wv [] k = 0
  | 0 => rfl
  | _ + 1 => rfl
theorem pow_pos2 (k : Nat) : (0 : Int) < 2 ^ k := Int.pow_pos (by decide)
theorem wv_rg : ∀ (b : List Bool) (k : Nat), b.length ≤ k → 0 ≤ wv b k ∧ wv b k + 2 ^ (k - b.length) ≤ 2 ^ k
  | [], k, _ => by rw [wv_nil]; simp
  | c :: b, 0, h => by simp at h
  | c :: b, k + 1, h => by
    rw [List.length_cons] at h ⊢
    have ih := wv_rg b k (by omega)
    have hs : (2 : Int) ^ (k + 1) = 2 ^ k * 2 := Int.pow_succ ..
    have hp := pow_pos2 k
    rw [show k + 1 - (b.length + 1) = k - b.length by omega, hs]
    unfold wv
    split <;> omega
/-- a text begins the signs of a number -/
theorem pre_lo : ∀ (b : List Bool) (k : Nat) (x : Int), b.length ≤ k → (b <+: lo x k ↔ wv b k ≤ x % 2 ^ k ∧ x % 2 ^ k < wv b k + 2 ^ (k - b.length))
  | [], k, x, _ => by
    have b1 := Int.emod_nonneg x (show (2 : Int) ^ k ≠ 0 by have := pow_pos2 k; omega)
    have b2 := Int.emod_lt_of_pos x (pow_pos2 k)
    rw [wv_nil]
    simp
    omega
  | c :: b, 0, x, h => by simp at h
  | c :: b, k + 1, x, h => by
    rw [List.length_cons] at h ⊢
    have ih := pre_lo b k x (by omega)
    have rg := wv_rg b k (by omega)
    have hs : (2 : Int) ^ (k + 1) = 2 ^ k * 2 := Int.pow_succ ..
    have hp := pow_pos2 k
    have hm := mod_two (x := x) hp
    have b1 := Int.emod_nonneg x (show (2 : Int) ^ k ≠ 0 by omega)
    have b2 := Int.emod_lt_of_pos x hp
    rw [show k + 1 - (b.length + 1) = k - b.length by omega, hs, hm]
    have el : lo x (k + 1) = decide (x / 2 ^ k % 2 = 1) :: lo x k := rfl
    rw [el, List.cons_prefix_cons, ih]
    have ew : wv (c :: b) (k + 1) = (if c = true then 2 ^ k else 0) + wv b k := rfl
    rw [ew]
    have hb : x / 2 ^ k % 2 = 0 ∨ x / 2 ^ k % 2 = 1 := by omega
    rcases hb with hb | hb <;> cases c <;> rw [hb] <;> simp <;> omega
/-- names whose signs begin so, as they are made -/
def kn0 (b : List Bool) : List Int := (List.range (2 ^ (8 - b.length))).map fun j : Nat => (wv b 8 + (j : Int) - 37) * 3 % 256
def kn (b : List Bool) : List Int := (kn0 b).mergeSort fun a b => decide (a ≤ b)
theorem mem_kn0 {b : List Bool} (h : b.length ≤ 8) (n : Int) : n ∈ kn0 b ↔ (0 ≤ n ∧ n < 256) ∧ b <+: sg n := by
  unfold sg
  have rg := wv_rg b 8 h
  have hr := mx_rg n
  rw [pre_lo b 8 _ h, show mx n % 2 ^ 8 = mx n by show mx n % 256 = _; omega]
  unfold kn0
  rw [List.mem_map]
  have hp : ((2 ^ (8 - b.length) : Nat) : Int) = 2 ^ (8 - b.length) := by norm_cast
  have h8 : (2 : Int) ^ 8 = 256 := rfl
  rw [h8] at rg
  constructor
  · rintro ⟨j, hj, rfl⟩
    have hj := List.mem_range.mp hj
    have hj' : (j : Int) < 2 ^ (8 - b.length) := by rw [← hp]; exact_mod_cast hj
    generalize (2 : Int) ^ (8 - b.length) = q at *
    have e : ∀ y : Int, mx ((y - 37) * 3 % 256) = y % 256 := fun y => by unfold mx; omega
    rw [e]
    omega
  · rintro ⟨h0, h1, h2⟩
    refine ⟨(mx n - wv b 8).toNat, List.mem_range.mpr ?_, ?_⟩
    · have : ((mx n - wv b 8).toNat : Int) < ((2 ^ (8 - b.length) : Nat) : Int) := by rw [hp]; omega
      exact_mod_cast this
    · rw [Int.toNat_of_nonneg (by omega)]
      unfold mx at *
      omega
theorem kn0_nodup {b : List Bool} (h : b.length ≤ 8) : (kn0 b).Nodup := by
  unfold kn0
  have rg := wv_rg b 8 h
  have hp : ((2 ^ (8 - b.length) : Nat) : Int) = 2 ^ (8 - b.length) := by norm_cast
  have h8 : (2 : Int) ^ 8 = 256 := rfl
  rw [h8] at rg
  refine List.pairwise_map.mpr (List.nodup_range.imp_of_mem ?_)
  intro i j hi hj hne e
  have hi := List.mem_range.mp hi
  have hj := List.mem_range.mp hj
  have hi' : (i : Int) < 2 ^ (8 - b.length) := by rw [← hp]; exact_mod_cast hi
  have hj' : (j : Int) < 2 ^ (8 - b.length) := by rw [← hp]; exact_mod_cast hj
  generalize (2 : Int) ^ (8 - b.length) = q at *
  omega
theorem mem_kn {b : List Bool} (h : b.length ≤ 8) (n : Int) : n ∈ kn b ↔ (0 ≤ n ∧ n < 256) ∧ b <+: sg n := by
  unfold kn
  rw [List.mem_mergeSort, mem_kn0 h]
theorem kn_rise {b : List Bool} (h : b.length ≤ 8) : (kn b).Pairwise (· < ·) := msort_ints (kn0_nodup h)
theorem kn0_length (b : List Bool) : (kn0 b).length = 2 ^ (8 - b.length) := by unfold kn0; rw [List.length_map, List.length_range]
theorem kn_length {b : List Bool} : (kn b).length ≤ 256 := by
  unfold kn
  rw [List.length_mergeSort, kn0_length]
  exact Nat.pow_le_pow_right (n := 2) (by omega) (show 8 - b.length ≤ 8 by omega)
/-- the same worth, from the front on -/
def ub (b : List Bool) : Nat → Int
  | 0 => 0
  | n + 1 => 2 * ub b n + (if b[n]? = some true then 1 else 0)
theorem ub_nil : ∀ n, ub [] n = 0
  | 0 => rfl
  | n + 1 => by unfold ub; rw [ub_nil n]; rfl
theorem ub_cons (c : Bool) (b : List Bool) : ∀ n, ub (c :: b) (n + 1) = (if c = true then 2 ^ n else 0) + ub b n
  | 0 => by cases c <;> rfl
  | n + 1 => by
    have e : ub (c :: b) (n + 1 + 1) = 2 * ub (c :: b) (n + 1) + (if (c :: b)[n + 1]? = some true then 1 else 0) := rfl
    have e2 : ub b (n + 1) = 2 * ub b n + (if b[n]? = some true then 1 else 0) := rfl
    have hs : (2 : Int) ^ (n + 1) = 2 ^ n * 2 := Int.pow_succ ..
    rw [e, ub_cons c b n, e2, List.getElem?_cons_succ, hs]
    cases c <;> simp <;> omega
theorem ub_wv : ∀ (b : List Bool) (n : Nat), ub b n = wv b n
  | b, 0 => by cases b <;> rfl
  | [], n + 1 => ub_nil _
  | c :: b, n + 1 => by rw [ub_cons, ub_wv b n]; rfl
theorem cutL_one {α : Type} (l : List α) (k : Nat) : cutL l (some (k : Int)) (some ((k : Int) + 1)) = (l.drop k).take 1 := by
  unfold cutL
  rw [sIx_nn (by omega), sIx_nn (by omega), drop_min', Int.toNat_natCast, show ((k : Int) + 1).toNat = k + 1 by omega]
  by_cases h : k + 1 ≤ l.length
  · rw [Nat.min_eq_left h, Nat.min_eq_left (by omega), show k + 1 - k = 1 by omega]
  · rw [Nat.min_eq_right (by omega), List.drop_eq_nil_of_le (by omega)]
    simp
theorem one_at (b : List Bool) (k : Nat) : (b.drop k).take 1 = [true] ↔ b[k]? = some true := by
  by_cases h : k < b.length
  · rw [List.drop_eq_getElem_cons h, List.getElem?_eq_getElem h, List.take_succ_cons, List.take_zero]
    simp
  · rw [List.drop_eq_nil_of_le (by omega), List.getElem?_eq_none (by omega)]
    simp
theorem pow9 {d : Nat} (h : d ≤ 8) : atI ([P.int 256, .int 128, .int 64, .int 32, .int 16, .int 8, .int 4, .int 2, .int 1] : List P) (d : Int) = some (.int ((2 ^ (8 - d) : Nat) : Int)) := by
  rw [atI_nn (by omega), Int.toNat_natCast]
  match d, h with
  | 0, _ | 1, _ | 2, _ | 3, _ | 4, _ | 5, _ | 6, _ | 7, _ | 8, _ => rfl
theorem F_known_ok {b : List Bool} (h : b.length ≤ 8) : F_l_known [.p (.str (B b))] = .ok (.hl .new ((kn b).map .int)) := by
  have hl : b.length ≤ 16777216 := by omega
  obtain ⟨o', e⟩ := forGo_upTo (i := 2) (n := 8) (b := (sAsg 1 false (f2 gAdd (f2 gMul (fC (.int 2)) (fV 1)) (fA bInt (aC (cV cEq (fSl (fV 0) (fSo (fV 2)) (fSo (f2 gAdd (fV 2) (fC (.int 1))))) (fC (.str "1"))) aN)))))
    (fun k o => [some (.p (.str (B b))), some (.p (.int (ub b k))), o, none, none]) none (fun _ _ _ => rfl) fun k hk => by
      have hm : bMul 2 (ub b k) = true := bMulL (by omega)
      have e1 := one_at b k
      simp [-bMul_eq, hm, B_length, hl, cutS_B, cutL_one, B_1, B_inj, ub, e1]
  refine run_go rfl ?_
  unfold g_l_known
  refine seq_go (by simp [env0]; rfl) ?_
  refine seq_go (by
    have r8 : rangeOf [.p (.int 8)] = some 8 := range_int (by decide) (by decide)
    rw [sForR]
    simp [r8]
    rw [show ub b 0 = 0 from rfl] at e
    exact e) ?_
  refine seq_go (by simp [SP.gLst, B_length, hl, pow9 h]; rfl) ?_
  have hn : 2 ^ (8 - b.length) ≤ 256 := Nat.pow_le_pow_right (n := 2) (by omega) (show 8 - b.length ≤ 8 by omega)
  simp only [sRet, fA, aC, fz]
  rw [fLcR_all (n := 2 ^ (8 - b.length)) (ds := [.p (.int ((2 ^ (8 - b.length) : Nat) : Int))]) (fun j => .int ((wv b 8 + (j : Int) - 37) * 3 % 256)) (by simp) (range_nat (by omega)) fun j hj => by
    have rg := wv_rg b 8 h
    have e8 : ub b 7 = ub b 7 := rfl
    have eu : 2 * (2 * (2 * (2 * (2 * (2 * (2 * (2 * (0 : Int))))))) ) = 0 := rfl
    have hm : bMul (wv b 8 + (j : Int) - 37) 3 = true := bMulR (by omega)
    simp [-bMul_eq, lcEnv, wipeE, ub_wv, hm]]
  have es : (List.range (2 ^ (8 - b.length))).map (fun j : Nat => P.int ((wv b 8 + (j : Int) - 37) * 3 % 256)) = (kn0 b).map .int := by
    unfold kn0
    rw [List.map_map]; rfl
  rw [es]
  simp [sortOk_ints, sortP_ints, kn]
end Run
/-! things of two rooms, sorted things -/
namespace Run
open SP L2
open PySem (Str)
theorem wt_rise {ts : List Th} {n v : Int} (h : Rise ts) : Rise (wt ts n v) := by
  unfold Rise wt
  refine List.pairwise_append.mpr ⟨h.filter _, List.pairwise_cons.mpr ⟨fun t m => ?_, h.filter _⟩, fun a ha b hb => ?_⟩
  · exact of_decide_eq_true (List.mem_filter.mp m).2
  · have h1 := of_decide_eq_true (List.mem_filter.mp ha).2
    rcases List.mem_cons.mp hb with rfl | hb
    · exact h1
    · have h2 := of_decide_eq_true (List.mem_filter.mp hb).2
      omega
theorem mem_wt {ts : List Th} {n v : Int} {t : Th} : t ∈ wt ts n v ↔ t = (n, v) ∨ (t ∈ ts ∧ t.1 ≠ n) := by
  unfold wt
  rw [List.mem_append, List.mem_cons, List.mem_filter, List.mem_filter, decide_eq_true_iff, decide_eq_true_iff]
  constructor
  · rintro (⟨m, h⟩ | rfl | ⟨m, h⟩)
    · exact .inr ⟨m, by omega⟩
    · exact .inl rfl
    · exact .inr ⟨m, by omega⟩
  · rintro (rfl | ⟨m, h⟩)
    · exact .inr (.inl rfl)
    · by_cases c : t.1 < n
      · exact .inl ⟨m, c⟩
      · exact .inr (.inr ⟨m, by omega⟩)
/-- two rising lists with the same things are one -/
theorem rise_ext : ∀ {l m : List Th}, Rise l → Rise m → (∀ t, t ∈ l ↔ t ∈ m) → l = m
  | [], [], _, _, _ => rfl
  | [], b :: m, _, _, h => absurd ((h b).mpr List.mem_cons_self) (by simp)
  | a :: l, [], _, _, h => absurd ((h a).mp List.mem_cons_self) (by simp)
  | a :: l, b :: m, hl, hm, h => by
    have hl' := List.pairwise_cons.mp hl
    have hm' := List.pairwise_cons.mp hm
    have e : a = b := by
      rcases List.mem_cons.mp ((h a).mp List.mem_cons_self) with e | h1
      · exact e
      · rcases List.mem_cons.mp ((h b).mpr List.mem_cons_self) with e | h2
        · exact e.symm
        · have := hm'.1 a h1
          have := hl'.1 b h2
          omega
    subst e
    congr 1
    refine rise_ext hl'.2 hm'.2 fun t => ⟨fun q => ?_, fun q => ?_⟩
    · rcases List.mem_cons.mp ((h t).mp (List.mem_cons_of_mem _ q)) with e | z
      · have := hl'.1 t q; rw [e] at this; omega
      · exact z
    · rcases List.mem_cons.mp ((h t).mpr (List.mem_cons_of_mem _ q)) with e | z
      · have := hm'.1 t q; rw [e] at this; omega
      · exact z
/-! sorted things -/
def leT (a b : Th) : Bool := decide (a.1 < b.1) || (decide (a.1 = b.1) && decide (a.2 ≤ b.2))
theorem le_tp (a b : Th) : PySem.W.dataLe false P.py (tp a) (tp b) = leT a b := by
  have e : ∀ t : Th, PySem.W.keyToks (tp t).py = [.inl 1, .inl t.1, .inl 1, .inl t.2, .inl 0] := fun t => rfl
  show (!PyProof.Rows.lexLt PyProof.Rows.itemOrd (PySem.W.keyToks (tp b).py) (PySem.W.keyToks (tp a).py)) = _
  rw [e, e]
  simp only [PyProof.Rows.lexLt, PyProof.Rows.itemLt, leT]
  by_cases h1 : a.1 < b.1
  · have h2 : ¬ b.1 < a.1 := by omega
    simp [h1, h2]
  · by_cases h2 : b.1 < a.1
    · have h3 : ¬ a.1 = b.1 := by omega
      simp [h1, h2, h3]
    · have h3 : a.1 = b.1 := by omega
      simp [h3]
      by_cases h4 : a.2 ≤ b.2
      · have h5 : ¬ b.2 < a.2 := by omega
        simp [h4, h5]
      · have h5 : b.2 < a.2 := by omega
        simp [h4, h5]
theorem sortOk_tp (l : List Th) : sortOk (l.map tp) = true := by
  unfold sortOk
  rw [Bool.and_eq_true, Bool.and_eq_true]
  refine ⟨⟨List.all_eq_true.mpr fun x hx => List.all_eq_true.mpr fun y hy => ?_, ?_⟩, List.all_eq_true.mpr fun x hx => ?_⟩
  · obtain ⟨t, _, rfl⟩ := List.mem_map.mp hx
    obtain ⟨u, _, rfl⟩ := List.mem_map.mp hy
    rfl
  · rw [Bool.or_eq_true]
    refine .inl (List.all_eq_true.mpr fun x hx => ?_)
    obtain ⟨t, _, rfl⟩ := List.mem_map.mp hx
    rfl
  · obtain ⟨t, _, rfl⟩ := List.mem_map.mp hx
    rfl
theorem sortP_tp (l : List Th) : sortP (l.map tp) = (l.mergeSort leT).map tp := map_msort tp _ le_tp l
theorem leT_trans (a b c : Th) (h1 : leT a b = true) (h2 : leT b c = true) : leT a c = true := by
  unfold leT at *
  simp at *
  omega
theorem leT_total (a b : Th) : (leT a b || leT b a) = true := by
  unfold leT
  simp
  omega
/-- things of different names, sorted: names rise -/
theorem msort_rise {l : List Th} (h : (l.map (·.1)).Nodup) : Rise (l.mergeSort leT) := by
  have h1 : (l.mergeSort leT).Pairwise (fun a b => leT a b = true) := List.pairwise_mergeSort leT_trans leT_total l
  have h2 : ((l.mergeSort leT).map (·.1)).Nodup := ((List.mergeSort_perm l leT).map _).nodup_iff.mpr h
  have h3 := List.pairwise_map.mp h2
  exact (h1.and h3).imp fun {a b} z => by
    have z1 := z.1
    have z2 := z.2
    unfold leT at z1
    simp at z1
    omega
theorem msort_eq {l m : List Th} (h : (l.map (·.1)).Nodup) (hm : Rise m) (e : ∀ t, t ∈ l ↔ t ∈ m) : l.mergeSort leT = m :=
  rise_ext (msort_rise h) hm fun t => by rw [List.mem_mergeSort]; exact e t
/-! joined -/
def jn (l m : List Th) : List Th := m.foldl (fun acc t => wt acc t.1 t.2) l
theorem jn_rise : ∀ {m l : List Th}, Rise l → Rise (jn l m)
  | [], l, h => h
  | t :: m, l, h => jn_rise (m := m) (l := wt l t.1 t.2) (wt_rise h)
theorem mem_jn : ∀ {m l : List Th} {t : Th}, Rise m → (∀ a ∈ l, ∀ b ∈ m, a.1 ≠ b.1) → (t ∈ jn l m ↔ t ∈ l ∨ t ∈ m)
  | [], l, t, _, _ => by simp [jn]
  | b :: m, l, t, hm, hd => by
    have hm' := List.pairwise_cons.mp hm
    have ih := mem_jn (m := m) (l := wt l b.1 b.2) (t := t) hm'.2 fun a ha c hc => by
      rcases mem_wt.mp ha with rfl | ⟨h1, _⟩
      · have := hm'.1 c hc
        show b.1 ≠ c.1
        omega
      · exact hd a h1 c (List.mem_cons_of_mem _ hc)
    show t ∈ jn (wt l b.1 b.2) m ↔ _
    rw [ih, mem_wt, List.mem_cons]
    constructor
    · rintro ((rfl | ⟨h, _⟩) | h)
      · exact .inr (.inl rfl)
      · exact .inl h
      · exact .inr (.inr h)
    · rintro (h | rfl | h)
      · exact .inl (.inr ⟨h, hd t h b List.mem_cons_self⟩)
      · exact .inl (.inl rfl)
      · exact .inr h
theorem two_filters {α : Type} (p q : α → Bool) (h : ∀ a, p a = true → q a = true → False) : ∀ l : List α, (l.filter p).length + (l.filter q).length ≤ l.length
  | [] => Nat.le_refl _
  | a :: l => by
    have ih := two_filters p q h l
    rw [List.filter_cons, List.filter_cons, List.length_cons]
    have := h a
    cases h1 : p a <;> cases h2 : q a <;> simp_all <;> omega
theorem wt_length {ts : List Th} {n v : Int} : (wt ts n v).length ≤ ts.length + 1 := by
  unfold wt
  rw [List.length_append, List.length_cons]
  exact Nat.succ_le_succ (two_filters _ _ (fun a h1 h2 => by have := of_decide_eq_true h1; have := of_decide_eq_true h2; omega) ts)
theorem joined_go (a b : Option D) : ∀ (m l : List Th) (o : Option D), Rise l → l.length + m.length ≤ 1000 → ∃ o', forGo 3 (sAsg 2 true (fCall 3 F_with_thing (aC (fV 2) (aC (f2 gIx (fV 3) (fC (.int 0))) (aC (f2 gIx (fV 3) (fC (.int 1))) aN))))) (m.map tp) [a, b, some (.hl .own (l.map tp)), o] =
    .nx [a, b, some (.hl .own ((jn l m).map tp)), o']
  | [], l, o, _, _ => ⟨o, rfl⟩
  | t :: m, l, o, hr, hl => by
    rw [List.length_cons] at hl
    have hw := wt_length (ts := l) (n := t.1) (v := t.2)
    obtain ⟨o', e⟩ := joined_go a b m (wt l t.1 t.2) (some (.p (tp t))) (wt_rise hr) (by omega)
    refine ⟨o', ?_⟩
    rw [List.map_cons]
    unfold forGo
    have f := F_with_ok (d := .hl .ro (l.map tp)) (ts := l) (n := t.1) (v := t.2) (.inr rfl) hr (by omega)
    simp [f]
    simp at e
    exact e
/-- a room as data -/
def rmP (b : List Bool) (l : List Th) : P := .tup [.str (B b), .lst (l.map tp)]
theorem F_joined_ok {b c : List Bool} {l m : List Th} (hr : Rise l) (hb : b.length ≤ 1000) (hl : l.length + m.length ≤ 1000) (hj : (jn l m).length ≤ 16000000) :
    F_joined [.p (rmP b l), .p (rmP c m)] = .ok (.gh .new (some (rmP b.dropLast (jn l m))) ⟨[[1]], 16000000⟩) := by
  obtain ⟨o', e⟩ := joined_go (some (.p (rmP b l))) (some (.p (rmP c m))) m l none hr hl
  refine run_go rfl ?_
  unfold g_joined
  have hb2 : b.length ≤ 16777216 := by omega
  refine seq_go (by simp [env0, rmP, atI_nn, gList]; rfl) ?_
  refine seq_go (by
    rw [sFor]
    simp [rmP, atI_nn]
    simp [rmP] at e
    exact e) ?_
  simp [rmP, atI_nn, B_length, hb2, cutS_B, cutL_init, hj]
theorem jn_length : ∀ {m l : List Th}, (jn l m).length ≤ l.length + m.length
  | [], l => Nat.le_refl _
  | t :: m, l => by
    have := jn_length (m := m) (l := wt l t.1 t.2)
    have hw := wt_length (ts := l) (n := t.1) (v := t.2)
    show (jn (wt l t.1 t.2) m).length ≤ _
    rw [List.length_cons]
    omega
end Run
/-! a room parted -/
namespace Run
open SP L2
open PySem (Str)
/-- the things that go on by a sign -/
def half (l : List Th) (k : Nat) (c : Bool) : List Th := l.filter fun t => decide ((sg t.1)[k]? = some c)
theorem atI_B {l : List Bool} {k : Nat} {c : Bool} (h : l[k]? = some c) : atI (B l).cps.toList (k : Int) = some (if c then 49 else 48) := by
  rw [atI_nn (by omega), Int.toNat_natCast]
  unfold B
  simp [h]
theorem atI_sg (n : Int) {k : Nat} (hk : k < 8) : ∃ c, (sg n)[k]? = some c ∧ atI (B (sg n)).cps.toList (k : Int) = some (if c then 49 else 48) := by
  have hl : k < (sg n).length := by rw [sg_len]; exact hk
  exact ⟨(sg n)[k], List.getElem?_eq_getElem hl, atI_B (List.getElem?_eq_getElem hl)⟩
theorem sg_small (n : Int) : (B (sg n)).length ≤ 16777216 := by rw [B_length, sg_len]; omega
theorem half_rise {l : List Th} {k : Nat} {c : Bool} (h : Rise l) : Rise (half l k c) := h.filter _
theorem half_length {l : List Th} {k : Nat} {c : Bool} : (half l k c).length ≤ l.length := List.length_filter_le _ _
theorem F_parted_ok {b : List Bool} {l : List Th} (hb : b.length < 8) (hn : ∀ t ∈ l, 0 ≤ t.1 ∧ t.1 < 256) (hl : l.length ≤ 1000) :
    F_parted [.p (rmP b l)] = .ok (.gh .new (some (.tup [rmP (b ++ [false]) (half l b.length false), rmP (b ++ [true]) (half l b.length true)])) ⟨[[0, 1], [1, 1]], 16000000⟩) := by
  have hb2 : b.length ≤ 16777216 := by omega
  have hb3 : b.length + 1 ≤ 16777216 := by omega
  refine run_go rfl ?_
  unfold g_parted
  refine seq_go (by simp [env0, rmP, atI_nn]; rfl) ?_
  refine seq_go (by
    rw [sAsg, fLc_eq (d := .p (.lst (l.map tp))) (l := l) tp (fun t => decide ((sg t.1)[b.length]? = some false)) tp (by simp [rmP, atI_nn]) rfl (by omega) (fun t m => by
      obtain ⟨c, h1, h2⟩ := atI_sg t.1 hb
      have hr := hn t m
      simp [lcEnv, wipeE, F_signs_ok hr.1 hr.2, B_length, hb2, sg_len, h1, h2, B_one, B_0, B_inj]) (fun t _ _ => by simp [lcEnv, wipeE])]
    simp; rfl) ?_
  refine seq_go (by
    rw [sAsg, fLc_eq (d := .p (.lst (l.map tp))) (l := l) tp (fun t => decide ((sg t.1)[b.length]? = some true)) tp (by simp [rmP, atI_nn]) rfl (by omega) (fun t m => by
      obtain ⟨c, h1, h2⟩ := atI_sg t.1 hb
      have hr := hn t m
      simp [lcEnv, wipeE, F_signs_ok hr.1 hr.2, B_length, hb2, sg_len, h1, h2, B_one, B_1, B_inj]) (fun t _ _ => by simp [lcEnv, wipeE])]
    simp; rfl) ?_
  have z1 : (half l b.length false).length ≤ 16000000 := Nat.le_trans half_length (by omega)
  have z2 : (half l b.length true).length ≤ 16000000 := Nat.le_trans half_length (by omega)
  have z1' : (l.filter fun t => decide ((sg t.1)[b.length]? = some false)).length ≤ 16000000 := z1
  have z2' : (l.filter fun t => decide ((sg t.1)[b.length]? = some true)).length ≤ 16000000 := z2
  simp only [sRetG2, fz]
  simp [B_length, hb3, B_0, B_1, B_append, z1', z2', rmP, half]
theorem mem_half {l : List Th} {k : Nat} {c : Bool} {t : Th} : t ∈ half l k c ↔ t ∈ l ∧ (sg t.1)[k]? = some c := by
  unfold half
  rw [List.mem_filter, decide_eq_true_iff]
/-- both halves joined are the room -/
theorem jn_half {l : List Th} {k : Nat} (hk : k < 8) (hr : Rise l) : jn (half l k false) (half l k true) = l := by
  refine rise_ext (jn_rise (half_rise hr)) hr fun t => ?_
  rw [mem_jn (half_rise hr) (fun a ha b hb e => by
    have h1 := (mem_half.mp ha).2
    have h2 := (mem_half.mp hb).2
    rw [e, h2] at h1
    cases h1), mem_half, mem_half]
  obtain ⟨c, h1, _⟩ := atI_sg t.1 hk
  rw [h1]
  cases c <;> simp
end Run
/-! k04 -/
namespace Run
open SP L2
open PySem (Str)
theorem F_is_room_ok {b c : List Bool} {l m : List Th} (hb : b.length ≤ 1000) (hm : m.length ≤ 100000) : F_l_is_room [.p (rmP b l), .p (.str (B c)), .p (.lst (m.map tp))] = .ok (.p (.bl (decide (b = c) && decide (l = m)))) := by
  refine run_go rfl ?_
  unfold g_l_is_room
  by_cases hbc : b = c
  · subst hbc
    refine seq_go (by simp [env0, rmP, atI_nn]; rfl) ?_
    by_cases hl : l.length = m.length
    · refine seq_go (by simp [rmP, atI_nn, hl]; rfl) ?_
      obtain ⟨s', o', e'⟩ := forGo_allRS (i := 3) (n := m.length) (b := (sSeq (sAsg 4 false (f2 gIx (f2 gIx (fV 0) (fC (.int 1))) (fV 3)))
  (sSeq (sIf (tOrF (tNotF (tV (f1 (gIsi "tuple") (fV 4)))) (tOrF (cT cNe (fA gLen (aC (fV 4) aN)) (fC (.int 2))) (tOrF (tNotF (tV (fCall 1 F_l_whole (aC (f2 gIx (fV 4) (fC (.int 0))) aN)))) (tNotF (tV (fCall 1 F_l_whole (aC (f2 gIx (fV 4) (fC (.int 1))) aN))))))) (sRet (fC (.bl false))) sNext)
  (sIf (tOrF (cT cNe (f2 gIx (fV 4) (fC (.int 0))) (f2 gIx (f2 gIx (fV 2) (fV 3)) (fC (.int 0)))) (cT cNe (f2 gIx (fV 4) (fC (.int 1))) (f2 gIx (f2 gIx (fV 2) (fV 3)) (fC (.int 1))))) (sRet (fC (.bl false))) sNext))))
        (fun (s : Option D) o => [some (.p (rmP b l)), some (.p (.str (B b))), some (.p (.lst (m.map tp))), o, s]) (fun k => decide (l[k]? = m[k]?)) (.p (.bl false)) none none (fun _ _ _ => rfl) (fun k hk s => by
          have hk' : k < l.length := by omega
          have g1 := atI_th (List.getElem?_eq_getElem hk')
          have g2 := atI_th (List.getElem?_eq_getElem hk)
          refine ⟨some (.p (tp l[k])), ?_⟩
          simp [rmP, atI_nn (show (0 : Int) ≤ 1 by omega), atI_nn (show (0 : Int) ≤ 0 by omega), g1, g2, hk, hk', F_whole_int]
          by_cases h1 : l[k].1 = m[k].1
          · by_cases h2 : l[k].2 = m[k].2
            · have : l[k] = m[k] := Prod.ext h1 h2
              simp [h1, h2, this]
            · have : ¬ l[k] = m[k] := fun z => h2 (by rw [z])
              simp [h1, h2, this]
          · have : ¬ l[k] = m[k] := fun z => h1 (by rw [z])
            simp [h1, this])
      rw [all_get hl] at e'
      rw [sSeq, sForR]
      simp [range_nat (show m.length ≤ 16777216 by omega), rmP]
      simp [rmP] at e'
      rw [e']
      by_cases hh : l = m <;> simp [hh]
    · have : ¬ l = m := fun z => hl (by rw [z])
      have hl2 : ¬ (l.length : Int) = m.length := by omega
      exact seq_out (by simp [rmP, atI_nn, hl2]; exact ⟨rfl, rfl⟩) (by simp [this])
  · exact seq_out (by simp [env0, rmP, atI_nn, B_inj, hbc]; exact ⟨rfl, rfl⟩) (by simp [hbc])
def ii (n w d : Int) : Bool := if w = 0 then false else if w = 1 then decide (n * 48271 % 1009 % 9 = d % 9) else if w = 2 then decide (n * 16807 % 1013 % 2 = d % 2) else true
theorem F_is_in_ok {n w d : Int} (h : 0 ≤ n ∧ n < 256) : F_l_is_in [.p (.int n), .p (.int w), .p (.int d)] = .ok (.p (.bl (ii n w d))) := by
  have m1 : bMul n 48271 = true := bMulL (by omega)
  have m2 : bMul n 16807 = true := bMulL (by omega)
  unfold ii
  by_cases h0 : w = 0
  · simp [F_l_is_in, runP, runF, env0, g_l_is_in, h0]
  · by_cases h1 : w = 1
    · simp [F_l_is_in, runP, runF, env0, g_l_is_in, h1, m1, -bMul_eq]
    · by_cases h2 : w = 2
      · simp [F_l_is_in, runP, runF, env0, g_l_is_in, h2, m2, -bMul_eq]
      · simp [F_l_is_in, runP, runF, env0, g_l_is_in, h0, h1, h2]
theorem idx01 (k : Nat) (h : k < 2) : atI ("01" : Str).cps.toList (k : Int) = some (if decide (k = 1) then 49 else 48) := by
  match k, h with
  | 0, _ | 1, _ => rfl
theorem pow_b58 : bPow 10 58 = true := by
  rw [bPow_eq]; decide
theorem law_true : ∀ ns : List Int, ns.length ≤ 63 → F_law [.p (.scr ns)] = .ok (.p (.bl true)) := by
  intro ns _
  refine run_go rfl ?_
  unfold g_law
  generalize hb : (sg (cell ns 0 % 256)).take (cell ns 1 % 8).toNat = b
  have hbl : b.length ≤ 7 := by rw [← hb, List.length_take]; omega
  have hb16 : b.length + 1 ≤ 16777216 := by omega
  have hb15 : b.length ≤ 16777216 := by omega
  refine seq_go (ρ' := [some (.p (.scr ns)), some (.p (.str (B b))), none, none, none, none, none, none, none, none, none, none, none]) (by
    have s8 : (sg (cell ns 0 % 256)).length ≤ 16777216 := by rw [sg_len]; omega
    simp [env0, F_cell, F_lsigns_ok, B_length, s8, cutS_B, cutL_to (sg (cell ns 0 % 256)) (show 0 ≤ cell ns 1 % 8 by omega), hb]) ?_
  refine seq_go (by simp [F_cell]; rfl) ?_
  refine seq_go (by simp [F_cell]; rfl) ?_
  generalize hw : cell ns 2 % 7 % 4 = w
  generalize cell ns 3 = d
  refine seq_go (by
    have hp : bPow 10 58 = true := pow_b58
    simp [F_cell, hp, -bPow_eq]; rfl) ?_
  generalize cell ns 4 % _ = st
  have hb8 : b.length ≤ 8 := by omega
  have hk := kn_length (b := b)
  generalize hL : ((kn b).filter fun n => ii n w d).take 70 = L
  have hLl : L.length ≤ 70 := by rw [← hL, List.length_take]; omega
  have hLm : ∀ n ∈ L, (0 ≤ n ∧ n < 256) ∧ b <+: sg n := fun n m => by
    rw [← hL] at m
    exact (mem_kn hb8 n).mp (List.mem_filter.mp (List.mem_of_mem_take m)).1
  have hLr : L.Pairwise (· < ·) := by
    rw [← hL]
    exact ((kn_rise hb8).filter _).sublist (List.take_sublist _ _)
  refine seq_go (ρ' := [some (.p (.scr ns)), some (.p (.str (B b))), some (.p (.int w)), some (.p (.int d)), some (.p (.int st)), some (.p (.lst (L.map .int))), none, none, none, none, none, none, none]) (by
    simp only [sAsg, fSl, fz]
    rw [fLc_eq (d := .p (.lst ((kn b).map .int))) (l := kn b) P.int (fun n => ii n w d) P.int (by simp [F_known_ok hb8]) rfl (by omega) (fun n hn => by
      simp [lcEnv, wipeE, F_is_in_ok ((mem_kn hb8 n).mp hn).1]) (fun n _ _ => by simp [lcEnv, wipeE])]
    simp [cutL_map, cutL_to]
    rw [← List.map_take, hL]) ?_
  generalize hl : L.map (fun n => (n, st - n * (d % 5))) = l
  have hln : ∀ t ∈ l, 0 ≤ t.1 ∧ t.1 < 256 := fun t m => by
    rw [← hl] at m
    obtain ⟨n, hn, rfl⟩ := List.mem_map.mp m
    exact (hLm n hn).1
  have hll : l.length ≤ 70 := by rw [← hl, List.length_map]; exact hLl
  have hlr : Rise l := by
    rw [← hl]
    exact List.pairwise_map.mpr (hLr.imp fun z => z)
  refine seq_go (ρ' := [some (.p (.scr ns)), some (.p (.str (B b))), some (.p (.int w)), some (.p (.int d)), some (.p (.int st)), some (.p (.lst (L.map .int))), some (.p (.lst (l.map tp))), none, none, none, none, none, none]) (by
    rw [sAsg, fLc_all (d := .p (.lst (L.map .int))) (l := L) P.int (fun n => tp (n, st - n * (d % 5))) (by simp) rfl (by omega) (fun n m => by
      have hm : bMul n (d % 5) = true := bMulR (by omega)
      simp [lcEnv, wipeE, hm, -bMul_eq])]
    simp [← hl]) ?_
  refine seq_go (ρ' := [some (.p (.scr ns)), some (.p (.str (B b))), some (.p (.int w)), some (.p (.int d)), some (.p (.int st)), some (.p (.lst (L.map .int))), some (.p (.lst (l.map tp))), some (.p (rmP b l)), none, none, none, none, none]) (by
    simp [gList, SP.gTup, rmP]) ?_
  have hP := F_parted_ok (b := b) (l := l) (by omega) hln (by omega)
  generalize hx : half l b.length false = x at *
  generalize hy : half l b.length true = y at *
  have hxr : Rise x := by rw [← hx]; exact half_rise hlr
  have hxl : x.length ≤ 70 := by rw [← hx]; exact Nat.le_trans half_length hll
  have hyl : y.length ≤ 70 := by rw [← hy]; exact Nat.le_trans half_length hll
  have hJ : jn x y = l := by rw [← hx, ← hy]; exact jn_half (by omega) hlr
  refine seq_go (by simp [hP]; rfl) ?_
  refine seq_go (by
    simp [F_is_room_ok (b := b) (c := b) (l := l) (m := l) (by omega) (by omega)]; rfl) ?_
  have turn : ∀ (k : Nat) (o e : Option D), k < 2 → ∃ e' : Option D, (sSeq (sAsg 10 false (fLc [12] 12 (fV 6) (cT cEq (f2 gIx (fCall 1 F_l_signs (aC (f2 gIx (fV 12) (fC (.int 0))) aN)) (fA gLen (aC (fV 1) aN))) (f2 gIx (fC (.str "01")) (fV 9))) (fV 12)))
  (sIf (tFr (tNotF (tV (fCall 3 F_l_is_room (aC (f2 gIx (fV 8) (fV 9)) (aC (f2 gAdd (fV 1) (f2 gIx (fC (.str "01")) (fV 9))) (aC (fV 10) aN))))))) (sRet (fC (.bl false))) sNext)) [some (.p (.scr ns)), some (.p (.str (B b))), some (.p (.int w)), some (.p (.int d)), some (.p (.int st)), some (.p (.lst (L.map .int))), some (.p (.lst (l.map tp))), some (.p (rmP b l)), some (.gh .own (some (.tup [rmP (b ++ [false]) x, rmP (b ++ [true]) y])) ⟨[[0, 1], [1, 1]], 16000000⟩), some (.p (.int (k : Int))), e, none, none] =
      .nx [some (.p (.scr ns)), some (.p (.str (B b))), some (.p (.int w)), some (.p (.int d)), some (.p (.int st)), some (.p (.lst (L.map .int))), some (.p (.lst (l.map tp))), some (.p (rmP b l)), some (.gh .own (some (.tup [rmP (b ++ [false]) x, rmP (b ++ [true]) y])) ⟨[[0, 1], [1, 1]], 16000000⟩), some (.p (.int (k : Int))), e', none, none] := by
    intro k o e hk2
    refine ⟨some (.p (.lst ((half l b.length (decide (k = 1))).map tp))), ?_⟩
    simp only [sSeq, sAsg]
    rw [fLc_eq (d := .p (.lst (l.map tp))) (l := l) tp (fun t => decide ((sg t.1)[b.length]? = some (decide (k = 1)))) tp (by simp) rfl (by omega) (fun t m => by
      obtain ⟨c, h1, h2⟩ := atI_sg t.1 (show b.length < 8 by omega)
      have hr := hln t m
      simp [lcEnv, wipeE, F_lsigns_ok, B_length, hb15, sg_len, h1, h2, B_one, B_oneP, B_inj, idx01 k hk2, len01]) (fun t _ _ => by simp [lcEnv, wipeE])]
    have c0 : (Str.ofString "01").cps[0]? = some 48 := rfl
    have c1 : (Str.ofString "01").cps[1]? = some 49 := rfl
    have k0 : (⟨#[48]⟩ : Str) = B [false] := rfl
    have k1 : (⟨#[49]⟩ : Str) = B [true] := rfl
    match k, hk2 with
    | 0, _ =>
      have e1 : l.filter (fun t => decide ((sg t.1)[b.length]? = some false)) = x := hx
      simp [e1, half, c0, k0, len01, B_length, B_oneP, B_append, hb16, atI_nn, F_is_room_ok (b := b ++ [false]) (c := b ++ [false]) (l := x) (m := x) (by simp; omega) (by omega)]
    | 1, _ =>
      have e1 : l.filter (fun t => decide ((sg t.1)[b.length]? = some true)) = y := hy
      simp [e1, half, c1, k1, len01, B_length, B_oneP, B_append, hb16, atI_nn, F_is_room_ok (b := b ++ [true]) (c := b ++ [true]) (l := y) (m := y) (by simp; omega) (by omega)]
  have hU : SP.upTo 2 = [.int 0, .int 1] := rfl
  obtain ⟨e0, t0⟩ := turn 0 none none (by omega)
  obtain ⟨e1, t1⟩ := turn 1 none e0 (by omega)
  rw [show ((0 : Nat) : Int) = 0 from rfl] at t0
  rw [show ((1 : Nat) : Int) = 1 from rfl] at t1
  have hi : ∀ ρ : Rho, fz (fA SP.gLst (aC (fC (.int 0)) (aC (fC (.int 1)) aN))) ρ = .ok (.p (.lst [.int 0, .int 1])) := fun ρ => by simp [SP.gLst]
  refine seq_go (by
    rw [sFor, hi, onR_ok, sForK_ok]
    unfold forGo
    simp only [List.set_cons_succ, List.set_cons_zero]
    rw [t0, loop_nx]
    unfold forGo
    simp only [List.set_cons_succ, List.set_cons_zero]
    rw [t1, loop_nx]
    rfl) ?_
  have hF := F_joined_ok (b := b ++ [false]) (c := b ++ [true]) (l := x) (m := y) hxr (by simp; omega) (by omega) (by rw [hJ]; omega)
  rw [List.dropLast_concat, hJ] at hF
  have hR := F_is_room_ok (b := b) (c := b) (l := l) (m := l) (by omega) (by omega)
  have test : (tFr (tNotF (tV (fCall 3 F_l_is_room (aC (fCall 2 F_joined (aC (f2 gIx (fV 8) (fC (.int 0))) (aC (f2 gIx (fV 8) (fC (.int 1))) aN))) (aC (fV 1) (aC (fV 6) aN))))))) [some (.p (.scr ns)), some (.p (.str (B b))), some (.p (.int w)), some (.p (.int d)), some (.p (.int st)), some (.p (.lst (L.map .int))), some (.p (.lst (l.map tp))), some (.p (rmP b l)), some (.gh .own (some (.tup [rmP (b ++ [false]) x, rmP (b ++ [true]) y])) ⟨[[0, 1], [1, 1]], 16000000⟩), some (.p (.int 1)), e1, none, none] = .ok false := by
    have i0 : atI [rmP (b ++ [false]) x, rmP (b ++ [true]) y] 0 = some (rmP (b ++ [false]) x) := rfl
    have i1 : atI [rmP (b ++ [false]) x, rmP (b ++ [true]) y] 1 = some (rmP (b ++ [true]) y) := rfl
    simp [i0, i1, hF, hR]
  refine if_go test ?_
  rw [if_neg (by decide)]
  refine seq_go (g1 := sNext) rfl ?_
  have hp0 : ∀ q, hasFst 0 ⟨[[0, 1], [1, 1]], q⟩ = true := fun q => rfl
  have hp1 : ∀ q, hasFst 1 ⟨[[0, 1], [1, 1]], q⟩ = true := fun q => rfl
  have app : ∀ (n : Nat) (x0 : Option P) (q : Nat), n < 2 → q < 16777216 → ∀ ρ : Rho, ρ[8]? = some (some (.gh .own x0 ⟨[[0, 1], [1, 1]], q⟩)) → (sGApp2 8 (fC (.int (n : Int))) (fC (.int 1)) (fA SP.gTup (aC (fC (.int 999)) (aC (fC (.int 0)) aN)))) ρ = .nx (ρ.set 8 (some (.gh .own none ⟨[[0, 1], [1, 1]], q + 1⟩))) := by
    intro n x0 q hn hq ρ hρ
    have ht : fz (fA SP.gTup (aC (fC (.int 999)) (aC (fC (.int 0)) aN))) ρ = .ok (.p (tp (999, 0))) := by simp
    have hf : fz (fC (.int (n : Int))) ρ = .ok (.p (.int n)) := by simp
    have h1 : fz (fC (.int 1)) ρ = .ok (.p (.int 1)) := by simp
    rw [sGApp2, hρ, ga0_ok, hf, onR_ok]
    have e1 : natD (.p (.int (n : Int))) = some n := by simp
    have e2 : natD (.p (.int 1)) = some 1 := by simp
    rw [e1, ga1_ok, if_pos (by match n, hn with | 0, _ | 1, _ => rfl), h1, onR_ok, e2, ga2_ok]
    unfold gaP
    rw [if_pos (by match n, hn with | 0, _ | 1, _ => simp), ht, onR_ok, gaK_p, if_pos hq]
  refine seq_go (app 0 _ 16000000 (by decide) (by decide) _ rfl) ?_
  refine seq_go (app 1 none 16000001 (by decide) (by decide) _ rfl) ?_
  simp [hR]
end Run
namespace Run
open PySem PySem.Spec PyProof.Rows L2 SP

def topS (i : Nat) : Stmt := PySem.Challenge.pw_splitrooms_k04_a_room_parted.main.body.getD i (.Pass ⟨0, 0, 0, 0⟩)
structure Txt (K : PySem.W.Frag) (mg : Str → Option Value) (G : Gx) : Prop where
  b_bool : mg "bool" = none
  b_int : mg "int" = none
  b_isinstance : mg "isinstance" = none
  b_len : mg "len" = none
  b_list : mg "list" = none
  b_range : mg "range" = none
  b_sorted : mg "sorted" = none
  b_str : mg "str" = none
  b_tuple : mg "tuple" = none
  c_NAMES : ∃ t, mg "NAMES" = some (.int 256 t)
  c_SIGNS : ∃ t, mg "SIGNS" = some (.int 8 t)
  e_BadName : ErrC K mg "BadName" (G.ec 1)
section
variable {P : Program} {w : World} {mg : Str → Option Value} {base : Heap} {G : Gx}
abbrev s_need_name : Stmt := topS 6
theorem sc_need_name : FnScope ["name"] ["name"] (defScope s_need_name) := ⟨rfl, rfl, rfl, by decide +kernel, rfl, by decide +kernel, by decide +kernel⟩
theorem d_need_name (T : Txt G.K mg G)  {f : Addr} {fd : FuncData} (Fn : Fun G.K "need_name" "need_name" s_need_name f fd) (hm : mg "need_name" = some (.ref f)) : Df P w G.K mg base G "need_name" 1 1 F_need_name := by
  have nd := sc_need_name.nd
  have B := Fn.binds (ps := ["name"]) fun _ _ _ _ _ _ us hl => match us, hl with | [_], _ => rfl
  refine ⟨⟨f, fd, _, def_ok (k := 0) (G := G) (g := g_need_name) Fn sc_need_name fun cdv A outer s H E hr tk hp => ?_, hm, Fn.kp, B⟩⟩
  have hc : (true : Bool) = true := rfl
  have hu := hr.units
  have hu1 := hu_of hr
  exact (s_cons (s_if (PW.pt (w_or (q_not (q_val (p_isi (t := "int") T.b_isinstance T.b_int (by decide +kernel) (nm 0)))) (w_or (q_val (p_isi (t := "bool") T.b_isinstance T.b_bool (by decide +kernel) (nm 0))) (w_or (q_lt (nm 0) k_int) (pw_or1 (q_ge (nm 0) (gIntE T.c_NAMES))))))) (s_one (s_raise 1 hc tk T.e_BadName)) s_nil)
      (s_one (s_ret (nm 0))))
abbrev s_mixed : Stmt := topS 7
theorem sc_mixed : FnScope ["name"] ["name"] (defScope s_mixed) := ⟨rfl, rfl, rfl, by decide +kernel, rfl, by decide +kernel, by decide +kernel⟩
theorem d_mixed (T : Txt G.K mg G) (D_need_name : Df P w G.K mg base G "need_name" 1 1 F_need_name) {f : Addr} {fd : FuncData} (Fn : Fun G.K "mixed" "mixed" s_mixed f fd) (hm : mg "mixed" = some (.ref f)) : Df P w G.K mg base G "mixed" 2 1 F_mixed := by
  have nd := sc_mixed.nd
  have B := Fn.binds (ps := ["name"]) fun _ _ _ _ _ _ us hl => match us, hl with | [_], _ => rfl
  refine ⟨⟨f, fd, _, def_ok (k := 1) (G := G) (g := g_mixed) Fn sc_mixed fun cdv A outer s H E hr tk hp => ?_, hm, Fn.kp, B⟩⟩
  have hc : (true : Bool) = true := rfl
  have hu := hr.units
  have hu1 := hu_of hr
  exact (s_one (s_ret (p_mod (p_add (p_mul k_int (p_f D_need_name hr tk (a_cons (nm 0) a_nil))) k_int) (gIntE T.c_NAMES))))
abbrev s_signs : Stmt := topS 8
theorem sc_signs : FnScope ["name", "left", "found", "turn"] ["name"] (defScope s_signs) := ⟨rfl, rfl, rfl, by decide +kernel, rfl, by decide +kernel, by decide +kernel⟩
theorem d_signs (T : Txt G.K mg G) (D_mixed : Df P w G.K mg base G "mixed" 2 1 F_mixed) {f : Addr} {fd : FuncData} (Fn : Fun G.K "signs" "signs" s_signs f fd) (hm : mg "signs" = some (.ref f)) : Df P w G.K mg base G "signs" 3 1 F_signs := by
  have nd := sc_signs.nd
  have B := Fn.binds (ps := ["name"]) fun _ _ _ _ _ _ us hl => match us, hl with | [_], _ => rfl
  refine ⟨⟨f, fd, _, def_ok (k := 2) (G := G) (g := g_signs) Fn sc_signs fun cdv A outer s H E hr tk hp => ?_, hm, Fn.kp, B⟩⟩
  have hc : (true : Bool) = true := rfl
  have hu := hr.units
  have hu1 := hu_of hr
  exact (s_cons (s_set 1 false nd (p_f D_mixed hr tk (a_cons (nm 0) a_nil)))
      (s_cons (s_set 2 false nd k_str)
      (s_cons (s_forR 3 hp hc nd T.b_range (a_cons (gIntE T.c_SIGNS) a_nil) (s_cons (s_set 2 false nd (p_add (p_str (a_cons (p_mod (nm 1) k_int) a_nil) rfl T.b_str) (nm 2)))
      (s_one (s_set 1 false nd (p_div (nm 1) k_int)))))
      (s_one (s_ret (nm 2))))))
abbrev s_with_thing : Stmt := topS 10
theorem sc_with_thing : FnScope ["things", "name", "value", "found", "is_put", "one"] ["things", "name", "value"] (defScope s_with_thing) := ⟨rfl, rfl, rfl, by decide +kernel, rfl, by decide +kernel, by decide +kernel⟩
theorem d_with_thing (T : Txt G.K mg G)  {f : Addr} {fd : FuncData} (Fn : Fun G.K "with_thing" "with_thing" s_with_thing f fd) (hm : mg "with_thing" = some (.ref f)) : Df P w G.K mg base G "with_thing" 1 3 F_with_thing := by
  have nd := sc_with_thing.nd
  have B := Fn.binds (ps := ["things", "name", "value"]) fun _ _ _ _ _ _ us hl => match us, hl with | [_, _, _], _ => rfl
  refine ⟨⟨f, fd, _, def_ok (k := 0) (G := G) (g := g_with_thing) Fn sc_with_thing fun cdv A outer s H E hr tk hp => ?_, hm, Fn.kp, B⟩⟩
  have hc : (true : Bool) = true := rfl
  have hu := hr.units
  have hu1 := hu_of hr
  exact (s_cons (s_set 3 true nd (p_lst a_nil))
      (s_cons (s_set 4 false nd k_bl)
      (s_cons (s_forV 5 0 hp hc nd (s_cons (s_if (PW.pt (w_and (q_not (q_val (nm 4))) (pw_and1 (q_ge (p_ix (nm 5) k_int) (nm 1))))) (s_cons (s_app 3 (p_tup (a_cons (nm 1) (a_cons (nm 2) a_nil))))
      (s_one (s_set 4 false nd k_bl))) s_nil)
      (s_one (s_if (q_ne hu (p_ix (nm 5) k_int) (nm 1)) (s_one (s_app 3 (nm 5))) s_nil))))
      (s_cons (s_if (q_not (q_val (nm 4))) (s_one (s_app 3 (p_tup (a_cons (nm 1) (a_cons (nm 2) a_nil))))) s_nil)
      (s_one (s_retV 3))))))
abbrev s_parted : Stmt := topS 11
theorem sc_parted : FnScope ["room", "bits", "low", "high", "one"] ["room"] (defScope s_parted) := ⟨rfl, rfl, rfl, by decide +kernel, rfl, by decide +kernel, by decide +kernel⟩
theorem d_parted (T : Txt G.K mg G) (D_signs : Df P w G.K mg base G "signs" 3 1 F_signs) {f : Addr} {fd : FuncData} (Fn : Fun G.K "parted" "parted" s_parted f fd) (hm : mg "parted" = some (.ref f)) : Df P w G.K mg base G "parted" 4 1 F_parted := by
  have nd := sc_parted.nd
  have B := Fn.binds (ps := ["room"]) fun _ _ _ _ _ _ us hl => match us, hl with | [_], _ => rfl
  refine ⟨⟨f, fd, _, def_ok (k := 3) (G := G) (g := g_parted) Fn sc_parted fun cdv A outer s H E hr tk hp => ?_, hm, Fn.kp, B⟩⟩
  have hc : (true : Bool) = true := rfl
  have hu := hr.units
  have hu1 := hu_of hr
  exact (s_cons (s_set 1 false nd (p_ix (nm 0) k_int))
      (s_cons (s_setLc 2 true 4 [("one", 4)] hc nd (p_ix (nm 0) k_int) (blkOk_by (own := [("one", 4)]) (N := ["room", "bits", "low", "high", "one"]) (sc := defScope s_parted) (by decide +kernel)) (by simp) (fun _ _ _ _ _ => pg_name (i := 4) nd rfl (Or.inl rfl)) (fun _ _ _ _ _ => (ts_one (q_eq hu (p_ix (p_f D_signs hr tk0 (a_cons (p_ix (nm 4) k_int) a_nil)) (p_len (a_cons (nm 1) a_nil) rfl T.b_len)) k_str))) (fun _ _ _ _ _ => (nm 4)))
      (s_cons (s_setLc 3 true 4 [("one", 4)] hc nd (p_ix (nm 0) k_int) (blkOk_by (own := [("one", 4)]) (N := ["room", "bits", "low", "high", "one"]) (sc := defScope s_parted) (by decide +kernel)) (by simp) (fun _ _ _ _ _ => pg_name (i := 4) nd rfl (Or.inl rfl)) (fun _ _ _ _ _ => (ts_one (q_eq hu (p_ix (p_f D_signs hr tk0 (a_cons (p_ix (nm 4) k_int) a_nil)) (p_len (a_cons (nm 1) a_nil) rfl T.b_len)) k_str))) (fun _ _ _ _ _ => (nm 4)))
      (s_one (s_retG2 2 3 (p_add (nm 1) k_str) (p_add (nm 1) k_str))))))
abbrev s_joined : Stmt := topS 12
theorem sc_joined : FnScope ["one", "other", "found", "thing"] ["one", "other"] (defScope s_joined) := ⟨rfl, rfl, rfl, by decide +kernel, rfl, by decide +kernel, by decide +kernel⟩
theorem d_joined (T : Txt G.K mg G) (D_with_thing : Df P w G.K mg base G "with_thing" 1 3 F_with_thing) {f : Addr} {fd : FuncData} (Fn : Fun G.K "joined" "joined" s_joined f fd) (hm : mg "joined" = some (.ref f)) : Df P w G.K mg base G "joined" 2 2 F_joined := by
  have nd := sc_joined.nd
  have B := Fn.binds (ps := ["one", "other"]) fun _ _ _ _ _ _ us hl => match us, hl with | [_, _], _ => rfl
  refine ⟨⟨f, fd, _, def_ok (k := 1) (G := G) (g := g_joined) Fn sc_joined fun cdv A outer s H E hr tk hp => ?_, hm, Fn.kp, B⟩⟩
  have hc : (true : Bool) = true := rfl
  have hu := hr.units
  have hu1 := hu_of hr
  exact (s_cons (s_set 2 true nd (p_list (a_cons (p_ix (nm 0) k_int) a_nil) rfl T.b_list))
      (s_cons (s_for 3 hp hc nd (p_ix (nm 1) k_int) (s_one (s_set 2 true nd (p_f D_with_thing hr tk (a_cons (nm 2) (a_cons (p_ix (nm 3) k_int) (a_cons (p_ix (nm 3) k_int) a_nil)))))))
      (s_one (s_retG1 2 (p_sl (p_ix (nm 0) k_int) o_none (o_some (p_neg k_int)))))))
abbrev s_l_whole : Stmt := topS 14
theorem sc_l_whole : FnScope ["_law_found"] ["_law_found"] (defScope s_l_whole) := ⟨rfl, rfl, rfl, by decide +kernel, rfl, by decide +kernel, by decide +kernel⟩
theorem d_l_whole (T : Txt G.K mg G)  {f : Addr} {fd : FuncData} (Fn : Fun G.K "_law_whole" "_law_whole" s_l_whole f fd) (hm : mg "_law_whole" = some (.ref f)) : Df P w G.K mg base G "_law_whole" 1 1 F_l_whole := by
  have nd := sc_l_whole.nd
  have B := Fn.binds (ps := ["_law_found"]) fun _ _ _ _ _ _ us hl => match us, hl with | [_], _ => rfl
  refine ⟨⟨f, fd, _, def_ok (k := 0) (G := G) (g := g_l_whole) Fn sc_l_whole fun cdv A outer s H E hr tk hp => ?_, hm, Fn.kp, B⟩⟩
  have hc : (true : Bool) = true := rfl
  have hu := hr.units
  have hu1 := hu_of hr
  exact (s_one (s_ret (p_and (p_isi (t := "int") T.b_isinstance T.b_int (by decide +kernel) (nm 0)) (pe_one (p_not (p_isi (t := "bool") T.b_isinstance T.b_bool (by decide +kernel) (nm 0)))))))
abbrev s_l_cell_at : Stmt := topS 15
theorem sc_l_cell_at : FnScope ["_law_script", "_law_k"] ["_law_script", "_law_k"] (defScope s_l_cell_at) := ⟨rfl, rfl, rfl, by decide +kernel, rfl, by decide +kernel, by decide +kernel⟩
theorem d_l_cell_at (T : Txt G.K mg G)  {f : Addr} {fd : FuncData} (Fn : Fun G.K "_law_cell_at" "_law_cell_at" s_l_cell_at f fd) (hm : mg "_law_cell_at" = some (.ref f)) : Df P w G.K mg base G "_law_cell_at" 1 2 F_l_cell_at := by
  have nd := sc_l_cell_at.nd
  have B := Fn.binds (ps := ["_law_script", "_law_k"]) fun _ _ _ _ _ _ us hl => match us, hl with | [_, _], _ => rfl
  refine ⟨⟨f, fd, _, def_ok (k := 0) (G := G) (g := g_l_cell_at) Fn sc_l_cell_at fun cdv A outer s H E hr tk hp => ?_, hm, Fn.kp, B⟩⟩
  have hc : (true : Bool) = true := rfl
  have hu := hr.units
  have hu1 := hu_of hr
  exact (s_cons (s_if (q_lt (nm 1) (p_len (a_cons (nm 0) a_nil) rfl T.b_len)) (s_one (s_ret (p_ix (nm 0) (nm 1)))) s_nil)
      (s_one (s_ret k_int)))
abbrev s_l_signs : Stmt := topS 16
theorem sc_l_signs : FnScope ["_law_name", "_law_left", "_law_found", "_law_worth"] ["_law_name"] (defScope s_l_signs) := ⟨rfl, rfl, rfl, by decide +kernel, rfl, by decide +kernel, by decide +kernel⟩
theorem d_l_signs (T : Txt G.K mg G)  {f : Addr} {fd : FuncData} (Fn : Fun G.K "_law_signs" "_law_signs" s_l_signs f fd) (hm : mg "_law_signs" = some (.ref f)) : Df P w G.K mg base G "_law_signs" 1 1 F_l_signs := by
  have nd := sc_l_signs.nd
  have B := Fn.binds (ps := ["_law_name"]) fun _ _ _ _ _ _ us hl => match us, hl with | [_], _ => rfl
  refine ⟨⟨f, fd, _, def_ok (k := 0) (G := G) (g := g_l_signs) Fn sc_l_signs fun cdv A outer s H E hr tk hp => ?_, hm, Fn.kp, B⟩⟩
  have hc : (true : Bool) = true := rfl
  have hu := hr.units
  have hu1 := hu_of hr
  exact (s_cons (s_set 1 false nd (p_mod (p_add (p_mul k_int (nm 0)) k_int) k_int))
      (s_cons (s_set 2 false nd k_str)
      (s_cons (s_for 3 hp hc nd (p_lst (a_cons k_int (a_cons k_int (a_cons k_int (a_cons k_int (a_cons k_int (a_cons k_int (a_cons k_int (a_cons k_int a_nil))))))))) (s_cons (s_set 2 false nd (p_add (nm 2) (p_str (a_cons (p_int (a_cons (p_ge (nm 1) (nm 3)) a_nil) rfl T.b_int) a_nil) rfl T.b_str)))
      (s_one (s_set 1 false nd (p_sub (nm 1) (p_mul (nm 3) (p_int (a_cons (p_ge (nm 1) (nm 3)) a_nil) rfl T.b_int)))))))
      (s_one (s_ret (nm 2))))))
abbrev s_l_known : Stmt := topS 17
theorem sc_l_known : FnScope ["_law_bits", "_law_low", "_law_k", "_law_many", "_law_j"] ["_law_bits"] (defScope s_l_known) := ⟨rfl, rfl, rfl, by decide +kernel, rfl, by decide +kernel, by decide +kernel⟩
theorem d_l_known (T : Txt G.K mg G)  {f : Addr} {fd : FuncData} (Fn : Fun G.K "_law_known" "_law_known" s_l_known f fd) (hm : mg "_law_known" = some (.ref f)) : Df P w G.K mg base G "_law_known" 1 1 F_l_known := by
  have nd := sc_l_known.nd
  have B := Fn.binds (ps := ["_law_bits"]) fun _ _ _ _ _ _ us hl => match us, hl with | [_], _ => rfl
  refine ⟨⟨f, fd, _, def_ok (k := 0) (G := G) (g := g_l_known) Fn sc_l_known fun cdv A outer s H E hr tk hp => ?_, hm, Fn.kp, B⟩⟩
  have hc : (true : Bool) = true := rfl
  have hu := hr.units
  have hu1 := hu_of hr
  exact (s_cons (s_set 1 false nd k_int)
      (s_cons (s_forR 2 hp hc nd T.b_range (a_cons k_int a_nil) (s_one (s_set 1 false nd (p_add (p_mul k_int (nm 1)) (p_int (a_cons (p_eq hu (p_sl (nm 0) (o_some (nm 2)) (o_some (p_add (nm 2) k_int))) k_str) a_nil) rfl T.b_int)))))
      (s_cons (s_set 3 false nd (p_ix (p_lst (a_cons k_int (a_cons k_int (a_cons k_int (a_cons k_int (a_cons k_int (a_cons k_int (a_cons k_int (a_cons k_int (a_cons k_int a_nil)))))))))) (p_len (a_cons (nm 0) a_nil) rfl T.b_len)))
      (s_one (s_ret (p_sorted hu (a_cons (p_lcR 4 [("_law_j", 4)] hc nd T.b_range (a_cons (nm 3) a_nil) (blkOk_by (own := [("_law_j", 4)]) (N := ["_law_bits", "_law_low", "_law_k", "_law_many", "_law_j"]) (sc := defScope s_l_known) (by decide +kernel)) (by simp) (fun _ _ _ _ _ => pg_name (i := 4) nd rfl (Or.inl rfl)) (fun _ _ _ _ _ => ts_nil) (fun _ _ _ _ _ => (p_mod (p_mul (p_sub (p_add (nm 1) (nm 4)) k_int) k_int) k_int))) a_nil) rfl T.b_sorted))))))
abbrev s_l_is_room : Stmt := topS 18
theorem sc_l_is_room : FnScope ["_law_found", "_law_bits", "_law_due", "_law_k", "_law_one"] ["_law_found", "_law_bits", "_law_due"] (defScope s_l_is_room) := ⟨rfl, rfl, rfl, by decide +kernel, rfl, by decide +kernel, by decide +kernel⟩
theorem d_l_is_room (T : Txt G.K mg G) (D_l_whole : Df P w G.K mg base G "_law_whole" 1 1 F_l_whole) {f : Addr} {fd : FuncData} (Fn : Fun G.K "_law_is_room" "_law_is_room" s_l_is_room f fd) (hm : mg "_law_is_room" = some (.ref f)) : Df P w G.K mg base G "_law_is_room" 2 3 F_l_is_room := by
  have nd := sc_l_is_room.nd
  have B := Fn.binds (ps := ["_law_found", "_law_bits", "_law_due"]) fun _ _ _ _ _ _ us hl => match us, hl with | [_, _, _], _ => rfl
  refine ⟨⟨f, fd, _, def_ok (k := 1) (G := G) (g := g_l_is_room) Fn sc_l_is_room fun cdv A outer s H E hr tk hp => ?_, hm, Fn.kp, B⟩⟩
  have hc : (true : Bool) = true := rfl
  have hu := hr.units
  have hu1 := hu_of hr
  exact (s_cons (s_if (PW.pt (w_or (q_not (q_val (p_isi (t := "tuple") T.b_isinstance T.b_tuple (by decide +kernel) (nm 0)))) (w_or (q_ne hu (p_len (a_cons (nm 0) a_nil) rfl T.b_len) k_int) (w_or (q_not (q_val (p_isi (t := "str") T.b_isinstance T.b_str (by decide +kernel) (p_ix (nm 0) k_int)))) (pw_or1 (q_ne hu (p_ix (nm 0) k_int) (nm 1))))))) (s_one (s_ret k_bl)) s_nil)
      (s_cons (s_if (PW.pt (w_or (q_not (q_val (p_isi (t := "list") T.b_isinstance T.b_list (by decide +kernel) (p_ix (nm 0) k_int)))) (pw_or1 (q_ne hu (p_len (a_cons (p_ix (nm 0) k_int) a_nil) rfl T.b_len) (p_len (a_cons (nm 2) a_nil) rfl T.b_len))))) (s_one (s_ret k_bl)) s_nil)
      (s_cons (s_forR 3 hp hc nd T.b_range (a_cons (p_len (a_cons (nm 2) a_nil) rfl T.b_len) a_nil) (s_cons (s_set 4 false nd (p_ix (p_ix (nm 0) k_int) (nm 3)))
      (s_cons (s_if (PW.pt (w_or (q_not (q_val (p_isi (t := "tuple") T.b_isinstance T.b_tuple (by decide +kernel) (nm 4)))) (w_or (q_ne hu (p_len (a_cons (nm 4) a_nil) rfl T.b_len) k_int) (w_or (q_not (q_val (p_f D_l_whole hr tk (a_cons (p_ix (nm 4) k_int) a_nil)))) (pw_or1 (q_not (q_val (p_f D_l_whole hr tk (a_cons (p_ix (nm 4) k_int) a_nil))))))))) (s_one (s_ret k_bl)) s_nil)
      (s_one (s_if (PW.pt (w_or (q_ne hu (p_ix (nm 4) k_int) (p_ix (p_ix (nm 2) (nm 3)) k_int)) (pw_or1 (q_ne hu (p_ix (nm 4) k_int) (p_ix (p_ix (nm 2) (nm 3)) k_int))))) (s_one (s_ret k_bl)) s_nil)))))
      (s_one (s_ret k_bl)))))
abbrev s_l_is_in : Stmt := topS 19
theorem sc_l_is_in : FnScope ["_law_name", "_law_way", "_law_draw"] ["_law_name", "_law_way", "_law_draw"] (defScope s_l_is_in) := ⟨rfl, rfl, rfl, by decide +kernel, rfl, by decide +kernel, by decide +kernel⟩
theorem d_l_is_in (T : Txt G.K mg G)  {f : Addr} {fd : FuncData} (Fn : Fun G.K "_law_is_in" "_law_is_in" s_l_is_in f fd) (hm : mg "_law_is_in" = some (.ref f)) : Df P w G.K mg base G "_law_is_in" 1 3 F_l_is_in := by
  have nd := sc_l_is_in.nd
  have B := Fn.binds (ps := ["_law_name", "_law_way", "_law_draw"]) fun _ _ _ _ _ _ us hl => match us, hl with | [_, _, _], _ => rfl
  refine ⟨⟨f, fd, _, def_ok (k := 0) (G := G) (g := g_l_is_in) Fn sc_l_is_in fun cdv A outer s H E hr tk hp => ?_, hm, Fn.kp, B⟩⟩
  have hc : (true : Bool) = true := rfl
  have hu := hr.units
  have hu1 := hu_of hr
  exact (s_cons (s_if (q_eq hu (nm 1) k_int) (s_one (s_ret k_bl)) s_nil)
      (s_cons (s_if (q_eq hu (nm 1) k_int) (s_one (s_ret (p_eq hu (p_mod (p_mod (p_mul (nm 0) k_int) k_int) k_int) (p_mod (nm 2) k_int)))) s_nil)
      (s_cons (s_if (q_eq hu (nm 1) k_int) (s_one (s_ret (p_eq hu (p_mod (p_mod (p_mul (nm 0) k_int) k_int) k_int) (p_mod (nm 2) k_int)))) s_nil)
      (s_one (s_ret k_bl)))))
abbrev s_law : Stmt := topS 20
theorem sc_law : FnScope ["_law_script", "_law_bits", "_law_way", "_law_draw", "_law_step", "_law_names", "_law_things", "_law_handed", "_law_found", "_law_half", "_law_due", "_law_name", "_law_one"] ["_law_script"] (defScope s_law) := ⟨rfl, rfl, rfl, by decide +kernel, rfl, by decide +kernel, by decide +kernel⟩
end
theorem d_law_fn {P : Program} {w : World} {mg : Str → Option Value} {base : Heap} {G : Gx} (T : Txt G.K mg G) (D_l_signs : Df P w G.K mg base G "_law_signs" 1 1 F_l_signs) (D_l_cell_at : Df P w G.K mg base G "_law_cell_at" 1 2 F_l_cell_at) (D_l_is_in : Df P w G.K mg base G "_law_is_in" 1 3 F_l_is_in) (D_l_known : Df P w G.K mg base G "_law_known" 1 1 F_l_known) (D_parted : Df P w G.K mg base G "parted" 4 1 F_parted) (D_l_is_room : Df P w G.K mg base G "_law_is_room" 2 3 F_l_is_room) (D_joined : Df P w G.K mg base G "joined" 2 2 F_joined) {f : Addr} {fd : FuncData} (Fn : Fun G.K "law" "law" s_law f fd) : FnOk P w G.K mg base (L2.CX P w) 5 f fd ["_law_script"] (spF G 1 F_law) := by
  have nd := sc_law.nd
  refine def_ok (k := 4) (N := ["_law_script", "_law_bits", "_law_way", "_law_draw", "_law_step", "_law_names", "_law_things", "_law_handed", "_law_found", "_law_half", "_law_due", "_law_name", "_law_one"]) (ps := ["_law_script"]) (G := G) (g := g_law) Fn sc_law fun cdv A outer s H E hr tk hp => ?_
  have hc : (true : Bool) = true := rfl
  have hu := hr.units
  have hu1 := hu_of hr
  exact (s_cons (s_set 1 false nd (p_sl (p_f D_l_signs hr tk (a_cons (p_mod (p_f D_l_cell_at hr tk (a_cons (nm 0) (a_cons k_int a_nil))) k_int) a_nil)) o_none (o_some (p_mod (p_f D_l_cell_at hr tk (a_cons (nm 0) (a_cons k_int a_nil))) k_int))))
      (s_cons (s_set 2 false nd (p_mod (p_mod (p_f D_l_cell_at hr tk (a_cons (nm 0) (a_cons k_int a_nil))) k_int) k_int))
      (s_cons (s_set 3 false nd (p_f D_l_cell_at hr tk (a_cons (nm 0) (a_cons k_int a_nil))))
      (s_cons (s_set 4 false nd (p_mod (p_f D_l_cell_at hr tk (a_cons (nm 0) (a_cons k_int a_nil))) (p_pow k_int k_int)))
      (s_cons (s_set 5 false nd (p_sl (p_lc 11 [("_law_name", 11)] hc nd (p_f D_l_known hr tk (a_cons (nm 1) a_nil)) (blkOk_by (own := [("_law_name", 11)]) (N := ["_law_script", "_law_bits", "_law_way", "_law_draw", "_law_step", "_law_names", "_law_things", "_law_handed", "_law_found", "_law_half", "_law_due", "_law_name", "_law_one"]) (sc := defScope s_law) (by decide +kernel)) (by simp) (fun _ _ _ _ _ => pg_name (i := 11) nd rfl (Or.inl rfl)) (fun _ _ _ _ _ => (ts_one (q_val (p_f D_l_is_in hr tk0 (a_cons (nm 11) (a_cons (nm 2) (a_cons (nm 3) a_nil))))))) (fun _ _ _ _ _ => (nm 11))) o_none (o_some k_int)))
      (s_cons (s_setLc 6 false 11 [("_law_name", 11)] hc nd (nm 5) (blkOk_by (own := [("_law_name", 11)]) (N := ["_law_script", "_law_bits", "_law_way", "_law_draw", "_law_step", "_law_names", "_law_things", "_law_handed", "_law_found", "_law_half", "_law_due", "_law_name", "_law_one"]) (sc := defScope s_law) (by decide +kernel)) (by simp) (fun _ _ _ _ _ => pg_name (i := 11) nd rfl (Or.inl rfl)) (fun _ _ _ _ _ => ts_nil) (fun _ _ _ _ _ => (p_tup (a_cons (nm 11) (a_cons (p_sub (nm 4) (p_mul (nm 11) (p_mod (nm 3) k_int))) a_nil)))))
      (s_cons (s_set 7 false nd (p_tup (a_cons (nm 1) (a_cons (p_list (a_cons (nm 6) a_nil) rfl T.b_list) a_nil))))
      (s_cons (s_set 8 true nd (p_f D_parted hr tk (a_cons (nm 7) a_nil)))
      (s_cons (s_if (q_fr (PW.pt (w_or (q_not (q_val (p_isi (t := "tuple") T.b_isinstance T.b_tuple (by decide +kernel) (nm 8)))) (w_or (q_ne hu (p_len (a_cons (nm 8) a_nil) rfl T.b_len) k_int) (pw_or1 (q_not (q_val (p_f D_l_is_room hr tk (a_cons (nm 7) (a_cons (nm 1) (a_cons (nm 6) a_nil))))))))))) (s_one (s_ret k_bl)) s_nil)
      (s_cons (s_for 9 hp hc nd (p_lst (a_cons k_int (a_cons k_int a_nil))) (s_cons (s_setLc 10 false 12 [("_law_one", 12)] hc nd (nm 6) (blkOk_by (own := [("_law_one", 12)]) (N := ["_law_script", "_law_bits", "_law_way", "_law_draw", "_law_step", "_law_names", "_law_things", "_law_handed", "_law_found", "_law_half", "_law_due", "_law_name", "_law_one"]) (sc := defScope s_law) (by decide +kernel)) (by simp) (fun _ _ _ _ _ => pg_name (i := 12) nd rfl (Or.inl rfl)) (fun _ _ _ _ _ => (ts_one (q_eq hu (p_ix (p_f D_l_signs hr tk0 (a_cons (p_ix (nm 12) k_int) a_nil)) (p_len (a_cons (nm 1) a_nil) rfl T.b_len)) (p_ix k_str (nm 9))))) (fun _ _ _ _ _ => (nm 12)))
      (s_one (s_if (q_fr (q_not (q_val (p_f D_l_is_room hr tk (a_cons (p_ix (nm 8) (nm 9)) (a_cons (p_add (nm 1) (p_ix k_str (nm 9))) (a_cons (nm 10) a_nil))))))) (s_one (s_ret k_bl)) s_nil))))
      (s_cons (s_if (q_fr (q_not (q_val (p_f D_l_is_room hr tk (a_cons (p_f D_joined hr tk (a_cons (p_ix (nm 8) k_int) (a_cons (p_ix (nm 8) k_int) a_nil))) (a_cons (nm 1) (a_cons (nm 6) a_nil))))))) (s_one (s_ret k_bl)) s_nil)
      (s_cons (s_gapp2 8 k_int k_int (p_tup (a_cons k_int (a_cons k_int a_nil))))
      (s_cons (s_gapp2 8 k_int k_int (p_tup (a_cons k_int (a_cons k_int a_nil))))
      (s_one (s_ret (p_f D_l_is_room hr tk (a_cons (nm 7) (a_cons (nm 1) (a_cons (nm 6) a_nil)))))))))))))))))))
def spAny (K : PySem.W.Frag) : Sp := fun vs H Q E => ∀ (C : Addr) (ec : Nat → Addr), spF ⟨K, C, ec⟩ 1 F_law vs H Q E
theorem all_mk {l : PySem.W.OpenLaw} {w : World} {K : PySem.W.Frag} {h : Heap} {mg : Str → Option Value} {fa : Addr} (X : K.In h) (Gl0 : h.Ns mainGlobals mg) (hfa : mg "law" = some (.ref fa))
    {t_NAMES : Tok} {t_SIGNS : Tok} {A1 : Addr} {f_need_name : Addr} {od_need_name an_need_name : Option Addr} {sl_need_name : Array (Option Value)} {oc_need_name kV_need_name dc_need_name pm_need_name cd_need_name ct_need_name : Value} {f_mixed : Addr} {od_mixed an_mixed : Option Addr} {sl_mixed : Array (Option Value)} {oc_mixed kV_mixed dc_mixed pm_mixed cd_mixed ct_mixed : Value} {f_signs : Addr} {od_signs an_signs : Option Addr} {sl_signs : Array (Option Value)} {oc_signs kV_signs dc_signs pm_signs cd_signs ct_signs : Value} {f_with_thing : Addr} {od_with_thing an_with_thing : Option Addr} {sl_with_thing : Array (Option Value)} {oc_with_thing kV_with_thing dc_with_thing pm_with_thing cd_with_thing ct_with_thing : Value} {f_parted : Addr} {od_parted an_parted : Option Addr} {sl_parted : Array (Option Value)} {oc_parted kV_parted dc_parted pm_parted cd_parted ct_parted : Value} {f_joined : Addr} {od_joined an_joined : Option Addr} {sl_joined : Array (Option Value)} {oc_joined kV_joined dc_joined pm_joined cd_joined ct_joined : Value} {f_l_whole : Addr} {od_l_whole an_l_whole : Option Addr} {sl_l_whole : Array (Option Value)} {oc_l_whole kV_l_whole dc_l_whole pm_l_whole cd_l_whole ct_l_whole : Value} {f_l_cell_at : Addr} {od_l_cell_at an_l_cell_at : Option Addr} {sl_l_cell_at : Array (Option Value)} {oc_l_cell_at kV_l_cell_at dc_l_cell_at pm_l_cell_at cd_l_cell_at ct_l_cell_at : Value} {f_l_signs : Addr} {od_l_signs an_l_signs : Option Addr} {sl_l_signs : Array (Option Value)} {oc_l_signs kV_l_signs dc_l_signs pm_l_signs cd_l_signs ct_l_signs : Value} {f_l_known : Addr} {od_l_known an_l_known : Option Addr} {sl_l_known : Array (Option Value)} {oc_l_known kV_l_known dc_l_known pm_l_known cd_l_known ct_l_known : Value} {f_l_is_room : Addr} {od_l_is_room an_l_is_room : Option Addr} {sl_l_is_room : Array (Option Value)} {oc_l_is_room kV_l_is_room dc_l_is_room pm_l_is_room cd_l_is_room ct_l_is_room : Value} {f_l_is_in : Addr} {od_l_is_in an_l_is_in : Option Addr} {sl_l_is_in : Array (Option Value)} {oc_l_is_in kV_l_is_in dc_l_is_in pm_l_is_in cd_l_is_in ct_l_is_in : Value} {f_law : Addr} {od_law an_law : Option Addr} {sl_law : Array (Option Value)} {oc_law kV_law dc_law pm_law cd_law ct_law : Value}
    (z_bool : PySem.W.nsIn K mainGlobals "bool" = some none)
    (z_int : PySem.W.nsIn K mainGlobals "int" = some none)
    (z_isinstance : PySem.W.nsIn K mainGlobals "isinstance" = some none)
    (z_len : PySem.W.nsIn K mainGlobals "len" = some none)
    (z_list : PySem.W.nsIn K mainGlobals "list" = some none)
    (z_range : PySem.W.nsIn K mainGlobals "range" = some none)
    (z_sorted : PySem.W.nsIn K mainGlobals "sorted" = some none)
    (z_str : PySem.W.nsIn K mainGlobals "str" = some none)
    (z_tuple : PySem.W.nsIn K mainGlobals "tuple" = some none)
    (z_NAMES : PySem.W.nsIn K mainGlobals "NAMES" = some (some (.int 256 t_NAMES)))
    (z_SIGNS : PySem.W.nsIn K mainGlobals "SIGNS" = some (some (.int 8 t_SIGNS)))
    (ze_BadName : PySem.W.nsIn K mainGlobals "BadName" = some (some (.ref A1)))
    (zx_BadName : PySem.W.excIn K A1 [.type "ValueError", .type "Exception", .type "BaseException", .type "object"] "ValueError.__new__" = true)
    (zk_BadName : PySem.W.keepIn K (.ref A1) = true)
    (zb_BadName : PySem.W.subIn K (.ref A1) (.type "BaseException") = some true)
    (zt_BadName : PySem.W.typeIn K (.ref A1) = some (.type "type"))
    (a_need_name : PySem.W.nsIn K mainGlobals "need_name" = some (some (.ref f_need_name)))
    (l_need_name : K.lookup f_need_name = some ⟨oc_need_name, od_need_name, .func (PySem.W.fnOf "need_name" "need_name" (defArgs s_need_name) (defBody s_need_name) (defScope s_need_name) .none kV_need_name dc_need_name pm_need_name an_need_name cd_need_name ct_need_name), sl_need_name⟩)
    (c_need_name : PySem.W.codeIn K cd_need_name "need_name" = true)
    (k_need_name : PySem.W.keepIn K (.ref f_need_name) = true)
    (a_mixed : PySem.W.nsIn K mainGlobals "mixed" = some (some (.ref f_mixed)))
    (l_mixed : K.lookup f_mixed = some ⟨oc_mixed, od_mixed, .func (PySem.W.fnOf "mixed" "mixed" (defArgs s_mixed) (defBody s_mixed) (defScope s_mixed) .none kV_mixed dc_mixed pm_mixed an_mixed cd_mixed ct_mixed), sl_mixed⟩)
    (c_mixed : PySem.W.codeIn K cd_mixed "mixed" = true)
    (k_mixed : PySem.W.keepIn K (.ref f_mixed) = true)
    (a_signs : PySem.W.nsIn K mainGlobals "signs" = some (some (.ref f_signs)))
    (l_signs : K.lookup f_signs = some ⟨oc_signs, od_signs, .func (PySem.W.fnOf "signs" "signs" (defArgs s_signs) (defBody s_signs) (defScope s_signs) .none kV_signs dc_signs pm_signs an_signs cd_signs ct_signs), sl_signs⟩)
    (c_signs : PySem.W.codeIn K cd_signs "signs" = true)
    (k_signs : PySem.W.keepIn K (.ref f_signs) = true)
    (a_with_thing : PySem.W.nsIn K mainGlobals "with_thing" = some (some (.ref f_with_thing)))
    (l_with_thing : K.lookup f_with_thing = some ⟨oc_with_thing, od_with_thing, .func (PySem.W.fnOf "with_thing" "with_thing" (defArgs s_with_thing) (defBody s_with_thing) (defScope s_with_thing) .none kV_with_thing dc_with_thing pm_with_thing an_with_thing cd_with_thing ct_with_thing), sl_with_thing⟩)
    (c_with_thing : PySem.W.codeIn K cd_with_thing "with_thing" = true)
    (k_with_thing : PySem.W.keepIn K (.ref f_with_thing) = true)
    (a_parted : PySem.W.nsIn K mainGlobals "parted" = some (some (.ref f_parted)))
    (l_parted : K.lookup f_parted = some ⟨oc_parted, od_parted, .func (PySem.W.fnOf "parted" "parted" (defArgs s_parted) (defBody s_parted) (defScope s_parted) .none kV_parted dc_parted pm_parted an_parted cd_parted ct_parted), sl_parted⟩)
    (c_parted : PySem.W.codeIn K cd_parted "parted" = true)
    (k_parted : PySem.W.keepIn K (.ref f_parted) = true)
    (a_joined : PySem.W.nsIn K mainGlobals "joined" = some (some (.ref f_joined)))
    (l_joined : K.lookup f_joined = some ⟨oc_joined, od_joined, .func (PySem.W.fnOf "joined" "joined" (defArgs s_joined) (defBody s_joined) (defScope s_joined) .none kV_joined dc_joined pm_joined an_joined cd_joined ct_joined), sl_joined⟩)
    (c_joined : PySem.W.codeIn K cd_joined "joined" = true)
    (k_joined : PySem.W.keepIn K (.ref f_joined) = true)
    (a_l_whole : PySem.W.nsIn K mainGlobals "_law_whole" = some (some (.ref f_l_whole)))
    (l_l_whole : K.lookup f_l_whole = some ⟨oc_l_whole, od_l_whole, .func (PySem.W.fnOf "_law_whole" "_law_whole" (defArgs s_l_whole) (defBody s_l_whole) (defScope s_l_whole) .none kV_l_whole dc_l_whole pm_l_whole an_l_whole cd_l_whole ct_l_whole), sl_l_whole⟩)
    (c_l_whole : PySem.W.codeIn K cd_l_whole "_law_whole" = true)
    (k_l_whole : PySem.W.keepIn K (.ref f_l_whole) = true)
    (a_l_cell_at : PySem.W.nsIn K mainGlobals "_law_cell_at" = some (some (.ref f_l_cell_at)))
    (l_l_cell_at : K.lookup f_l_cell_at = some ⟨oc_l_cell_at, od_l_cell_at, .func (PySem.W.fnOf "_law_cell_at" "_law_cell_at" (defArgs s_l_cell_at) (defBody s_l_cell_at) (defScope s_l_cell_at) .none kV_l_cell_at dc_l_cell_at pm_l_cell_at an_l_cell_at cd_l_cell_at ct_l_cell_at), sl_l_cell_at⟩)
    (c_l_cell_at : PySem.W.codeIn K cd_l_cell_at "_law_cell_at" = true)
    (k_l_cell_at : PySem.W.keepIn K (.ref f_l_cell_at) = true)
    (a_l_signs : PySem.W.nsIn K mainGlobals "_law_signs" = some (some (.ref f_l_signs)))
    (l_l_signs : K.lookup f_l_signs = some ⟨oc_l_signs, od_l_signs, .func (PySem.W.fnOf "_law_signs" "_law_signs" (defArgs s_l_signs) (defBody s_l_signs) (defScope s_l_signs) .none kV_l_signs dc_l_signs pm_l_signs an_l_signs cd_l_signs ct_l_signs), sl_l_signs⟩)
    (c_l_signs : PySem.W.codeIn K cd_l_signs "_law_signs" = true)
    (k_l_signs : PySem.W.keepIn K (.ref f_l_signs) = true)
    (a_l_known : PySem.W.nsIn K mainGlobals "_law_known" = some (some (.ref f_l_known)))
    (l_l_known : K.lookup f_l_known = some ⟨oc_l_known, od_l_known, .func (PySem.W.fnOf "_law_known" "_law_known" (defArgs s_l_known) (defBody s_l_known) (defScope s_l_known) .none kV_l_known dc_l_known pm_l_known an_l_known cd_l_known ct_l_known), sl_l_known⟩)
    (c_l_known : PySem.W.codeIn K cd_l_known "_law_known" = true)
    (k_l_known : PySem.W.keepIn K (.ref f_l_known) = true)
    (a_l_is_room : PySem.W.nsIn K mainGlobals "_law_is_room" = some (some (.ref f_l_is_room)))
    (l_l_is_room : K.lookup f_l_is_room = some ⟨oc_l_is_room, od_l_is_room, .func (PySem.W.fnOf "_law_is_room" "_law_is_room" (defArgs s_l_is_room) (defBody s_l_is_room) (defScope s_l_is_room) .none kV_l_is_room dc_l_is_room pm_l_is_room an_l_is_room cd_l_is_room ct_l_is_room), sl_l_is_room⟩)
    (c_l_is_room : PySem.W.codeIn K cd_l_is_room "_law_is_room" = true)
    (k_l_is_room : PySem.W.keepIn K (.ref f_l_is_room) = true)
    (a_l_is_in : PySem.W.nsIn K mainGlobals "_law_is_in" = some (some (.ref f_l_is_in)))
    (l_l_is_in : K.lookup f_l_is_in = some ⟨oc_l_is_in, od_l_is_in, .func (PySem.W.fnOf "_law_is_in" "_law_is_in" (defArgs s_l_is_in) (defBody s_l_is_in) (defScope s_l_is_in) .none kV_l_is_in dc_l_is_in pm_l_is_in an_l_is_in cd_l_is_in ct_l_is_in), sl_l_is_in⟩)
    (c_l_is_in : PySem.W.codeIn K cd_l_is_in "_law_is_in" = true)
    (k_l_is_in : PySem.W.keepIn K (.ref f_l_is_in) = true)
    (a_law : PySem.W.nsIn K mainGlobals "law" = some (some (.ref f_law)))
    (l_law : K.lookup f_law = some ⟨oc_law, od_law, .func (PySem.W.fnOf "law" "law" (defArgs s_law) (defBody s_law) (defScope s_law) .none kV_law dc_law pm_law an_law cd_law ct_law), sl_law⟩)
    (c_law : PySem.W.codeIn K cd_law "law" = true)
    (k_law : PySem.W.keepIn K (.ref f_law) = true)
    : ∃ fd : FuncData, (∀ (s : Shared) (u : Value), BindsTo s fd ⟨[u], []⟩ [("_law_script", u)]) ∧ ∀ base : Heap, K.In base → base.Ns mainGlobals mg → FnOk l.prog w K mg base (L2.CX l.prog w) 5 fa fd ["_law_script"] (spAny K) := by
  have e := hfa.symm.trans (PySem.W.mg_of X Gl0 a_law)
  cases e
  let G0 : Gx := ⟨K, 0, fun c => if c = 1 then A1 else 0⟩
  have T : Txt G0.K mg G0 := ⟨PySem.W.mg_none_of X Gl0 z_bool, PySem.W.mg_none_of X Gl0 z_int, PySem.W.mg_none_of X Gl0 z_isinstance, PySem.W.mg_none_of X Gl0 z_len, PySem.W.mg_none_of X Gl0 z_list, PySem.W.mg_none_of X Gl0 z_range, PySem.W.mg_none_of X Gl0 z_sorted, PySem.W.mg_none_of X Gl0 z_str, PySem.W.mg_none_of X Gl0 z_tuple, ⟨_, PySem.W.mg_of X Gl0 z_NAMES⟩, ⟨_, PySem.W.mg_of X Gl0 z_SIGNS⟩, ⟨PySem.W.mg_of X Gl0 ze_BadName, zx_BadName, zk_BadName, zb_BadName, zt_BadName⟩⟩
  have Fn_need_name := fun_mk (st := s_need_name) l_need_name c_need_name k_need_name
  have Fn_mixed := fun_mk (st := s_mixed) l_mixed c_mixed k_mixed
  have Fn_signs := fun_mk (st := s_signs) l_signs c_signs k_signs
  have Fn_with_thing := fun_mk (st := s_with_thing) l_with_thing c_with_thing k_with_thing
  have Fn_parted := fun_mk (st := s_parted) l_parted c_parted k_parted
  have Fn_joined := fun_mk (st := s_joined) l_joined c_joined k_joined
  have Fn_l_whole := fun_mk (st := s_l_whole) l_l_whole c_l_whole k_l_whole
  have Fn_l_cell_at := fun_mk (st := s_l_cell_at) l_l_cell_at c_l_cell_at k_l_cell_at
  have Fn_l_signs := fun_mk (st := s_l_signs) l_l_signs c_l_signs k_l_signs
  have Fn_l_known := fun_mk (st := s_l_known) l_l_known c_l_known k_l_known
  have Fn_l_is_room := fun_mk (st := s_l_is_room) l_l_is_room c_l_is_room k_l_is_room
  have Fn_l_is_in := fun_mk (st := s_l_is_in) l_l_is_in c_l_is_in k_l_is_in
  have Fn_law := fun_mk (st := s_law) l_law c_law k_law
  refine ⟨PySem.W.fnOf "law" "law" (defArgs s_law) (defBody s_law) (defScope s_law) .none kV_law dc_law pm_law an_law cd_law ct_law, fun s v => .of_eq rfl, fun base _ _ => ?_⟩
  have D_need_name := d_need_name (P := l.prog) (w := w) (base := base) (G := G0) T  Fn_need_name (PySem.W.mg_of X Gl0 a_need_name)
  have D_mixed := d_mixed (P := l.prog) (w := w) (base := base) (G := G0) T D_need_name Fn_mixed (PySem.W.mg_of X Gl0 a_mixed)
  have D_signs := d_signs (P := l.prog) (w := w) (base := base) (G := G0) T D_mixed Fn_signs (PySem.W.mg_of X Gl0 a_signs)
  have D_with_thing := d_with_thing (P := l.prog) (w := w) (base := base) (G := G0) T  Fn_with_thing (PySem.W.mg_of X Gl0 a_with_thing)
  have D_parted := d_parted (P := l.prog) (w := w) (base := base) (G := G0) T D_signs Fn_parted (PySem.W.mg_of X Gl0 a_parted)
  have D_joined := d_joined (P := l.prog) (w := w) (base := base) (G := G0) T D_with_thing Fn_joined (PySem.W.mg_of X Gl0 a_joined)
  have D_l_whole := d_l_whole (P := l.prog) (w := w) (base := base) (G := G0) T  Fn_l_whole (PySem.W.mg_of X Gl0 a_l_whole)
  have D_l_cell_at := d_l_cell_at (P := l.prog) (w := w) (base := base) (G := G0) T  Fn_l_cell_at (PySem.W.mg_of X Gl0 a_l_cell_at)
  have D_l_signs := d_l_signs (P := l.prog) (w := w) (base := base) (G := G0) T  Fn_l_signs (PySem.W.mg_of X Gl0 a_l_signs)
  have D_l_known := d_l_known (P := l.prog) (w := w) (base := base) (G := G0) T  Fn_l_known (PySem.W.mg_of X Gl0 a_l_known)
  have D_l_is_room := d_l_is_room (P := l.prog) (w := w) (base := base) (G := G0) T D_l_whole Fn_l_is_room (PySem.W.mg_of X Gl0 a_l_is_room)
  have D_l_is_in := d_l_is_in (P := l.prog) (w := w) (base := base) (G := G0) T  Fn_l_is_in (PySem.W.mg_of X Gl0 a_l_is_in)
  exact (d_law_fn (P := l.prog) (w := w) (base := base) (G := G0) T D_l_signs D_l_cell_at D_l_is_in D_l_known D_parted D_l_is_room D_joined Fn_law).imp fun _ _ _ _ h => h _ _
theorem law_sp {G : Gx} {H : Hp} {a : Addr} {ns : List Int} (hl : ns.length ≤ 63) (hS : SqL G.K H a (ns.map V.int)) : spF G 1 F_law [.ref a] H (fun v _ => v = .bl true) fun _ _ _ => False := by
  refine ⟨H, [.p (.scr ns)], Ex.refl H, ⟨.scr hS, trivial⟩, rfl, ?_⟩
  rw [law_true ns hl]
  intro v T' H' _ r
  cases r.1
  rfl
theorem walk {l : PySem.W.OpenLaw} {q : Program} {loose : List Str} {XP : (Str → Option Value) → Heap → Prop} {YP : World → Heap → Prop} {d : DefRec} {K : Params → PySem.W.Frag} (hn : l.most = some 63) (hdf : d.params.defaults = [])
    (hY : ∀ (w : World) (h : Heap), YP w h → (K w.params).In h)
    (F : ∀ (w : World) (mg : Str → Option Value) (fa : Addr) (h : Heap), (K w.params).In h → h.Ns mainGlobals mg → mg d.name = some (.ref fa) →
      ∃ fd : FuncData, (∀ (s : Shared) (u : Value), BindsTo s fd ⟨[u], []⟩ [("_law_script", u)]) ∧ ∀ base : Heap, (K w.params).In base → base.Ns mainGlobals mg → FnOk l.prog w (K w.params) mg base (L2.CX l.prog w) 5 fa fd ["_law_script"] (spAny (K w.params))) :
    PySem.W.WalkO q loose XP YP l.row.toRowW d [] (fun f vs => PySem.call f vs) :=
  L2.walk_of (n := 63) (k := 5) (x := "_law_script") (CX := fun w => L2.CX l.prog w) (sp := fun w => spAny (K w.params)) hn (by decide) hdf ⟨rfl, by decide, by decide⟩ hY F
    (fun w H a ns hl _ hS C ec => law_sp hl hS) fun _ _ _ _ _ z => by
      obtain ⟨_, _, _, _, _, _, _, _, _, _, _, _, z⟩ := z
      exact z
end Run
open PySem PySem.W PyProof.Rows
set_option maxRecDepth 100000 in
set_option maxHeartbeats 0 in
theorem PySem.Challenge.cw_splitrooms_k04_a_room_parted_holds : PySem.Challenge.rw_splitrooms_k04_a_room_parted.Holds := by
  w_on; o_law; k_head; (case hw => w_witness2)
  k_fill
  refine Run.walk (l := PySem.Challenge.rw_splitrooms_k04_a_room_parted) rfl rfl (fun w h Y => PySem.W.kIn_of Y) ?F
  case F =>
    intro w mg fa h KX G hmg
    refine' Run.all_mk KX G hmg ?z_bool ?z_int ?z_isinstance ?z_len ?z_list ?z_range ?z_sorted ?z_str ?z_tuple ?z_NAMES ?z_SIGNS ?ze_BadName ?zx_BadName ?zk_BadName ?zb_BadName ?zt_BadName ?a_need_name ?l_need_name ?c_need_name ?k_need_name ?a_mixed ?l_mixed ?c_mixed ?k_mixed ?a_signs ?l_signs ?c_signs ?k_signs ?a_with_thing ?l_with_thing ?c_with_thing ?k_with_thing ?a_parted ?l_parted ?c_parted ?k_parted ?a_joined ?l_joined ?c_joined ?k_joined ?a_l_whole ?l_l_whole ?c_l_whole ?k_l_whole ?a_l_cell_at ?l_l_cell_at ?c_l_cell_at ?k_l_cell_at ?a_l_signs ?l_l_signs ?c_l_signs ?k_l_signs ?a_l_known ?l_l_known ?c_l_known ?k_l_known ?a_l_is_room ?l_l_is_room ?c_l_is_room ?k_l_is_room ?a_l_is_in ?l_l_is_in ?c_l_is_in ?k_l_is_in ?a_law ?l_law ?c_law ?k_law
    (case z_bool => k_is)
    (case z_int => k_is)
    (case z_isinstance => k_is)
    (case z_len => k_is)
    (case z_list => k_is)
    (case z_range => k_is)
    (case z_sorted => k_is)
    (case z_str => k_is)
    (case z_tuple => k_is)
    (case z_NAMES => k_is)
    (case z_SIGNS => k_is)
    (case ze_BadName => k_is)
    (case zx_BadName => k_exc)
    (case zk_BadName => k_is)
    (case zb_BadName => k_is)
    (case zt_BadName => k_is)
    (case a_need_name => k_is)
    (case l_need_name => k_is)
    (case c_need_name => k_is)
    (case k_need_name => k_is)
    (case a_mixed => k_is)
    (case l_mixed => k_is)
    (case c_mixed => k_is)
    (case k_mixed => k_is)
    (case a_signs => k_is)
    (case l_signs => k_is)
    (case c_signs => k_is)
    (case k_signs => k_is)
    (case a_with_thing => k_is)
    (case l_with_thing => k_is)
    (case c_with_thing => k_is)
    (case k_with_thing => k_is)
    (case a_parted => k_is)
    (case l_parted => k_is)
    (case c_parted => k_is)
    (case k_parted => k_is)
    (case a_joined => k_is)
    (case l_joined => k_is)
    (case c_joined => k_is)
    (case k_joined => k_is)
    (case a_l_whole => k_is)
    (case l_l_whole => k_is)
    (case c_l_whole => k_is)
    (case k_l_whole => k_is)
    (case a_l_cell_at => k_is)
    (case l_l_cell_at => k_is)
    (case c_l_cell_at => k_is)
    (case k_l_cell_at => k_is)
    (case a_l_signs => k_is)
    (case l_l_signs => k_is)
    (case c_l_signs => k_is)
    (case k_l_signs => k_is)
    (case a_l_known => k_is)
    (case l_l_known => k_is)
    (case c_l_known => k_is)
    (case k_l_known => k_is)
    (case a_l_is_room => k_is)
    (case l_l_is_room => k_is)
    (case c_l_is_room => k_is)
    (case k_l_is_room => k_is)
    (case a_l_is_in => k_is)
    (case l_l_is_in => k_is)
    (case c_l_is_in => k_is)
    (case k_l_is_in => k_is)
    (case a_law => k_is)
    (case l_law => k_is)
    (case c_law => k_is)
    (case k_law => k_is)
