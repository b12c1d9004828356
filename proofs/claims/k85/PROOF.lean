import PyProof.Rows.All
import Wide.All
import OpenK.AllK
import Wide.FinOn
import HandS.ForMost
import HandS.DictComp
import HandS.Walk
import HandS.Codes
import HandS.IsInst
import HandS.Flow
import HandS.SortKw
import HandS.Wide
import HandS.WideBits
import HandS.SetKeys
import HandS.Style
import HandS.TupAny
import HandS.TupLe
import HandS.Star
import HandS.Defaults
import HandS.Ends
import HandS.ForDict
import KE.SortData
import KE.DataFind
import KE.DataCmp
import KE.DataMinMax
import PySem.Challenge.RW_filledup_k85_whole_lots_and_sums
set_option Elab.async false
set_option linter.all false
set_option autoImplicit false
set_option maxRecDepth 100000
/-! Tl: what expressions and statements compute on plain data trees, over the hand layer. -/
namespace L2.Tl
open PySem PySem.Spec PyProof.Rows

/-- a plain value with all that hangs on it; an instance with its fields; kl: a list of ints that is only read (the script) -/
inductive D where
  | non | bl (b : Bool) | int (i : Int) | str (s : Str)
  | lst (xs : List D) | tup (xs : List D) | dct (t : Bool) (kvs : List (D × D)) | obj (C : Addr) (fs : List (Str × D)) | kl (ns : List Int)
instance : Inhabited D := ⟨.non⟩

def kD : Key → D
  | .inl i => .int i
  | .inr x => .str x

/-! ### a value of the abstract heap stands for a tree -/
mutual
inductive Rep (K : PySem.W.Frag) (G : Hp) : V → D → Prop
  | non : Rep K G .non .non
  | bl (b : Bool) : Rep K G (.bl b) (.bl b)
  | int (i : Int) : Rep K G (.int i) (.int i)
  | str (x : Str) : Rep K G (.str x) (.str x)
  | lst {a : Addr} {vs : List V} {ds : List D} : Rd G a (.lst vs) → RepL K G vs ds → Rep K G (.ref a) (.lst ds)
  | kl {a : Addr} {ns : List Int} : SqL K G a (ns.map V.int) → Rep K G (.ref a) (.kl ns)
  | tup {a : Addr} {vs : List V} {ds : List D} : G a = some (.tup vs) → RepL K G vs ds → Rep K G (.ref a) (.tup ds)
  | dK {a : Addr} {kvs : List (Key × V)} {ds : List (D × D)} : Rd G a (.dK kvs) → RepD K G kvs ds → Rep K G (.ref a) (.dct false ds)
  | dT {a : Addr} {kvs : List (List Key × V)} {ds : List (D × D)} : Rd G a (.dT kvs) → RepT K G kvs ds → Rep K G (.ref a) (.dct true ds)
  | obj {a C dx : Addr} {fs : List (Str × V)} {ds : List (Str × D)} : G a = some (.ins C dx fs) → RepF K G fs ds → Rep K G (.ref a) (.obj C ds)
inductive RepL (K : PySem.W.Frag) (G : Hp) : List V → List D → Prop
  | nil : RepL K G [] []
  | cons {v : V} {vs : List V} {d : D} {ds : List D} : Rep K G v d → RepL K G vs ds → RepL K G (v :: vs) (d :: ds)
inductive RepD (K : PySem.W.Frag) (G : Hp) : List (Key × V) → List (D × D) → Prop
  | nil : RepD K G [] []
  | cons {k : Key} {v : V} {vs : List (Key × V)} {d : D} {ds : List (D × D)} : Rep K G v d → RepD K G vs ds → RepD K G ((k, v) :: vs) ((kD k, d) :: ds)
inductive RepT (K : PySem.W.Frag) (G : Hp) : List (List Key × V) → List (D × D) → Prop
  | nil : RepT K G [] []
  | cons {k : List Key} {v : V} {vs : List (List Key × V)} {d : D} {ds : List (D × D)} : Rep K G v d → RepT K G vs ds → RepT K G ((k, v) :: vs) ((.tup (k.map kD), d) :: ds)
inductive RepF (K : PySem.W.Frag) (G : Hp) : List (Str × V) → List (Str × D) → Prop
  | nil : RepF K G [] []
  | cons {k : Str} {v : V} {vs : List (Str × V)} {d : D} {ds : List (Str × D)} : Rep K G v d → RepF K G vs ds → RepF K G ((k, v) :: vs) ((k, d) :: ds)
end

/-- what was to be read is to be read -/
structure Le (G G' : Hp) : Prop where
  rd : ∀ a u, Rd G a u → Rd G' a u
  tup : ∀ a vs, G a = some (.tup vs) → G' a = some (.tup vs)
  ins : ∀ a C dx fs, G a = some (.ins C dx fs) → G' a = some (.ins C dx fs)
  frz : ∀ a o u, G a = some (.frz o u) → G' a = some (.frz o u)
/-- all that was is as it was -/
def Sub (G G' : Hp) : Prop := ∀ a o, G a = some o → G' a = some o
theorem Sub.refl (G : Hp) : Sub G G := fun _ _ h => h
theorem Sub.trans {G1 G2 G3 : Hp} (a : Sub G1 G2) (b : Sub G2 G3) : Sub G1 G3 := fun c o h => b c o (a c o h)
theorem Sub.le {G G' : Hp} (s : Sub G G') : Le G G' := ⟨fun a u h => by
  rcases h with h | ⟨o, h⟩
  · exact .inl (s a u h)
  · exact .inr ⟨o, s a _ h⟩, fun a vs h => s a _ h, fun a _ _ _ h => s a _ h, fun a _ _ h => s a _ h⟩
theorem Le.refl (G : Hp) : Le G G := ⟨fun _ _ h => h, fun _ _ h => h, fun _ _ _ _ h => h, fun _ _ _ h => h⟩
theorem Le.trans {G1 G2 G3 : Hp} (a : Le G1 G2) (b : Le G2 G3) : Le G1 G3 := ⟨fun c o h => b.rd c o (a.rd c o h), fun c o h => b.tup c o (a.tup c o h), fun c C d o h => b.ins c C d o (a.ins c C d o h), fun c o u h => b.frz c o u (a.frz c o u h)⟩
theorem sub_upd {G : Hp} {p : Addr} {o : HO} (h : G p = none) : Sub G (upd G p o) := fun a u e => by
  rw [upd_ne (ne_of_none e h)]; exact e
section
variable {K : PySem.W.Frag} {G G' : Hp}
theorem sqUp {a : Addr} {vs : List V} (l : Le G G') (h : SqL K G a vs) : SqL K G' a vs := by
  rcases h with h | h
  · exact .inl (l.rd _ _ h)
  · exact .inr h
mutual
theorem Rep.mono (l : Le G G') : ∀ {v : V} {d : D}, Rep K G v d → Rep K G' v d
  | _, _, .non => .non
  | _, _, .bl b => .bl b
  | _, _, .int i => .int i
  | _, _, .str x => .str x
  | _, _, .lst h r => .lst (l.rd _ _ h) (r.mono l)
  | _, _, .kl h => .kl (sqUp l h)
  | _, _, .tup h r => .tup (l.tup _ _ h) (r.mono l)
  | _, _, .dK h r => .dK (l.rd _ _ h) (r.mono l)
  | _, _, .dT h r => .dT (l.rd _ _ h) (r.mono l)
  | _, _, .obj h r => .obj (l.ins _ _ _ _ h) (r.mono l)
theorem RepL.mono (l : Le G G') : ∀ {v : List V} {d : List D}, RepL K G v d → RepL K G' v d
  | _, _, .nil => .nil
  | _, _, .cons h r => .cons (h.mono l) (r.mono l)
theorem RepD.mono (l : Le G G') : ∀ {v : List (Key × V)} {d : List (D × D)}, RepD K G v d → RepD K G' v d
  | _, _, .nil => .nil
  | _, _, .cons h r => .cons (h.mono l) (r.mono l)
theorem RepT.mono (l : Le G G') : ∀ {v : List (List Key × V)} {d : List (D × D)}, RepT K G v d → RepT K G' v d
  | _, _, .nil => .nil
  | _, _, .cons h r => .cons (h.mono l) (r.mono l)
theorem RepF.mono (l : Le G G') : ∀ {v : List (Str × V)} {d : List (Str × D)}, RepF K G v d → RepF K G' v d
  | _, _, .nil => .nil
  | _, _, .cons h r => .cons (h.mono l) (r.mono l)
end
end

/-! ### lists of represented things -/
section
variable {K : PySem.W.Frag} {G : Hp}
theorem RepL.length : ∀ {vs : List V} {ds : List D}, RepL K G vs ds → vs.length = ds.length
  | _, _, .nil => rfl
  | _, _, .cons _ r => by simp [r.length]
theorem RepL.append : ∀ {vs ws : List V} {ds es : List D}, RepL K G vs ds → RepL K G ws es → RepL K G (vs ++ ws) (ds ++ es)
  | _, _, _, _, .nil, s => s
  | _, _, _, _, .cons h r, s => .cons h (r.append s)
theorem RepL.get : ∀ {vs : List V} {ds : List D} {i : Nat} {d : D}, RepL K G vs ds → ds[i]? = some d → ∃ v, vs[i]? = some v ∧ Rep K G v d
  | _, _, _, _, .nil, e => by simp at e
  | _, _, 0, _, .cons h _, e => by simp at e; subst e; exact ⟨_, rfl, h⟩
  | _, _, i + 1, d, .cons _ r, e => by
    obtain ⟨v, h1, h2⟩ := RepL.get (i := i) (d := d) r (by simpa using e)
    exact ⟨v, by simpa using h1, h2⟩
theorem RepL.getv : ∀ {vs : List V} {ds : List D} {i : Nat} {v : V}, RepL K G vs ds → vs[i]? = some v → ∃ d, ds[i]? = some d ∧ Rep K G v d
  | _, _, _, _, .nil, e => by simp at e
  | _, _, 0, _, .cons h _, e => by simp at e; subst e; exact ⟨_, rfl, h⟩
  | _, _, i + 1, v, .cons _ r, e => by
    obtain ⟨d, h1, h2⟩ := RepL.getv (i := i) (v := v) r (by simpa using e)
    exact ⟨d, by simpa using h1, h2⟩
theorem RepL.set {v : V} {d : D} (h : Rep K G v d) : ∀ {vs : List V} {ds : List D} (i : Nat), RepL K G vs ds → RepL K G (vs.set i v) (ds.set i d)
  | _, _, _, .nil => .nil
  | _, _, 0, .cons _ r => .cons h r
  | _, _, i + 1, .cons q r => .cons q (RepL.set h i r)
theorem RepL.take : ∀ {vs : List V} {ds : List D} (n : Nat), RepL K G vs ds → RepL K G (vs.take n) (ds.take n)
  | _, _, 0, _ => .nil
  | _, _, _ + 1, .nil => .nil
  | _, _, n + 1, .cons h r => .cons h (RepL.take n r)
theorem RepL.drop : ∀ {vs : List V} {ds : List D} (n : Nat), RepL K G vs ds → RepL K G (vs.drop n) (ds.drop n)
  | _, _, 0, r => r
  | _, _, _ + 1, .nil => .nil
  | _, _, n + 1, .cons _ r => RepL.drop n r
theorem RepL.reverse : ∀ {vs : List V} {ds : List D}, RepL K G vs ds → RepL K G vs.reverse ds.reverse
  | _, _, .nil => .nil
  | _, _, .cons h r => by
    simp only [List.reverse_cons]
    exact r.reverse.append (.cons h .nil)
theorem RepL.ints : ∀ {vs : List V} {is : List Int}, RepL K G vs (is.map D.int) → vs = is.map V.int
  | _, [], .nil => rfl
  | _, i :: is, .cons h r => by
    cases h
    simp only [List.map_cons]
    rw [RepL.ints r]
theorem RepL.strs : ∀ {vs : List V} {is : List Str}, RepL K G vs (is.map D.str) → vs = is.map V.str
  | _, [], .nil => rfl
  | _, i :: is, .cons h r => by
    cases h
    simp only [List.map_cons]
    rw [RepL.strs r]
theorem RepL.of_ints : ∀ is : List Int, RepL K G (is.map V.int) (is.map D.int)
  | [] => .nil
  | i :: is => .cons (.int i) (RepL.of_ints is)
theorem RepL.of_strs : ∀ is : List Str, RepL K G (is.map V.str) (is.map D.str)
  | [] => .nil
  | i :: is => .cons (.str i) (RepL.of_strs is)
end

/-! ### inversions -/
section
variable {K : PySem.W.Frag} {G : Hp} {v : V}
theorem Rep.int_inv {i : Int} (h : Rep K G v (.int i)) : v = .int i := by cases h; rfl
theorem Rep.bl_inv {b : Bool} (h : Rep K G v (.bl b)) : v = .bl b := by cases h; rfl
theorem Rep.str_inv {b : Str} (h : Rep K G v (.str b)) : v = .str b := by cases h; rfl
theorem Rep.non_inv (h : Rep K G v .non) : v = .non := by cases h; rfl
end

/-! ### plain data -/
mutual
def D.pd : D → Option PyData
  | .non => some .none
  | .bl b => some (.bool b)
  | .int i => some (.int i)
  | .str s => some (.str s)
  | .lst xs => (pdL xs).map .list
  | .tup xs => (pdL xs).map .tuple
  | .dct _ _ => none
  | .obj _ _ => none
  | .kl _ => none
def pdL : List D → Option (List PyData)
  | [] => some []
  | x :: xs => match x.pd, pdL xs with
    | some p, some ps => some (p :: ps)
    | _, _ => none
end
section
variable {K : PySem.W.Frag} {H : Hp}
mutual
theorem Rep.dp : ∀ (d : D) (v : V) (p : PyData), Rep K H v d → d.pd = some p → Dp K H v p
  | .non, _, _, h, e => by cases h; simp only [D.pd, Option.some.injEq] at e; subst e; exact .non
  | .bl b, _, _, h, e => by cases h; simp only [D.pd, Option.some.injEq] at e; subst e; exact .bl b
  | .int b, _, _, h, e => by cases h; simp only [D.pd, Option.some.injEq] at e; subst e; exact .int b
  | .str b, _, _, h, e => by cases h; simp only [D.pd, Option.some.injEq] at e; subst e; exact .str b
  | .lst xs, _, _, h, e => by
    cases h with
    | lst hq r =>
      simp only [D.pd] at e
      cases q : pdL xs with
      | none => rw [q] at e; simp at e
      | some ps =>
        rw [q] at e
        simp only [Option.map_some, Option.some.injEq] at e
        subst e
        exact .lst (.inl hq) (RepL.dp xs _ ps r q)
  | .tup xs, _, _, h, e => by
    cases h with
    | tup hq r =>
      simp only [D.pd] at e
      cases q : pdL xs with
      | none => rw [q] at e; simp at e
      | some ps =>
        rw [q] at e
        simp only [Option.map_some, Option.some.injEq] at e
        subst e
        exact .tup (SqT.of hq) (RepL.dp xs _ ps r q)
  | .dct _ _, _, _, _, e => by simp [D.pd] at e
  | .obj _ _, _, _, _, e => by simp [D.pd] at e
  | .kl _, _, _, _, e => by simp [D.pd] at e
theorem RepL.dp : ∀ (d : List D) (v : List V) (p : List PyData), RepL K H v d → pdL d = some p → DpAll K H v p
  | [], _, _, h, e => by cases h; simp only [pdL, Option.some.injEq] at e; subst e; exact .nil
  | x :: xs, _, _, h, e => by
    cases h with
    | cons h r =>
      simp only [pdL] at e
      cases q1 : x.pd with
      | none => rw [q1] at e; simp at e
      | some p =>
        cases q2 : pdL xs with
        | none => rw [q1, q2] at e; simp at e
        | some ps =>
          rw [q1, q2] at e
          simp only [Option.some.injEq] at e
          subst e
          exact .cons (Rep.dp x _ p h q1) (RepL.dp xs _ ps r q2)
end
end
end L2.Tl

set_option Elab.async false
set_option linter.all false
set_option autoImplicit false
set_option maxRecDepth 100000
namespace L2.Tl
open PySem PySem.Spec PyProof.Rows

/-! ### the frame's state -/
/-- what a slot holds: a value that nobody changes any more; an object of the frame's own; an object that was handed in to be changed -/
inductive SV where
  | fz (d : D) | own (d : D) | inp (d : D)
def SV.root : SV → Option D
  | .fz _ => none
  | .own d => some d
  | .inp d => some d
abbrev Dl := List (Option SV)

/-- an object that the frame alone changes: its parts stand for trees -/
inductive Root (K : PySem.W.Frag) (G H : Hp) (p : Addr) : D → Prop
  | lst {vs : List V} {ds : List D} : H p = some (.lst vs) → RepL K G vs ds → Root K G H p (.lst ds)
  | dK {vs : List (Key × V)} {ds : List (D × D)} : H p = some (.dK vs) → RepD K G vs ds → Root K G H p (.dct false ds)
  | dT {vs : List (List Key × V)} {ds : List (D × D)} : H p = some (.dT vs) → RepT K G vs ds → Root K G H p (.dct true ds)
  | obj {C dx : Addr} {vs : List (Str × V)} {ds : List (Str × D)} : H p = some (.ins C dx vs) → RepF K G vs ds → Root K G H p (.obj C ds)
theorem Root.mono {K : PySem.W.Frag} {G H G' H' : Hp} {p : Addr} {d : D} (r : Root K G H p d) (l : Le G G') (h : H' p = H p) : Root K G' H' p d := by
  cases r with
  | lst a b => exact .lst (h.trans a) (b.mono l)
  | dK a b => exact .dK (h.trans a) (b.mono l)
  | dT a b => exact .dT (h.trans a) (b.mono l)
  | obj a b => exact .obj (h.trans a) (b.mono l)
theorem Root.there {K : PySem.W.Frag} {G H : Hp} {p : Addr} {d : D} (r : Root K G H p d) : ∃ o, H p = some o := by
  cases r with
  | lst a b => exact ⟨_, a⟩
  | dK a b => exact ⟨_, a⟩
  | dT a b => exact ⟨_, a⟩
  | obj a b => exact ⟨_, a⟩
/-- read in the whole heap -/
theorem Root.rep {K : PySem.W.Frag} {G H G' : Hp} {p : Addr} {d : D} {o : HO} (r : Root K G H p d) (l : Le G G') (h : H p = some o) (h' : G' p = some o) : Rep K G' (.ref p) d := by
  cases r with
  | lst a b => rw [a] at h; cases h; exact .lst (.inl h') (b.mono l)
  | dK a b => rw [a] at h; cases h; exact .dK (.inl h') (b.mono l)
  | dT a b => rw [a] at h; cases h; exact .dT (.inl h') (b.mono l)
  | obj a b => rw [a] at h; cases h; exact .obj h' (b.mono l)

/-- the frame: the heap at its entry, what was not to change then, the objects handed in to be changed (by slot) -/
structure Fr where
  H0 : Hp
  G0 : Hp
  io : Nat → Option Addr

structure Sim (K : PySem.W.Frag) (F : Fr) (G H : Hp) (σ : St) (δ : Dl) : Prop where
  len : σ.length = δ.length
  fz : ∀ (i : Nat) (d : D), δ[i]? = some (some (SV.fz d)) → ∃ v, σ[i]? = some (some v) ∧ Rep K G v d
  own : ∀ (i : Nat) (d : D), δ[i]? = some (some (SV.own d)) → ∃ p, σ[i]? = some (some (V.ref p)) ∧ G p = none ∧ Root K G H p d ∧ F.H0 p = none
  inp : ∀ (i : Nat) (d : D), δ[i]? = some (some (SV.inp d)) → ∃ p, σ[i]? = some (some (V.ref p)) ∧ G p = none ∧ Root K G H p d ∧ F.io i = some p
  inj : ∀ (i j : Nat) (x y : SV) (d e : D) (p : Addr), δ[i]? = some (some x) → x.root = some d → δ[j]? = some (some y) → y.root = some e → σ[i]? = some (some (V.ref p)) → σ[j]? = some (some (V.ref p)) → i = j
  sub : Sub G H
  new : ∀ a o, G a = some o → F.G0 a ≠ none ∨ F.H0 a = none
  fr : ∀ a o, F.H0 a = some o → (∀ i, F.io i ≠ some a) → H a = some o ∨ (Mut (some o) ∧ F.G0 a = some o ∧ ∃ od, H a = some (.frz od o))
  ioh : ∀ i a, F.io i = some a → (∃ o, H a = some o) ∧ G a = none ∧ F.H0 a ≠ none
  g0 : Sub F.G0 F.H0

theorem Sim.root {K : PySem.W.Frag} {F : Fr} {G H : Hp} {σ : St} {δ : Dl} (S : Sim K F G H σ δ) {i : Nat} {x : SV} {d : D} (h : δ[i]? = some (some x)) (r : x.root = some d) :
    ∃ p, σ[i]? = some (some (V.ref p)) ∧ G p = none ∧ Root K G H p d := by
  cases x with
  | fz e => cases r
  | own e => cases r; obtain ⟨p, a, b, c, _⟩ := S.own i _ h; exact ⟨p, a, b, c⟩
  | inp e => cases r; obtain ⟨p, a, b, c, _⟩ := S.inp i _ h; exact ⟨p, a, b, c⟩

/-- nobody's object -/
def Apart (σ : St) (δ : Dl) (p : Addr) : Prop := ∀ (i : Nat) (x : SV) (d : D), δ[i]? = some (some x) → x.root = some d → σ[i]? ≠ some (some (V.ref p))

/-! ### pure steps: new objects alone -/
structure Ext (G H G' H' : Hp) : Prop where
  gg : Sub G G'
  hh : Sub H H'
  gh : Sub G' H'
  new : ∀ a o, G' a = some o → G a = some o ∨ H a = none
theorem Ext.refl {G H : Hp} (s : Sub G H) : Ext G H G H := ⟨.refl _, .refl _, s, fun _ _ h => .inl h⟩
theorem Ext.trans {G H G1 H1 G2 H2 : Hp} (a : Ext G H G1 H1) (b : Ext G1 H1 G2 H2) : Ext G H G2 H2 :=
  ⟨a.gg.trans b.gg, a.hh.trans b.hh, b.gh, fun c o h => by
    rcases b.new c o h with h | h
    · exact a.new c o h
    · right
      cases q : H c with
      | none => rfl
      | some u => rw [a.hh c u q] at h; cases h⟩
/-- a new object that nobody will change -/
theorem Ext.add {G H : Hp} {p : Addr} {o : HO} (s : Sub G H) (h : H p = none) : Ext G H (upd G p o) (upd H p o) := by
  have hg : G p = none := by
    cases q : G p with
    | none => rfl
    | some u => rw [s p u q] at h; cases h
  refine ⟨sub_upd hg, sub_upd h, fun a u e => ?_, fun a u e => ?_⟩
  · by_cases z : a = p
    · subst z; rw [upd_same] at e ⊢; exact e
    · rw [upd_ne z] at e ⊢; exact s a u e
  · by_cases z : a = p
    · subst z; exact .inr h
    · rw [upd_ne z] at e; exact .inl e
/-- a new object that is the frame's own -/
theorem Ext.own {G H : Hp} {p : Addr} {o : HO} (s : Sub G H) (h : H p = none) : Ext G H G (upd H p o) :=
  ⟨.refl _, sub_upd h, s.trans (sub_upd h), fun _ _ e => .inl e⟩
theorem none_of_sub {G H : Hp} (s : Sub G H) {p : Addr} (h : H p = none) : G p = none := by
  cases q : G p with
  | none => rfl
  | some u => rw [s p u q] at h; cases h

/-- what an expression leaves: the frame's other objects stand, nothing is gone -/
structure Mv (σ : St) (δ : Dl) (G H : Hp) (δ' : Dl) (G' H' : Hp) : Prop where
  le : Le G G'
  stay : ∀ a o, H a = some o → G a = none → Apart σ δ a → H' a = some o ∧ G' a = none ∧ Apart σ δ' a
  dom : ∀ a, H' a = none → H a = none
theorem Mv.refl {σ : St} {δ : Dl} {G H : Hp} : Mv σ δ G H δ G H := ⟨.refl _, fun _ _ h g ap => ⟨h, g, ap⟩, fun _ h => h⟩
theorem Mv.trans {σ : St} {δ δ1 δ2 : Dl} {G H G1 H1 G2 H2 : Hp} (a : Mv σ δ G H δ1 G1 H1) (b : Mv σ δ1 G1 H1 δ2 G2 H2) : Mv σ δ G H δ2 G2 H2 :=
  ⟨a.le.trans b.le, fun c o h g ap => let ⟨h1, g1, ap1⟩ := a.stay c o h g ap; b.stay c o h1 g1 ap1, fun c h => a.dom c (b.dom c h)⟩
theorem Ext.mv {σ : St} {δ : Dl} {G H G' H' : Hp} (E : Ext G H G' H') : Mv σ δ G H δ G' H' :=
  ⟨E.gg.le, fun a o h g ap => ⟨E.hh a o h, (by
    cases q : G' a with
    | none => rfl
    | some u =>
      rcases E.new a u q with z | z
      · rw [g] at z; cases z
      · rw [h] at z; cases z), ap⟩, fun a h => (by
    cases q : H a with
    | none => rfl
    | some u => rw [E.hh a u q] at h; cases h)⟩

section
variable {K : PySem.W.Frag} {F : Fr} {G H G' H' : Hp} {σ : St} {δ : Dl}
theorem Ext.none (E : Ext G H G' H') {p : Addr} {o : HO} (hg : G p = none) (ho : H p = some o) : G' p = none := by
  cases q : G' p with
  | none => rfl
  | some u =>
    rcases E.new p u q with z | z
    · rw [hg] at z; cases z
    · rw [ho] at z; cases z
/-- what is new now was new at the entry -/
theorem Sim.fresh (S : Sim K F G H σ δ) {a : Addr} (h : H a = none) : F.H0 a = none := by
  cases q : F.H0 a with
  | none => rfl
  | some u =>
    by_cases hi : ∀ i, F.io i ≠ some a
    · rcases S.fr a u q hi with z | ⟨_, _, od, z⟩
      · rw [z] at h; cases h
      · rw [z] at h; cases h
    · obtain ⟨i, hi⟩ := Classical.not_forall.mp hi
      have hi := Classical.not_not.mp hi
      obtain ⟨⟨w, hw⟩, _⟩ := S.ioh i a hi
      rw [hw] at h; cases h
theorem Sim.ext (S : Sim K F G H σ δ) (E : Ext G H G' H') : Sim K F G' H' σ δ := by
  have key : ∀ p d, G p = none → Root K G H p d → G' p = none ∧ Root K G' H' p d := fun p d hg r => by
    obtain ⟨o, ho⟩ := r.there
    exact ⟨E.none hg ho, r.mono E.gg.le ((E.hh p o ho).trans ho.symm)⟩
  refine ⟨S.len, fun i d h => ?_, fun i d h => ?_, fun i d h => ?_, S.inj, E.gh, fun a o h => ?_, fun a o h hi => ?_, fun i a h => ?_, S.g0⟩
  · obtain ⟨v, a, b⟩ := S.fz i d h
    exact ⟨v, a, b.mono E.gg.le⟩
  · obtain ⟨p, a, b, c, e⟩ := S.own i d h
    obtain ⟨b', c'⟩ := key p d b c
    exact ⟨p, a, b', c', e⟩
  · obtain ⟨p, a, b, c, e⟩ := S.inp i d h
    obtain ⟨b', c'⟩ := key p d b c
    exact ⟨p, a, b', c', e⟩
  · rcases E.new a o h with z | z
    · exact S.new a o z
    · exact .inr (S.fresh z)
  · rcases S.fr a o h hi with z | ⟨z1, z2, od, z3⟩
    · exact .inl (E.hh a o z)
    · exact .inr ⟨z1, z2, od, E.hh a _ z3⟩
  · obtain ⟨⟨w, hw⟩, hg, h0⟩ := S.ioh i a h
    exact ⟨⟨w, E.hh a w hw⟩, E.none hg hw, h0⟩
/-- an object that nobody holds is let go: nobody changes it any more -/
theorem Sim.freeze (S : Sim K F G H σ δ) {p : Addr} {o : HO} (hg : G p = none) (hh : H p = some o) (h0 : F.H0 p = none) (ap : Apart σ δ p) : Sim K F (upd G p o) H σ δ := by
  have sg : Sub G (upd G p o) := sub_upd hg
  refine ⟨S.len, fun i d h => ?_, fun i d h => ?_, fun i d h => ?_, S.inj, fun a u e => ?_, fun a u h => ?_, S.fr, fun i a h => ?_, S.g0⟩
  · obtain ⟨v, a, b⟩ := S.fz i d h
    exact ⟨v, a, b.mono sg.le⟩
  · obtain ⟨q, a, b, c, e⟩ := S.own i d h
    have ne : q ≠ p := fun z => ap i _ _ h rfl (z ▸ a)
    exact ⟨q, a, (upd_ne ne).trans b, c.mono sg.le rfl, e⟩
  · obtain ⟨q, a, b, c, e⟩ := S.inp i d h
    have ne : q ≠ p := fun z => ap i _ _ h rfl (z ▸ a)
    exact ⟨q, a, (upd_ne ne).trans b, c.mono sg.le rfl, e⟩
  · by_cases z : a = p
    · subst z; rw [upd_same] at e; rw [hh]; exact e
    · rw [upd_ne z] at e; exact S.sub a u e
  · by_cases z : a = p
    · subst z; exact .inr h0
    · rw [upd_ne z] at h; exact S.new a u h
  · obtain ⟨w, b, c⟩ := S.ioh i a h
    have ne : a ≠ p := fun z => c (z ▸ h0)
    exact ⟨w, (upd_ne ne).trans b, c⟩
/-- a slot holds another thing that nobody changes -/
theorem Sim.set (S : Sim K F G H σ δ) {v : V} {d : D} (r : Rep K G v d) (i : Nat) : Sim K F G H (σ.set i (some v)) (δ.set i (some (SV.fz d))) := by
  have hne : ∀ {j : Nat} {x : SV}, (δ.set i (some (SV.fz d)))[j]? = some (some x) → j ≠ i → δ[j]? = some (some x) ∧ (σ.set i (some v))[j]? = σ[j]? := fun {j x} h n => by
    rw [List.getElem?_set_ne (Ne.symm n)] at h
    exact ⟨h, List.getElem?_set_ne (Ne.symm n)⟩
  have hroot : ∀ {j : Nat} {x : SV} {e : D}, (δ.set i (some (SV.fz d)))[j]? = some (some x) → x.root = some e → j ≠ i := fun {j x e} h rt z => by
    subst z
    by_cases hl : j < δ.length
    · rw [List.getElem?_set_self hl] at h; cases h; cases rt
    · rw [List.getElem?_eq_none (by simpa using hl)] at h; cases h
  refine ⟨by simpa using S.len, fun j e h => ?_, fun j e h => ?_, fun j e h => ?_, fun j k x y e1 e2 p h1 r1 h2 r2 h3 h4 => ?_, S.sub, S.new, S.fr, S.ioh, S.g0⟩
  · by_cases n : j = i
    · subst n
      by_cases hl : j < δ.length
      · rw [List.getElem?_set_self hl] at h; cases h
        exact ⟨v, List.getElem?_set_self (by rw [S.len]; exact hl), r⟩
      · rw [List.getElem?_eq_none (by simpa using hl)] at h; cases h
    · obtain ⟨h, e⟩ := hne h n
      obtain ⟨w, a, b⟩ := S.fz j _ h
      exact ⟨w, e.trans a, b⟩
  · obtain ⟨h, e⟩ := hne h (hroot h rfl)
    obtain ⟨p, a, b⟩ := S.own j _ h
    exact ⟨p, e.trans a, b⟩
  · obtain ⟨h, e⟩ := hne h (hroot h rfl)
    obtain ⟨p, a, b⟩ := S.inp j _ h
    exact ⟨p, e.trans a, b⟩
  · obtain ⟨h1', e1'⟩ := hne h1 (hroot h1 r1)
    obtain ⟨h2', e2'⟩ := hne h2 (hroot h2 r2)
    exact S.inj j k x y e1 e2 p h1' r1 h2' r2 (e1' ▸ h3) (e2' ▸ h4)
/-- a slot holds a new object of the frame's own -/
theorem Sim.setOwn (S : Sim K F G H σ δ) {p : Addr} {d : D} (hg : G p = none) (r : Root K G H p d) (h0 : F.H0 p = none) (ap : Apart σ δ p) (i : Nat) : Sim K F G H (σ.set i (some (V.ref p))) (δ.set i (some (SV.own d))) := by
  have hne : ∀ {j : Nat} {x : SV}, (δ.set i (some (SV.own d)))[j]? = some (some x) → j ≠ i → δ[j]? = some (some x) ∧ (σ.set i (some (V.ref p)))[j]? = σ[j]? := fun {j x} h n => by
    rw [List.getElem?_set_ne (Ne.symm n)] at h
    exact ⟨h, List.getElem?_set_ne (Ne.symm n)⟩
  have hself : ∀ {j : Nat} {x : SV}, (δ.set i (some (SV.own d)))[j]? = some (some x) → j = i → x = .own d ∧ (σ.set i (some (V.ref p)))[j]? = some (some (V.ref p)) := fun {j x} h z => by
    subst z
    by_cases hl : j < δ.length
    · rw [List.getElem?_set_self hl] at h; cases h
      exact ⟨rfl, List.getElem?_set_self (by rw [S.len]; exact hl)⟩
    · rw [List.getElem?_eq_none (by simpa using hl)] at h; cases h
  refine ⟨by simpa using S.len, fun j e h => ?_, fun j e h => ?_, fun j e h => ?_, fun j k x y e1 e2 q h1 r1 h2 r2 h3 h4 => ?_, S.sub, S.new, S.fr, S.ioh, S.g0⟩
  · by_cases n : j = i
    · cases (hself h n).1
    · obtain ⟨h, e⟩ := hne h n
      obtain ⟨w, a, b⟩ := S.fz j _ h
      exact ⟨w, e.trans a, b⟩
  · by_cases n : j = i
    · obtain ⟨z, e⟩ := hself h n
      cases z
      exact ⟨p, e, hg, r, h0⟩
    · obtain ⟨h, e⟩ := hne h n
      obtain ⟨q, a, b⟩ := S.own j _ h
      exact ⟨q, e.trans a, b⟩
  · by_cases n : j = i
    · cases (hself h n).1
    · obtain ⟨h, e⟩ := hne h n
      obtain ⟨q, a, b⟩ := S.inp j _ h
      exact ⟨q, e.trans a, b⟩
  · by_cases n : j = i
    · by_cases m : k = i
      · exact n.trans m.symm
      · obtain ⟨_, e⟩ := hself h1 n
        rw [e] at h3; cases h3
        obtain ⟨h2', e2'⟩ := hne h2 m
        exact absurd (e2' ▸ h4) (ap k y e2 h2' r2)
    · by_cases m : k = i
      · obtain ⟨_, e⟩ := hself h2 m
        rw [e] at h4; cases h4
        obtain ⟨h1', e1'⟩ := hne h1 n
        exact absurd (e1' ▸ h3) (ap j x e1 h1' r1)
      · obtain ⟨h1', e1'⟩ := hne h1 n
        obtain ⟨h2', e2'⟩ := hne h2 m
        exact S.inj j k x y e1 e2 q h1' r1 h2' r2 (e1' ▸ h3) (e2' ▸ h4)
/-- a slot is forgotten -/
theorem Sim.drop (S : Sim K F G H σ δ) (i : Nat) : Sim K F G H σ (δ.set i none) := by
  have hne : ∀ {j : Nat} {x : SV}, (δ.set i none)[j]? = some (some x) → δ[j]? = some (some x) := fun {j x} h => by
    by_cases n : j = i
    · subst n
      by_cases hl : j < δ.length
      · rw [List.getElem?_set_self hl] at h; cases h
      · rw [List.getElem?_eq_none (by simpa using hl)] at h; cases h
    · rw [List.getElem?_set_ne (Ne.symm n)] at h
      exact h
  exact ⟨by simpa using S.len, fun j e h => S.fz j e (hne h), fun j e h => S.own j e (hne h), fun j e h => S.inp j e (hne h), fun j k x y e1 e2 q h1 r1 h2 r2 h3 h4 => S.inj j k x y e1 e2 q (hne h1) r1 (hne h2) r2 h3 h4, S.sub, S.new, S.fr, S.ioh, S.g0⟩
/-- the frame's own object at a slot: let go -/
theorem Sim.letGo (S : Sim K F G H σ δ) {i : Nat} {d : D} (h : δ[i]? = some (some (SV.own d))) : ∃ G', Sim K F G' H σ (δ.set i (some (SV.fz d))) ∧ Mv σ δ G H (δ.set i (some (SV.fz d))) G' H ∧ ∀ v, σ[i]? = some (some v) → Rep K G' v d := by
  obtain ⟨p, a, b, c, e⟩ := S.own i d h
  obtain ⟨o, ho⟩ := c.there
  have hl : i < δ.length := (List.getElem?_eq_some_iff.mp h).1
  have ap : Apart σ (δ.set i none) p := fun j x f hj r hs => by
    by_cases n : j = i
    · subst n
      rw [List.getElem?_set_self hl] at hj; cases hj
    · rw [List.getElem?_set_ne (Ne.symm n)] at hj
      exact n (S.inj j i x _ f d p hj r h rfl hs a)
  have S2 := ((S.drop i).freeze b ho e ap).set (c.rep (sub_upd (o := o) b).le ho upd_same) i
  rw [List.set_set] at S2
  have es : σ.set i (some (V.ref p)) = σ := List.ext_getElem? fun j => by
    by_cases n : j = i
    · subst n
      rw [List.getElem?_set_self (by rw [S.len]; exact hl)]; exact a.symm
    · rw [List.getElem?_set_ne (Ne.symm n)]
  rw [es] at S2
  refine ⟨_, S2, ⟨(sub_upd b).le, fun q u hq gq aq => ⟨hq, ?_, fun j x f hj r hs => ?_⟩, fun _ z => z⟩, fun v hv => ?_⟩
  · rw [upd_ne (fun z => aq i _ d h rfl (by rw [z]; exact a))]
    exact gq
  · by_cases n : j = i
    · subst n
      rw [List.getElem?_set_self hl] at hj; cases hj; cases r
    · rw [List.getElem?_set_ne (Ne.symm n)] at hj
      exact aq j x f hj r hs
  · rw [a] at hv; cases hv
    exact c.rep (sub_upd (o := o) b).le ho upd_same
end

/-! ### results -/
/-- an operand: a tree that nobody changes, or the thing at a slot -/
inductive RV where
  | val (d : D) | slot (i : Nat)
/-- a result: a tree that nobody changes, or a new object that is nobody's yet -/
inductive OV where
  | val (d : D) | new (d : D)
def OV.d : OV → D
  | .val d => d
  | .new d => d
def svD : SV → D
  | .fz d => d
  | .own d => d
  | .inp d => d
/-- the tree of an operand -/
def peek : RV → Dl → Option D
  | .val d, _ => some d
  | .slot i, δ => match δ[i]? with
    | some (some x) => some (svD x)
    | _ => none
/-- the tree of an operand that gets away: it's let go -/
def esc : RV → Dl → Option (D × Dl)
  | .val d, δ => some (d, δ)
  | .slot i, δ => match δ[i]? with
    | some (some (SV.fz d)) => some (d, δ)
    | some (some (SV.own d)) => some (d, δ.set i (some (SV.fz d)))
    | _ => none

def RepR (K : PySem.W.Frag) (G : Hp) (σ : St) (v : V) : RV → Prop
  | .val d => Rep K G v d
  | .slot i => σ[i]? = some (some v)
def RepO (K : PySem.W.Frag) (Z G H : Hp) (σ : St) (δ : Dl) (v : V) : OV → Prop
  | .val d => Rep K G v d
  | .new d => ∃ p, v = .ref p ∧ G p = none ∧ Root K G H p d ∧ Z p = none ∧ Apart σ δ p
/-- a pure step's result -/
def RepP (K : PySem.W.Frag) (H G' H' : Hp) (v : V) : OV → Prop
  | .val d => Rep K G' v d
  | .new d => ∃ p, v = .ref p ∧ H p = none ∧ G' p = none ∧ Root K G' H' p d
/-- readable: not to be changed, or an object of the frame's -/
def RepK (K : PySem.W.Frag) (G H : Hp) (v : V) (d : D) : Prop := Rep K G v d ∨ ∃ p, v = .ref p ∧ Root K G H p d

section
variable {K : PySem.W.Frag} {F : Fr} {G H G' H' : Hp} {σ : St} {δ δ' : Dl} {v : V} {r : RV} {o : OV} {d : D}
theorem RepR.mono (h : RepR K G σ v r) (s : Le G G') : RepR K G' σ v r := by
  cases r with
  | val d => exact Rep.mono s h
  | slot i => exact h
theorem RepK.all (h : RepK K G H v d) (s : Sub G H) : Rep K H v d := by
  rcases h with h | ⟨p, rfl, h⟩
  · exact h.mono s.le
  · obtain ⟨o, ho⟩ := h.there
    exact h.rep s.le ho ho
theorem Sim.peek (S : Sim K F G H σ δ) (h : RepR K G σ v r) (e : Tl.peek r δ = some d) : RepK K G H v d := by
  cases r with
  | val x => cases e; exact .inl h
  | slot i =>
    have h' : σ[i]? = some (some v) := h
    simp only [Tl.peek] at e
    split at e
    · rename_i x hx
      cases e
      cases x with
      | fz y =>
        obtain ⟨w, a, b⟩ := S.fz i y hx
        rw [h'] at a; cases a
        exact .inl b
      | own y =>
        obtain ⟨p, a, _, b, _⟩ := S.own i y hx
        rw [h'] at a; cases a
        exact .inr ⟨p, rfl, b⟩
      | inp y =>
        obtain ⟨p, a, _, b, _⟩ := S.inp i y hx
        rw [h'] at a; cases a
        exact .inr ⟨p, rfl, b⟩
    · cases e
theorem Sim.esc (S : Sim K F G H σ δ) (h : RepR K G σ v r) (e : Tl.esc r δ = some (d, δ')) : ∃ G', Sim K F G' H σ δ' ∧ Mv σ δ G H δ' G' H ∧ Rep K G' v d := by
  cases r with
  | val x => cases e; exact ⟨G, S, .refl, h⟩
  | slot i =>
    have h' : σ[i]? = some (some v) := h
    simp only [Tl.esc] at e
    split at e
    · rename_i x hx
      cases e
      obtain ⟨w, a, b⟩ := S.fz i _ hx
      rw [h'] at a; cases a
      exact ⟨G, S, .refl, b⟩
    · rename_i x hx
      cases e
      obtain ⟨G', a, b, c⟩ := S.letGo hx
      exact ⟨G', a, b, c v h'⟩
    · cases e
theorem RepP.toO (S : Sim K F G H σ δ) (E : Ext G H G' H') (h : RepP K H G' H' v o) : RepO K H G' H' σ δ v o := by
  cases o with
  | val d => exact h
  | new d =>
    obtain ⟨p, rfl, a, b, c⟩ := h
    refine ⟨p, rfl, b, c, a, fun i x e hx r hs => ?_⟩
    · obtain ⟨q, e1, _, e3⟩ := S.root hx r
      rw [hs] at e1; cases e1
      obtain ⟨w, hw⟩ := e3.there
      rw [hw] at a; cases a
theorem RepO.old {Z Z' : Hp} (h : RepO K Z G H σ δ v o) (z : ∀ a, Z a = none → Z' a = none) : RepO K Z' G H σ δ v o := by
  cases o with
  | val d => exact h
  | new d => obtain ⟨p, a, b, c, e, f⟩ := h; exact ⟨p, a, b, c, z p e, f⟩
/-- a result that gets away; Z: the heap ahead of it -/
theorem Sim.settle {Z G0 : Hp} {δ0 : Dl} (S : Sim K F G H σ δ) (h : RepO K Z G H σ δ v o) (hz : ∀ a, Z a = none → F.H0 a = none) (m : Mv σ δ0 G0 Z δ G H) : ∃ G', Sim K F G' H σ δ ∧ Mv σ δ0 G0 Z δ G' H ∧ Rep K G' v o.d := by
  cases o with
  | val d => exact ⟨G, S, m, h⟩
  | new d =>
    obtain ⟨p, rfl, a, b, c, e⟩ := h
    obtain ⟨w, hw⟩ := b.there
    refine ⟨_, S.freeze a hw (hz p c) e, ⟨m.le.trans (sub_upd a).le, fun q u hq gq aq => ?_, m.dom⟩, b.rep (sub_upd a).le hw upd_same⟩
    obtain ⟨h1, h2, h3⟩ := m.stay q u hq gq aq
    refine ⟨h1, ?_, h3⟩
    rw [upd_ne (fun z => by rw [z, c] at hq; cases hq)]
    exact h2
end

/-! ### the judgements -/
abbrev Fe := Dl → Option (RV × Dl)
abbrev Fn := Dl → Option (OV × Dl)
abbrev Ft := Dl → Option (Bool × Dl)
abbrev Fa := Dl → Option (List D × Dl)
def tEv (K : PySem.W.Frag) (f : Fe) : TE := fun σ H Q => ∃ F G δ r δ', Sim K F G H σ δ ∧ f δ = some (r, δ') ∧ ∀ v H' G', Sim K F G' H' σ δ' → Mv σ δ G H δ' G' H' → RepR K G' σ v r → Q v H'
def tEn (K : PySem.W.Frag) (f : Fn) : TE := fun σ H Q => ∃ F G δ o δ', Sim K F G H σ δ ∧ f δ = some (o, δ') ∧ ∀ v H' G', Sim K F G' H' σ δ' → Mv σ δ G H δ' G' H' → RepO K H G' H' σ δ' v o → Q v H'
def tTs (K : PySem.W.Frag) (f : Ft) : TT := fun σ H Q => ∃ F G δ b δ', Sim K F G H σ δ ∧ f δ = some (b, δ') ∧ ∀ H' G', Sim K F G' H' σ δ' → Mv σ δ G H δ' G' H' → Q b H'
def tAr (K : PySem.W.Frag) (f : Fa) : TA := fun σ H Q => ∃ F G δ ds δ', Sim K F G H σ δ ∧ f δ = some (ds, δ') ∧ ∀ vs H' G', Sim K F G' H' σ δ' → Mv σ δ G H δ' G' H' → RepL K G' vs ds → Q vs H'
/-- e computes f, an operand -/
def Ev (X : Cx) (e : Expr) (f : Fe) : Prop := PE X e (tEv X.K f)
/-- e computes f, a result -/
def En (X : Cx) (e : Expr) (f : Fn) : Prop := PE X e (tEn X.K f)
/-- a test -/
def Ts (X : Cx) (e : Expr) (f : Ft) : Prop := PT X e (tTs X.K f)
/-- arguments, all let go -/
def Ar (X : Cx) (es : List Expr) (f : Fa) : Prop := PA X es (tAr X.K f)
theorem PE.imp {X : Cx} {e : Expr} {t t' : TE} (h : PE X e t) (i : ∀ σ H Q, t' σ H Q → t σ H Q) : PE X e t' := ⟨fun pins s σ H Q I q => h.run pins s σ H Q I (i σ H Q q)⟩
theorem PT.imp {X : Cx} {e : Expr} {t t' : TT} (h : PT X e t) (i : ∀ σ H Q, t' σ H Q → t σ H Q) : PT X e t' := ⟨fun pins s σ H Q I q => h.run pins s σ H Q I (i σ H Q q)⟩
theorem PA.imp {X : Cx} {e : List Expr} {t t' : TA} (h : PA X e t) (i : ∀ σ H Q, t' σ H Q → t σ H Q) : PA X e t' := ⟨fun pos pins s σ H Q I q => h.run pos pins s σ H Q I (i σ H Q q)⟩

/-- a result as an operand -/
def fV (f : Fn) : Fe := fun δ => (f δ).map fun p => (.val p.1.d, p.2)
theorem En.v {X : Cx} {e : Expr} {f : Fn} (h : En X e f) : Ev X e (fV f) := PE.imp h fun σ H Q ⟨F, G, δ, r, δ', S, e1, k⟩ => by
  cases q : f δ with
  | none => simp [fV, q] at e1
  | some p =>
    obtain ⟨o, δ1⟩ := p
    simp only [fV, q, Option.map_some, Option.some.injEq, Prod.mk.injEq] at e1
    obtain ⟨rfl, rfl⟩ := e1
    refine ⟨F, G, δ, o, δ1, S, q, fun v H' G' S' sb ro => ?_⟩
    obtain ⟨G2, S2, m2, r2⟩ := S'.settle ro (fun a h => S.fresh h) sb
    exact k v H' G2 S2 m2 r2
/-- an operand as a result: let go -/
def fO (f : Fe) : Fn := fun δ => match f δ with
  | some (r, δ1) => match esc r δ1 with
    | some (d, δ2) => some (.val d, δ2)
    | none => none
  | none => none
theorem Ev.o {X : Cx} {e : Expr} {f : Fe} (h : Ev X e f) : En X e (fO f) := PE.imp h fun σ H Q ⟨F, G, δ, o, δ', S, e1, k⟩ => by
  cases q : f δ with
  | none => simp [fO, q] at e1
  | some p =>
    obtain ⟨r, δ1⟩ := p
    cases q2 : esc r δ1 with
    | none => simp [fO, q, q2] at e1
    | some p2 =>
      obtain ⟨d, δ2⟩ := p2
      simp only [fO, q, q2, Option.some.injEq, Prod.mk.injEq] at e1
      obtain ⟨rfl, rfl⟩ := e1
      refine ⟨F, G, δ, r, δ1, S, q, fun v H' G' S' sb ro => ?_⟩
      obtain ⟨G2, S2, sb2, r2⟩ := S'.esc ro q2
      exact k v H' G2 S2 (sb.trans sb2) r2
end L2.Tl

set_option Elab.async false
set_option linter.all false
set_option autoImplicit false
set_option maxRecDepth 100000
namespace L2.Tl
open PySem PySem.Spec PyProof.Rows

/-! ### operations by trees -/
/-- what a pure step hands on -/
def Post (K : PySem.W.Frag) (G H : Hp) (o : OV) (Q : VK) : Prop := ∀ v H' G', Ext G H G' H' → RepP K H G' H' v o → Q v H'
section
variable {K : PySem.W.Frag} {G H : Hp} {Q : VK}
theorem Post.val {d : D} {v : V} (k : Post K G H (.val d) Q) (s : Sub G H) (r : Rep K G v d) : Q v H := k v H G (.refl s) r
theorem Post.lst {ds : List D} {vs : List V} {p : Addr} (k : Post K G H (.new (.lst ds)) Q) (s : Sub G H) (r : RepL K G vs ds) (h : H p = none) : Q (.ref p) (upd H p (.lst vs)) :=
  k _ _ G (.own s h) ⟨p, rfl, h, none_of_sub s h, .lst upd_same r⟩
theorem Post.tup {ds : List D} {vs : List V} {p : Addr} (k : Post K G H (.val (.tup ds)) Q) (s : Sub G H) (r : RepL K G vs ds) (h : H p = none) : Q (.ref p) (upd H p (.tup vs)) :=
  k _ _ _ (.add s h) (.tup upd_same (r.mono (sub_upd (none_of_sub s h)).le))
theorem Post.dK {ds : List (D × D)} {vs : List (Key × V)} {p : Addr} (k : Post K G H (.new (.dct false ds)) Q) (s : Sub G H) (r : RepD K G vs ds) (h : H p = none) : Q (.ref p) (upd H p (.dK vs)) :=
  k _ _ G (.own s h) ⟨p, rfl, h, none_of_sub s h, .dK upd_same r⟩
theorem Post.dT {ds : List (D × D)} {vs : List (List Key × V)} {p : Addr} (k : Post K G H (.new (.dct true ds)) Q) (s : Sub G H) (r : RepT K G vs ds) (h : H p = none) : Q (.ref p) (upd H p (.dT vs)) :=
  k _ _ G (.own s h) ⟨p, rfl, h, none_of_sub s h, .dT upd_same r⟩
end
/-- readings of a readable list, tuple, dict -/
theorem RepK.lst {K : PySem.W.Frag} {G H : Hp} {v : V} {ds : List D} (h : RepK K G H v (.lst ds)) (s : Sub G H) : ∃ a vs, v = .ref a ∧ Rd H a (.lst vs) ∧ RepL K G vs ds := by
  rcases h with h | ⟨p, rfl, h⟩
  · cases h with
    | lst a b => exact ⟨_, _, rfl, s.le.1 _ _ a, b⟩
  · cases h with
    | lst a b => exact ⟨_, _, rfl, .inl a, b⟩
theorem RepK.kl {K : PySem.W.Frag} {G H : Hp} {v : V} {ns : List Int} (h : RepK K G H v (.kl ns)) (s : Sub G H) : ∃ a, v = .ref a ∧ SqL K H a (ns.map V.int) := by
  rcases h with h | ⟨p, rfl, h⟩
  · cases h with
    | kl a => exact ⟨_, rfl, sqUp s.le a⟩
  · cases h
theorem RepK.tup {K : PySem.W.Frag} {G H : Hp} {v : V} {ds : List D} (h : RepK K G H v (.tup ds)) (s : Sub G H) : ∃ a vs, v = .ref a ∧ H a = some (.tup vs) ∧ RepL K G vs ds := by
  rcases h with h | ⟨p, rfl, h⟩
  · cases h with
    | tup a b => exact ⟨_, _, rfl, s _ _ a, b⟩
  · cases h
theorem RepK.dK {K : PySem.W.Frag} {G H : Hp} {v : V} {ds : List (D × D)} (h : RepK K G H v (.dct false ds)) (s : Sub G H) : ∃ a kvs, v = .ref a ∧ Rd H a (.dK kvs) ∧ RepD K G kvs ds := by
  rcases h with h | ⟨p, rfl, h⟩
  · cases h with
    | dK a b => exact ⟨_, _, rfl, s.le.1 _ _ a, b⟩
  · cases h with
    | dK a b => exact ⟨_, _, rfl, .inl a, b⟩
theorem RepK.dT {K : PySem.W.Frag} {G H : Hp} {v : V} {ds : List (D × D)} (h : RepK K G H v (.dct true ds)) (s : Sub G H) : ∃ a kvs, v = .ref a ∧ Rd H a (.dT kvs) ∧ RepT K G kvs ds := by
  rcases h with h | ⟨p, rfl, h⟩
  · cases h with
    | dT a b => exact ⟨_, _, rfl, s.le.1 _ _ a, b⟩
  · cases h with
    | dT a b => exact ⟨_, _, rfl, .inl a, b⟩
theorem RepK.obj {K : PySem.W.Frag} {G H : Hp} {v : V} {C : Addr} {ds : List (Str × D)} (h : RepK K G H v (.obj C ds)) (s : Sub G H) : ∃ a dx fs, v = .ref a ∧ H a = some (.ins C dx fs) ∧ RepF K G fs ds := by
  rcases h with h | ⟨p, rfl, h⟩
  · cases h with
    | obj a b => exact ⟨_, _, _, rfl, s _ _ a, b⟩
  · cases h with
    | obj a b => exact ⟨_, _, _, rfl, a, b⟩
theorem RepK.int {K : PySem.W.Frag} {G H : Hp} {v : V} {i : Int} (h : RepK K G H v (.int i)) : v = .int i := by
  rcases h with h | ⟨p, rfl, h⟩
  · exact h.int_inv
  · cases h
theorem RepK.bl {K : PySem.W.Frag} {G H : Hp} {v : V} {i : Bool} (h : RepK K G H v (.bl i)) : v = .bl i := by
  rcases h with h | ⟨p, rfl, h⟩
  · exact h.bl_inv
  · cases h
theorem RepK.str {K : PySem.W.Frag} {G H : Hp} {v : V} {i : Str} (h : RepK K G H v (.str i)) : v = .str i := by
  rcases h with h | ⟨p, rfl, h⟩
  · exact h.str_inv
  · cases h
theorem RepK.non {K : PySem.W.Frag} {G H : Hp} {v : V} (h : RepK K G H v .non) : v = .non := by
  rcases h with h | ⟨p, rfl, h⟩
  · exact h.non_inv
  · cases h

/-- two trees in, a result out -/
def rT (K : PySem.W.Frag) (g : D → D → Option OV) : R2 := fun x y H Q => ∃ G d e o, Sub G H ∧ RepK K G H x d ∧ RepK K G H y e ∧ g d e = some o ∧ Post K G H o Q
/-- one tree in -/
def rU1 (K : PySem.W.Frag) (g : D → Option OV) : V → Hp → VK → Prop := fun x H Q => ∃ G d o, Sub G H ∧ RepK K G H x d ∧ g d = some o ∧ Post K G H o Q
def OpT (X : Cx) (f : Value → Value → Sem Value) (g : D → D → Option OV) : Prop := OpR X f (rT X.K g)

/-- two operands -/
def fOp2 (g : D → D → Option OV) (fa fb : Fe) : Fn := fun δ =>
  (fa δ).bind fun p => (fb p.2).bind fun q => (peek p.1 q.2).bind fun x => (peek q.1 q.2).bind fun y => (g x y).map fun o => (o, q.2)
theorem op2_imp {K : PySem.W.Frag} {g : D → D → Option OV} {fa fb : Fe} (σ : St) (H : Hp) (Q : VK) (h : tEn K (fOp2 g fa fb) σ H Q) : tOp (rT K g) (tEv K fa) (tEv K fb) σ H Q := by
  obtain ⟨F, G, δ, o, δ', S, e, k⟩ := h
  obtain ⟨⟨ra, δ1⟩, e1, e⟩ := Option.bind_eq_some_iff.mp e
  obtain ⟨⟨rb, δ2⟩, e2, e⟩ := Option.bind_eq_some_iff.mp e
  obtain ⟨x, e3, e⟩ := Option.bind_eq_some_iff.mp e
  obtain ⟨y, e4, e⟩ := Option.bind_eq_some_iff.mp e
  obtain ⟨o', e5, e6⟩ := Option.map_eq_some_iff.mp e
  cases e6
  refine ⟨F, G, δ, ra, δ1, S, e1, fun v1 H1 G1 S1 b1 r1 => ⟨F, G1, δ1, rb, δ2, S1, e2, fun v2 H2 G2 S2 b2 r2 => ?_⟩⟩
  refine ⟨G2, x, y, o, S2.sub, S2.peek (r1.mono b2.le) e3, S2.peek r2 e4, e5, fun v H' G' E r => ?_⟩
  exact k v H' G' (S2.ext E) (b1.trans (b2.trans E.mv)) ((r.toO S2 E).old fun a h => b1.dom a (b2.dom a h))
theorem en_bin {X : Cx} {op : Operator} {g : D → D → Option OV} {a b : Expr} {fa fb : Fe} {pos : Pos} (ho : OpT X (binaryOp op) g) (ha : Ev X a fa) (hb : Ev X b fb) : En X (.BinOp a op b pos) (fOp2 g fa fb) :=
  PE.imp (pe_op ho ha hb) op2_imp
theorem en_cmp {X : Cx} {op : CmpOp} {g : D → D → Option OV} {a b : Expr} {fa fb : Fe} {pos : Pos} (ho : OpT X (compareOp op) g) (ha : Ev X a fa) (hb : Ev X b fb) (hm : behindInMarks op b = false) : En X (.Compare a [op] [b] pos) (fOp2 g fa fb) :=
  PE.imp (pe_cmpR ho ha hb hm) op2_imp
theorem en_ix {X : Cx} {g : D → D → Option OV} {a b : Expr} {fa fb : Fe} {pos : Pos} (ho : IxR X (rT X.K g)) (ha : Ev X a fa) (hb : Ev X b fb) (hs : PlainIx b) : En X (.Subscript a b pos) (fOp2 g fa fb) :=
  PE.imp (pe_ix ho ha hb hs) op2_imp

/-! ### names, constants -/
def fVar (i : Nat) : Fe := fun δ => match δ[i]? with
  | some (some (.fz d)) => some (.val d, δ)
  | some (some (.own _)) => some (.slot i, δ)
  | some (some (.inp _)) => some (.slot i, δ)
  | _ => none
theorem Sim.at {K : PySem.W.Frag} {F : Fr} {G H : Hp} {σ : St} {δ : Dl} (S : Sim K F G H σ δ) {i : Nat} {x : SV} (h : δ[i]? = some (some x)) : ∃ v, σ[i]? = some (some v) := by
  cases x with
  | fz d => obtain ⟨v, a, _⟩ := S.fz i d h; exact ⟨v, a⟩
  | own d => obtain ⟨v, a, _⟩ := S.own i d h; exact ⟨_, a⟩
  | inp d => obtain ⟨v, a, _⟩ := S.inp i d h; exact ⟨_, a⟩
theorem ev_var {X : Cx} (i : Nat) {x : Str} {pos : Pos} (hN : X.N[i]? = some x := by rfl) (hv : Vis X.env.scope x := by first | exact Or.inl rfl | exact Or.inr (Or.inl rfl) | exact Or.inr (Or.inr rfl)) (hd : (x == ("__debug__" : Str)) = false := by decide)
    (hcd : (x == ("__classdict__" : Str)) = false := by decide) : Ev X (.Name x pos) (fVar i) := PE.imp (pe_var hN hv hd hcd) fun σ H Q ⟨F, G, δ, r, δ', S, e, k⟩ => by
  unfold fVar at e
  split at e
  · rename_i d h
    cases e
    obtain ⟨v, a, b⟩ := S.fz i d h
    exact ⟨v, a, k v H G S .refl b⟩
  · rename_i d h
    cases e
    obtain ⟨v, a⟩ := S.at h
    exact ⟨v, a, k v H G S .refl a⟩
  · rename_i d h
    cases e
    obtain ⟨v, a⟩ := S.at h
    exact ⟨v, a, k v H G S .refl a⟩
  · cases e
def fC (d : D) : Fe := fun δ => some (.val d, δ)
theorem ev_const {X : Cx} {e : Expr} {d : D} {v : V} (h : PE X e (tC v)) (r : ∀ G, Rep X.K G v d) : Ev X e (fC d) := PE.imp h fun σ H Q ⟨F, G, δ, o, δ', S, e, k⟩ => by
  cases e
  exact k v H G S .refl (r G)
section
variable {X : Cx} {j : Nat} {pos : Pos}
theorem ev_int {i : Int} : Ev X (.Constant (.int i) j pos) (fC (.int i)) := ev_const pe_int fun _ => .int i
theorem ev_bl {i : Bool} : Ev X (.Constant (.bool i) j pos) (fC (.bl i)) := ev_const pe_bl fun _ => .bl i
theorem ev_non : Ev X (.Constant .none j pos) (fC .non) := ev_const pe_non fun _ => .non
theorem ev_str {x : Str} : Ev X (.Constant (.str x) j pos) (fC (.str x)) := ev_const pe_str fun _ => .str x
/-- a constant of the module -/
theorem ev_glob {x : Str} {d : D} {v : V} {u : Value} (hg : Gl X x) (hm : X.mg x = some u) (r : RelV v u) (rr : ∀ G, Rep X.K G v d) (hd : (x == ("__debug__" : Str)) = false := by decide) : Ev X (.Name x pos) (fC d) :=
  ev_const (pe_glob hg hm r hd) rr
end

/-! ### arithmetic -/
def mulOk (i j : Int) : Bool := decide ((-(2 ^ 64) < i ∧ i < 2 ^ 64) ∨ (-(2 ^ 64) < j ∧ j < 2 ^ 64))
def dAdd : D → D → Option OV
  | .int i, .int j => some (.val (.int (i + j)))
  | .str a, .str b => if a.length + b.length ≤ sizeLine then some (.val (.str (a ++ b))) else none
  | .lst xs, .lst ys => if xs.length + ys.length ≤ sizeLine then some (.new (.lst (xs ++ ys))) else none
  | _, _ => none
def dSub : D → D → Option OV
  | .int i, .int j => some (.val (.int (i - j)))
  | _, _ => none
def dMul : D → D → Option OV
  | .int i, .int j => if mulOk i j = true then some (.val (.int (i * j))) else none
  | .lst xs, .int k => if k < 2 ^ 60 ∧ -(2 ^ 60) < k ∧ xs.length * k.toNat ≤ sizeLine then some (.new (.lst (List.replicate k.toNat xs).flatten)) else none
  | _, _ => none
def dDiv : D → D → Option OV
  | .int i, .int j => if 0 < j ∧ j.natAbs.log2 < 9000 then some (.val (.int (i / j))) else if j < 0 ∧ j.natAbs < 1073741824 then some (.val (.int (i.fdiv j))) else none
  | _, _ => none
def dMod : D → D → Option OV
  | .int i, .int j => if 0 < j then some (.val (.int (i % j))) else none
  | _, _ => none
def dPow : D → D → Option OV
  | .int i, .int j => if 0 ≤ j ∧ (Builtin.Int.intBits i : Int) * j ≤ 2 ^ 27 then some (.val (.int (i ^ j.toNat))) else none
  | _, _ => none
def dShl : D → D → Option OV
  | .int i, .int j => if 0 ≤ j ∧ (Builtin.Int.intBits i : Int) + j ≤ 2 ^ 27 then some (.val (.int (i * 2 ^ j.toNat))) else none
  | _, _ => none
def dShr : D → D → Option OV
  | .int i, .int j => if 0 ≤ j then some (.val (.int (i / 2 ^ j.toNat))) else none
  | _, _ => none
def dAnd : D → D → Option OV
  | .int i, .int j => some (.val (.int (Builtin.bitAnd i j)))
  | _, _ => none
def dOr : D → D → Option OV
  | .int i, .int j => some (.val (.int (Builtin.bitOr i j)))
  | _, _ => none
def dXor : D → D → Option OV
  | .int i, .int j => some (.val (.int (Builtin.bitXor i j)))
  | _, _ => none
section
variable {X : Cx}
/-- the list's object -/
theorem rdl {pins : List (Addr × Obj)} {s : Shared} {σ : St} {H : Hp} {a : Addr} {xs : List V} (I : Inv X pins σ H s) (h : Rd H a (.lst xs)) :
    xs.length ≤ sizeLine ∧ ∃ (its : List Value) (n : Nat), Vals xs its ∧ xs.length = its.length ∧ s.heap.get? a = some { cls := .type "list", data := .seq its.toArray n } := by
  obtain ⟨z, its, n, r, e⟩ := h.ok I.hok
  exact ⟨z, its, n, r, r.length, e⟩
theorem opT_add : OpT X (binaryOp .Add) dAdd := by
  intro pins s σ H x y v u Q I rx ry ⟨G, d, e, o, sb, rd, re, hq, k⟩
  unfold dAdd at hq
  split at hq
  · cases hq
    exact op_add pins s σ H x y v u Q I rx ry ⟨_, _, rd.int, re.int, k.val sb (.int _)⟩
  · split at hq
    · cases hq
      rename_i hz
      exact op_add_str pins s σ H x y v u Q I rx ry ⟨_, _, rd.str, re.str, hz, k.val sb (.str _)⟩
    · cases hq
  · split at hq
    · cases hq
      rename_i hz
      obtain ⟨l, vs, rfl, h1, r1⟩ := rd.lst sb
      obtain ⟨b, ws, rfl, h2, r2⟩ := re.lst sb
      cases rx
      cases ry
      obtain ⟨z, its, n, r, hl, e⟩ := rdl I h1
      obtain ⟨z2, its2, n2, r', hl2, e2⟩ := rdl I h2
      rw [← r1.length, ← r2.length] at hz
      refine PySem.P.add_list e e2 ?_ (by rw [List.size_toArray, List.size_toArray]; omega)
      have ea : its.toArray ++ its2.toArray = (its ++ its2).toArray := by simp
      rw [ea]
      exact ⟨.ref _, _, I.lnew (t' := s.toks) (r.append r') (by rw [List.length_append]; omega), rfl, k.lst sb (r1.append r2) I.fresh⟩
    · cases hq
  · cases hq
theorem opT_sub : OpT X (binaryOp .Sub) dSub := by
  intro pins s σ H x y v u Q I rx ry ⟨G, d, e, o, sb, rd, re, hq, k⟩
  unfold dSub at hq
  split at hq
  · cases hq
    exact op_sub pins s σ H x y v u Q I rx ry ⟨_, _, rd.int, re.int, k.val sb (.int _)⟩
  · cases hq
theorem RepL.rep {K : PySem.W.Frag} {G : Hp} {vs : List V} {ds : List D} (r : RepL K G vs ds) : ∀ n : Nat, RepL K G (List.replicate n vs).flatten (List.replicate n ds).flatten
  | 0 => .nil
  | n + 1 => by
    simp only [List.replicate_succ, List.flatten_cons]
    exact r.append (RepL.rep r n)
theorem opT_mul : OpT X (binaryOp .Mult) dMul := by
  intro pins s σ H x y v u Q I rx ry ⟨G, d, e, o, sb, rd, re, hq, k⟩
  unfold dMul at hq
  split at hq
  · split at hq
    · cases hq
      rename_i hz
      exact op_mul pins s σ H x y v u Q I rx ry ⟨_, _, rd.int, re.int, (by unfold mulOk at hz; simpa [CMul] using hz), k.val sb (.int _)⟩
    · cases hq
  · split at hq
    · cases hq
      rename_i xs kk hz
      obtain ⟨hz1, hz2, hz⟩ := hz
      obtain ⟨l, vs, rfl, h1, r1⟩ := rd.lst sb
      cases re.int
      cases rx
      obtain ⟨t, rfl⟩ := ry
      obtain ⟨z, its, n, r, hl, e⟩ := rdl I h1
      rw [← r1.length] at hz
      have h1 : -(2 ^ 63) ≤ kk := by omega
      have h2 : kk < 2 ^ 63 := by omega
      have hlen : its.toArray.size * kk.toNat ≤ sizeLine := by rw [List.size_toArray, ← hl]; exact hz
      have hcap : ¬ its.toArray.size * kk.toNat > (2 ^ 63 - 1) / 8 := by
        have : (sizeLine : Nat) ≤ (2 ^ 63 - 1) / 8 := by decide
        omega
      have hfit : ¬ (!Builtin.List.listFitsIndex kk) = true := by
        rw [fitsIndex_both h1 h2]
        exact Bool.false_ne_true
      have hlong : ¬ Builtin.List.listTooLong (its.toArray.size * kk.toNat) = true := by
        rw [notLongL hlen]
        exact Bool.false_ne_true
      have hnew : List.foldl (fun x1 x2 => x1 ++ x2) #[] (List.replicate (if its.toArray.isEmpty = true then 0 else kk.toNat) its.toArray) = (List.replicate kk.toNat its).flatten.toArray := by
        have f0 : ∀ m : Nat, List.foldl (fun x1 x2 => x1 ++ x2) #[] (List.replicate m its.toArray) = (List.replicate m its).flatten.toArray := fun m => by
          have := foldl_rep its m []
          rw [List.nil_append] at this
          exact this
        rw [f0]
        cases its with
        | nil => simp
        | cons a r' => rw [if_neg (by simp)]
      refine wpAny_binaryOp_repeat_ref (T := "list") (U := "int") (by decide) ⟨_, e, rfl⟩ (fun s' => typeIs_int s' kk t) noFill_list_mul F.fills_int_mul F.slot_int_rmul repeat_list F.slot_int_index.lookup
        (call_meets F.slot_int_rmul (typeIs_int s kk t) F.entry_int_rmul (F.args_int_rmul_2 _ _) (int___rmul___int_list kk t l its.toArray n)
          ⟨e, rfl, ⟨_, e, rfl⟩, call_meets F.slot_list_mul ⟨_, e, rfl⟩ F.entry_list_mul (F.args_list_mul_2 _ _) (AutoListH.list___mul___list_int_3 l its.toArray n kk t hfit hcap hlong) ⟨e, ?_⟩⟩)
      rw [hnew]
      exact ⟨.ref _, _, I.lnew (t' := s.toks) (r.rep kk.toNat) (by rw [PyProof.Rows.lm_len_rep_flat, Nat.mul_comm]; exact hz), rfl, k.lst sb (r1.rep kk.toNat) I.fresh⟩
    · cases hq
  · cases hq
theorem opT_div : OpT X (binaryOp .FloorDiv) dDiv := by
  intro pins s σ H x y v u Q I rx ry ⟨G, d, e, o, sb, rd, re, hq, k⟩
  unfold dDiv at hq
  split at hq
  · split at hq
    · cases hq
      rename_i hz
      exact op_fdivW pins s σ H x y v u Q I rx ry ⟨_, _, rd.int, re.int, hz, k.val sb (.int _)⟩
    · split at hq
      · cases hq
        rename_i hz
        exact op_fdivN pins s σ H x y v u Q I rx ry ⟨_, _, rd.int, re.int, ⟨by omega, hz.2⟩, k.val sb (.int _)⟩
      · cases hq
  · cases hq
theorem opT_mod : OpT X (binaryOp .Mod) dMod := by
  intro pins s σ H x y v u Q I rx ry ⟨G, d, e, o, sb, rd, re, hq, k⟩
  unfold dMod at hq
  split at hq
  · split at hq
    · cases hq
      rename_i hz
      exact op_mod pins s σ H x y v u Q I rx ry ⟨_, _, rd.int, re.int, hz, k.val sb (.int _)⟩
    · cases hq
  · cases hq
theorem opT_pow : OpT X (binaryOp .Pow) dPow := by
  intro pins s σ H x y v u Q I rx ry ⟨G, d, e, o, sb, rd, re, hq, k⟩
  unfold dPow at hq
  split at hq
  · split at hq
    · cases hq
      rename_i hz
      cases rd.int
      cases re.int
      obtain ⟨t, rfl⟩ := rx
      obtain ⟨t', rfl⟩ := ry
      exact pow_int hz.1 hz.2 ⟨.int _, H, I.tok _, ⟨_, rfl⟩, k.val sb (.int _)⟩
    · cases hq
  · cases hq
theorem opT_shl : OpT X (binaryOp .LShift) dShl := by
  intro pins s σ H x y v u Q I rx ry ⟨G, d, e, o, sb, rd, re, hq, k⟩
  unfold dShl at hq
  split at hq
  · split at hq
    · cases hq
      rename_i hz
      exact op_shlW pins s σ H x y v u Q I rx ry ⟨_, _, rd.int, re.int, hz, k.val sb (.int _)⟩
    · cases hq
  · cases hq
theorem opT_shr : OpT X (binaryOp .RShift) dShr := by
  intro pins s σ H x y v u Q I rx ry ⟨G, d, e, o, sb, rd, re, hq, k⟩
  unfold dShr at hq
  split at hq
  · split at hq
    · cases hq
      rename_i hz
      exact op_shr pins s σ H x y v u Q I rx ry ⟨_, _, rd.int, re.int, hz, k.val sb (.int _)⟩
    · cases hq
  · cases hq
theorem opT_and : OpT X (binaryOp .BitAnd) dAnd := by
  intro pins s σ H x y v u Q I rx ry ⟨G, d, e, o, sb, rd, re, hq, k⟩
  unfold dAnd at hq
  split at hq
  · cases hq
    exact op_and pins s σ H x y v u Q I rx ry ⟨_, _, rd.int, re.int, k.val sb (.int _)⟩
  · cases hq
theorem opT_or : OpT X (binaryOp .BitOr) dOr := by
  intro pins s σ H x y v u Q I rx ry ⟨G, d, e, o, sb, rd, re, hq, k⟩
  unfold dOr at hq
  split at hq
  · cases hq
    exact op_or pins s σ H x y v u Q I rx ry ⟨_, _, rd.int, re.int, k.val sb (.int _)⟩
  · cases hq
theorem opT_xor : OpT X (binaryOp .BitXor) dXor := by
  intro pins s σ H x y v u Q I rx ry ⟨G, d, e, o, sb, rd, re, hq, k⟩
  unfold dXor at hq
  split at hq
  · cases hq
    exact op_xor pins s σ H x y v u Q I rx ry ⟨_, _, rd.int, re.int, k.val sb (.int _)⟩
  · cases hq
end
end L2.Tl

set_option Elab.async false
set_option linter.all false
set_option autoImplicit false
set_option maxRecDepth 100000
namespace L2.Tl
open PySem PySem.Spec PyProof.Rows

/-! ### equality, order, membership -/
mutual
def D.eqv : D → D → Bool
  | .non, .non => true
  | .bl a, .bl b => a == b
  | .bl a, .int j => (if a then 1 else 0) == j
  | .int i, .bl b => i == (if b then 1 else 0)
  | .int i, .int j => i == j
  | .str x, .str y => x == y
  | .lst xs, .lst ys => eqvL xs ys
  | .tup xs, .tup ys => eqvL xs ys
  | _, _ => false
def eqvL : List D → List D → Bool
  | [], [] => true
  | x :: xs, y :: ys => D.eqv x y && eqvL xs ys
  | _, _ => false
end
mutual
/-- no dict, no instance within -/
def D.plain : D → Bool
  | .lst xs => plainL xs
  | .tup xs => plainL xs
  | .dct _ _ => false
  | .obj _ _ => false
  | .kl _ => false
  | _ => true
def plainL : List D → Bool
  | [] => true
  | x :: xs => x.plain && plainL xs
end
mutual
def D.dep : D → Nat
  | .lst xs => depL xs + 1
  | .tup xs => depL xs + 1
  | _ => 0
def depL : List D → Nat
  | [] => 0
  | x :: xs => max x.dep (depL xs)
end
mutual
theorem D.pd_plain : ∀ d : D, d.plain = true → ∃ p, d.pd = some p ∧ p.plain = true ∧ p.depth = d.dep
  | .non, _ => ⟨_, rfl, rfl, rfl⟩
  | .bl _, _ => ⟨_, rfl, rfl, rfl⟩
  | .int _, _ => ⟨_, rfl, rfl, rfl⟩
  | .str _, _ => ⟨_, rfl, rfl, rfl⟩
  | .lst xs, h => by
    obtain ⟨ps, h1, h2, h3⟩ := pdL_plain xs (by simpa [D.plain] using h)
    exact ⟨.list ps, by simp [D.pd, h1], by simpa [PyData.plain] using h2, by simp [PyData.depth, D.dep, h3]⟩
  | .tup xs, h => by
    obtain ⟨ps, h1, h2, h3⟩ := pdL_plain xs (by simpa [D.plain] using h)
    exact ⟨.tuple ps, by simp [D.pd, h1], by simpa [PyData.plain] using h2, by simp [PyData.depth, D.dep, h3]⟩
  | .dct _ _, h => by simp [D.plain] at h
  | .obj _ _, h => by simp [D.plain] at h
  | .kl _, h => by simp [D.plain] at h
theorem pdL_plain : ∀ ds : List D, plainL ds = true → ∃ ps, pdL ds = some ps ∧ PyData.plainAll ps = true ∧ PyData.depthAll ps = depL ds
  | [], _ => ⟨_, rfl, rfl, rfl⟩
  | x :: xs, h => by
    have h' : x.plain = true ∧ plainL xs = true := by simpa [plainL] using h
    obtain ⟨p, a1, a2, a3⟩ := D.pd_plain x h'.1
    obtain ⟨ps, b1, b2, b3⟩ := pdL_plain xs h'.2
    exact ⟨p :: ps, by simp [pdL, a1, b1], by simp [PyData.plainAll, a2, b2], by simp [PyData.depthAll, depL, a3, b3]⟩
end
theorem pdL_cons {x : D} {xs : List D} {ps : List PyData} (h : pdL (x :: xs) = some ps) : ∃ p qs, ps = p :: qs ∧ x.pd = some p ∧ pdL xs = some qs := by
  simp only [pdL] at h
  split at h
  · rename_i p qs a b
    cases h
    exact ⟨p, qs, rfl, a, b⟩
  · cases h
theorem pd_lst {xs : List D} {p : PyData} (h : (D.lst xs).pd = some p) : ∃ ps, p = .list ps ∧ pdL xs = some ps := by
  simp only [D.pd] at h
  obtain ⟨ps, a, b⟩ := Option.map_eq_some_iff.mp h
  exact ⟨ps, b.symm, a⟩
theorem pd_tup {xs : List D} {p : PyData} (h : (D.tup xs).pd = some p) : ∃ ps, p = .tuple ps ∧ pdL xs = some ps := by
  simp only [D.pd] at h
  obtain ⟨ps, a, b⟩ := Option.map_eq_some_iff.mp h
  exact ⟨ps, b.symm, a⟩
mutual
theorem D.eqv_pd : ∀ (d e : D) (p q : PyData), d.pd = some p → e.pd = some q → PyData.eqv p q = D.eqv d e
  | .non, e, p, q, h1, h2 => by
    cases h1
    cases e <;> first
      | (cases h2; rfl)
      | (obtain ⟨_, rfl, _⟩ := pd_lst h2; rfl)
      | (obtain ⟨_, rfl, _⟩ := pd_tup h2; rfl)
      | (exact absurd h2 (by simp [D.pd]))
  | .bl b, e, p, q, h1, h2 => by
    cases h1
    cases e <;> first
      | (cases h2; rfl)
      | (cases h2; simp [PyData.eqv, D.eqv]; done)
      | (obtain ⟨_, rfl, _⟩ := pd_lst h2; rfl)
      | (obtain ⟨_, rfl, _⟩ := pd_tup h2; rfl)
      | (exact absurd h2 (by simp [D.pd]))
  | .int b, e, p, q, h1, h2 => by
    cases h1
    cases e <;> first
      | (cases h2; rfl)
      | (cases h2; simp [PyData.eqv, D.eqv]; done)
      | (obtain ⟨_, rfl, _⟩ := pd_lst h2; rfl)
      | (obtain ⟨_, rfl, _⟩ := pd_tup h2; rfl)
      | (exact absurd h2 (by simp [D.pd]))
  | .str b, e, p, q, h1, h2 => by
    cases h1
    cases e <;> first
      | (cases h2; rfl)
      | (cases h2; simp [PyData.eqv, D.eqv]; done)
      | (obtain ⟨_, rfl, _⟩ := pd_lst h2; rfl)
      | (obtain ⟨_, rfl, _⟩ := pd_tup h2; rfl)
      | (exact absurd h2 (by simp [D.pd]))
  | .lst xs, e, p, q, h1, h2 => by
    obtain ⟨ps, rfl, g1⟩ := pd_lst h1
    cases e with
    | lst ys =>
      obtain ⟨qs, rfl, g2⟩ := pd_lst h2
      simp only [PyData.eqv, D.eqv]
      exact eqvL_pd xs ys ps qs g1 g2
    | tup ys => obtain ⟨_, rfl, _⟩ := pd_tup h2; rfl
    | dct _ _ => exact absurd h2 (by simp [D.pd])
    | obj _ _ => exact absurd h2 (by simp [D.pd])
    | kl _ => exact absurd h2 (by simp [D.pd])
    | _ => cases h2; rfl
  | .tup xs, e, p, q, h1, h2 => by
    obtain ⟨ps, rfl, g1⟩ := pd_tup h1
    cases e with
    | tup ys =>
      obtain ⟨qs, rfl, g2⟩ := pd_tup h2
      simp only [PyData.eqv, D.eqv]
      exact eqvL_pd xs ys ps qs g1 g2
    | lst ys => obtain ⟨_, rfl, _⟩ := pd_lst h2; rfl
    | dct _ _ => exact absurd h2 (by simp [D.pd])
    | obj _ _ => exact absurd h2 (by simp [D.pd])
    | kl _ => exact absurd h2 (by simp [D.pd])
    | _ => cases h2; rfl
  | .dct _ _, _, _, _, h1, _ => absurd h1 (by simp [D.pd])
  | .obj _ _, _, _, _, h1, _ => absurd h1 (by simp [D.pd])
  | .kl _, _, _, _, h1, _ => absurd h1 (by simp [D.pd])
theorem eqvL_pd : ∀ (d e : List D) (p q : List PyData), pdL d = some p → pdL e = some q → PyData.eqvAll p q = eqvL d e
  | [], [], _, _, h1, h2 => by cases h1; cases h2; rfl
  | [], y :: ys, _, _, h1, h2 => by
    cases h1
    obtain ⟨_, _, rfl, _⟩ := pdL_cons h2
    rfl
  | x :: xs, [], _, _, h1, h2 => by
    cases h2
    obtain ⟨_, _, rfl, _⟩ := pdL_cons h1
    rfl
  | x :: xs, y :: ys, _, _, h1, h2 => by
    obtain ⟨p, ps, rfl, a1, a2⟩ := pdL_cons h1
    obtain ⟨q, qs, rfl, b1, b2⟩ := pdL_cons h2
    simp only [PyData.eqvAll, eqvL]
    rw [D.eqv_pd x y p q a1 b1, eqvL_pd xs ys ps qs a2 b2]
end
/-- two trees that == may tell apart -/
def eqOk (d e : D) : Bool := d.plain && (e.plain && decide (min d.dep e.dep ≤ 60))
def dEq (d e : D) : Option OV := if eqOk d e = true then some (.val (.bl (D.eqv d e))) else none
def dNe (d e : D) : Option OV := if eqOk d e = true then some (.val (.bl (!D.eqv d e))) else none
theorem eqOk_at {d e : D} (h : eqOk d e = true) : ∃ p q, d.pd = some p ∧ e.pd = some q ∧ p.plain = true ∧ q.plain = true ∧ min p.depth q.depth ≤ 60 := by
  simp only [eqOk, Bool.and_eq_true, decide_eq_true_eq] at h
  obtain ⟨p, a1, a2, a3⟩ := d.pd_plain h.1
  obtain ⟨q, b1, b2, b3⟩ := e.pd_plain h.2.1
  exact ⟨p, q, a1, b1, a2, b2, by rw [a3, b3]; exact h.2.2⟩
section
variable {X : Cx}
theorem opT_eq (hu : X.A.units + 64 < cLine) : OpT X (compareOp .Eq) dEq := by
  intro pins s σ H x y v u Q I rx ry ⟨G, d, e, o, sb, rd, re, hq, k⟩
  unfold dEq at hq
  split at hq
  · cases hq
    rename_i hz
    obtain ⟨p, q, h1, h2, h3, h4, h5⟩ := eqOk_at hz
    obtain ⟨as, r1⟩ := Dp.reads I p x v (Rep.dp d x p (rd.all sb) h1) rx
    obtain ⟨bs, r2⟩ := Dp.reads I q y u (Rep.dp e y q (re.all sb) h2) ry
    refine SeqAt.eq_plain r1 r2 h3 h4 (by omega) ⟨.bl _, H, I, rfl, ?_⟩
    rw [D.eqv_pd d e p q h1 h2]
    exact k.val sb (.bl _)
  · cases hq
theorem opT_ne (hu : X.A.units + 64 < cLine) : OpT X (compareOp .NotEq) dNe := by
  intro pins s σ H x y v u Q I rx ry ⟨G, d, e, o, sb, rd, re, hq, k⟩
  unfold dNe at hq
  split at hq
  · cases hq
    rename_i hz
    obtain ⟨p, q, h1, h2, h3, h4, h5⟩ := eqOk_at hz
    obtain ⟨as, r1⟩ := Dp.reads I p x v (Rep.dp d x p (rd.all sb) h1) rx
    obtain ⟨bs, r2⟩ := Dp.reads I q y u (Rep.dp e y q (re.all sb) h2) ry
    refine SeqAt.ne_plain r1 r2 h3 h4 (by omega) ⟨.bl _, H, I, rfl, ?_⟩
    rw [D.eqv_pd d e p q h1 h2]
    exact k.val sb (.bl _)
  · cases hq
end

/-! order -/
def pdN : PyData → Bool
  | .none => false
  | _ => true
/-- two trees of one kind that < may tell apart, not None -/
def ltOk (d e : D) : Option (PyData × PyData) := match d.pd, e.pd with
  | some p, some q => if PySem.W.alike p q = true ∧ min p.depth q.depth ≤ 60 ∧ pdN p = true then some (p, q) else none
  | _, _ => none
def dCmp (f : PyData → PyData → Bool) (d e : D) : Option OV := (ltOk d e).map fun pq => .val (.bl (f pq.1 pq.2))
def dLt : D → D → Option OV
  | .int i, .int j => some (.val (.bl (decide (i < j))))
  | .str i, .str j => some (.val (.bl (decide (i.cps.toList < j.cps.toList))))
  | d, e => dCmp (fun p q => PySem.W.dataLt p q) d e
def dGt : D → D → Option OV
  | .int i, .int j => some (.val (.bl (decide (j < i))))
  | .str i, .str j => some (.val (.bl (decide (j.cps.toList < i.cps.toList))))
  | d, e => dCmp (fun p q => PySem.W.dataLt q p) d e
def dLe : D → D → Option OV
  | .int i, .int j => some (.val (.bl (decide (i ≤ j))))
  | .str i, .str j => some (.val (.bl (!decide (j.cps.toList < i.cps.toList))))
  | d, e => dCmp (fun p q => !PySem.W.dataLt q p) d e
def dGe : D → D → Option OV
  | .int i, .int j => some (.val (.bl (decide (j ≤ i))))
  | .str i, .str j => some (.val (.bl (!decide (i.cps.toList < j.cps.toList))))
  | d, e => dCmp (fun p q => !PySem.W.dataLt p q) d e
theorem ltOk_at {d e : D} {p q : PyData} (h : ltOk d e = some (p, q)) : d.pd = some p ∧ e.pd = some q ∧ PySem.W.alike p q = true ∧ min p.depth q.depth ≤ 60 ∧ p ≠ .none := by
  unfold ltOk at h
  split at h
  · split at h
    · rename_i h3
      cases h
      rename_i h1 h2
      refine ⟨h1, h2, h3.1, h3.2.1, ?_⟩
      intro e
      subst e
      exact absurd h3.2.2 (by decide)
    · cases h
  · cases h
section
variable {X : Cx}
theorem cmp_at {f : PyData → PyData → Bool} {op : CmpOp} (hu : X.A.units + 64 < cLine)
    (rule : ∀ {s : Shared} {a b : Value} {da db : PyData} {as bs : List Addr} {Q : Value → Shared → Prop}, Reads s.heap a da as → Reads s.heap b db bs → PySem.W.alike da db = true → da ≠ .none → X.A.units + min da.depth db.depth < cLine →
      Q (.bool (f da db)) s → wpAny (model X.prog X.w) X.A (compareOp op a b) Q X.xe s)
    {pins : List (Addr × Obj)} {s : Shared} {σ : St} {H : Hp} {x y : V} {v u : Value} {Q : VK} (I : Inv X pins σ H s) (rx : RelV x v) (ry : RelV y u) {G : Hp} {d e : D} {o : OV} (sb : Sub G H) (rd : RepK X.K G H x d) (re : RepK X.K G H y e)
    (hq : dCmp f d e = some o) (k : Post X.K G H o Q) : wpAny (model X.prog X.w) X.A (compareOp op v u) (EP X pins σ Q) X.xe s := by
  obtain ⟨⟨p, q⟩, h1, h2⟩ := Option.map_eq_some_iff.mp hq
  cases h2
  obtain ⟨a1, a2, a3, a4, a5⟩ := ltOk_at h1
  obtain ⟨as, r1⟩ := Dp.reads I p x v (Rep.dp d x p (rd.all sb) a1) rx
  obtain ⟨bs, r2⟩ := Dp.reads I q y u (Rep.dp e y q (re.all sb) a2) ry
  exact rule r1 r2 a3 a5 (by omega) ⟨.bl _, H, I, rfl, k.val sb (.bl _)⟩
theorem opT_lt (hu : X.A.units + 64 < cLine) : OpT X (compareOp .Lt) dLt := by
  intro pins s σ H x y v u Q I rx ry ⟨G, d, e, o, sb, rd, re, hq, k⟩
  unfold dLt at hq
  split at hq
  · cases hq
    exact op_lt pins s σ H x y v u Q I rx ry ⟨_, _, rd.int, re.int, k.val sb (.bl _)⟩
  · cases hq
    exact op_lt_str pins s σ H x y v u Q I rx ry ⟨_, _, rd.str, re.str, k.val sb (.bl _)⟩
  · exact cmp_at hu (fun r1 r2 h1 h2 h3 hq => PySem.W.lt_data r1 r2 h1 h2 h3 hq) I rx ry sb rd re hq k
theorem opT_gt (hu : X.A.units + 64 < cLine) : OpT X (compareOp .Gt) dGt := by
  intro pins s σ H x y v u Q I rx ry ⟨G, d, e, o, sb, rd, re, hq, k⟩
  unfold dGt at hq
  split at hq
  · cases hq
    exact op_gt pins s σ H x y v u Q I rx ry ⟨_, _, rd.int, re.int, k.val sb (.bl _)⟩
  · cases hq
    exact op_gt_str pins s σ H x y v u Q I rx ry ⟨_, _, rd.str, re.str, k.val sb (.bl _)⟩
  · exact cmp_at hu (fun r1 r2 h1 h2 h3 hq => PySem.W.gt_data r1 r2 h1 h2 h3 hq) I rx ry sb rd re hq k
theorem opT_le (hu : X.A.units + 64 < cLine) : OpT X (compareOp .LtE) dLe := by
  intro pins s σ H x y v u Q I rx ry ⟨G, d, e, o, sb, rd, re, hq, k⟩
  unfold dLe at hq
  split at hq
  · cases hq
    exact op_le pins s σ H x y v u Q I rx ry ⟨_, _, rd.int, re.int, k.val sb (.bl _)⟩
  · cases hq
    exact op_le_str pins s σ H x y v u Q I rx ry ⟨_, _, rd.str, re.str, k.val sb (.bl _)⟩
  · exact cmp_at hu (fun r1 r2 h1 h2 h3 hq => PySem.W.le_data r1 r2 h1 h2 h3 hq) I rx ry sb rd re hq k
theorem opT_ge (hu : X.A.units + 64 < cLine) : OpT X (compareOp .GtE) dGe := by
  intro pins s σ H x y v u Q I rx ry ⟨G, d, e, o, sb, rd, re, hq, k⟩
  unfold dGe at hq
  split at hq
  · cases hq
    exact op_ge pins s σ H x y v u Q I rx ry ⟨_, _, rd.int, re.int, k.val sb (.bl _)⟩
  · cases hq
    exact op_ge_str pins s σ H x y v u Q I rx ry ⟨_, _, rd.str, re.str, k.val sb (.bl _)⟩
  · exact cmp_at hu (fun r1 r2 h1 h2 h3 hq => PySem.W.ge_data r1 r2 h1 h2 h3 hq) I rx ry sb rd re hq k
end
/-- is None; is of two truth values -/
def dIs : D → D → Option OV
  | .non, .non => some (.val (.bl true))
  | _, .non => some (.val (.bl false))
  | .bl a, .bl b => some (.val (.bl (decide (a = b))))
  | _, _ => none
def dIsnt : D → D → Option OV
  | .non, .non => some (.val (.bl false))
  | _, .non => some (.val (.bl true))
  | .bl a, .bl b => some (.val (.bl (!decide (a = b))))
  | _, _ => none
theorem RepK.notnon {K : PySem.W.Frag} {G H : Hp} {v : V} {d : D} (h : RepK K G H v d) (n : d ≠ .non) : v ≠ .non := by
  rintro rfl
  rcases h with h | ⟨p, e, _⟩
  · cases h; exact n rfl
  · cases e
section
variable {X : Cx}
theorem opT_is : OpT X (compareOp .Is) dIs := by
  intro pins s σ H x y v u Q I rx ry ⟨G, d, e, o, sb, rd, re, hq, k⟩
  unfold dIs at hq
  split at hq
  · cases hq
    cases rd.non
    exact op_isN pins s σ H _ y v u Q I rx ry ⟨re.non, k.val sb (.bl _)⟩
  · cases hq
    rename_i n
    refine op_isN pins s σ H x y v u Q I rx ry ⟨re.non, ?_⟩
    rw [decide_eq_false (rd.notnon n)]
    exact k.val sb (.bl _)
  · cases hq
    exact op_isBl pins s σ H x y v u Q I rx ry ⟨_, _, rd.bl, re.bl, k.val sb (.bl _)⟩
  · cases hq
theorem opT_isnt : OpT X (compareOp .IsNot) dIsnt := by
  intro pins s σ H x y v u Q I rx ry ⟨G, d, e, o, sb, rd, re, hq, k⟩
  unfold dIsnt at hq
  split at hq
  · cases hq
    cases rd.non
    exact op_notN pins s σ H _ y v u Q I rx ry ⟨re.non, k.val sb (.bl _)⟩
  · cases hq
    rename_i n
    refine op_notN pins s σ H x y v u Q I rx ry ⟨re.non, ?_⟩
    rw [decide_eq_false (rd.notnon n)]
    exact k.val sb (.bl _)
  · cases hq
    exact op_notBl pins s σ H x y v u Q I rx ry ⟨_, _, rd.bl, re.bl, k.val sb (.bl _)⟩
  · cases hq
end

/-! ### dicts by trees -/
def kEq1 : D → D → Bool
  | .int i, .int j => decide (i = j)
  | .str a, .str b => decide (a = b)
  | _, _ => false
def kEqL : List D → List D → Bool
  | [], [] => true
  | x :: xs, y :: ys => kEq1 x y && kEqL xs ys
  | _, _ => false
def kEq : D → D → Bool
  | .tup xs, .tup ys => kEqL xs ys
  | x, y => kEq1 x y
def isKey1 : D → Bool
  | .int _ => true
  | .str _ => true
  | _ => false
/-- a key of a dict of this kind -/
def isKey : Bool → D → Bool
  | false, x => isKey1 x
  | true, .tup ys => ys.all isKey1
  | true, _ => false
def kvGet (kvs : List (D × D)) (y : D) : Option D := (kvs.find? fun kv => kEq kv.1 y).map (·.2)
def kvPut (kvs : List (D × D)) (y v : D) : List (D × D) := if (kvs.any fun kv => kEq kv.1 y) = true then kvs.map (fun kv => if kEq kv.1 y = true then (kv.1, v) else kv) else kvs ++ [(y, v)]
def kvDrop (kvs : List (D × D)) (y : D) : List (D × D) := kvs.filter fun kv => !kEq kv.1 y
theorem kEq1_kD (a b : Key) : kEq1 (kD a) (kD b) = decide (a = b) := by
  cases a <;> cases b <;> simp [kEq1, kD]
theorem kEq_kD (a b : Key) : kEq (kD a) (kD b) = decide (a = b) := by
  rw [← kEq1_kD]
  cases a <;> cases b <;> rfl
theorem kEqL_kD : ∀ a b : List Key, kEqL (a.map kD) (b.map kD) = decide (a = b)
  | [], [] => rfl
  | [], _ :: _ => rfl
  | _ :: _, [] => rfl
  | x :: xs, y :: ys => by
    simp only [List.map_cons, kEqL, kEq1_kD, kEqL_kD xs ys]
    simp
theorem kEq_kT (a b : List Key) : kEq (.tup (a.map kD)) (.tup (b.map kD)) = decide (a = b) := kEqL_kD a b
theorem isKey1_kD {y : D} (h : isKey1 y = true) : ∃ k, y = kD k := by
  cases y with
  | int i => exact ⟨.inl i, rfl⟩
  | str i => exact ⟨.inr i, rfl⟩
  | _ => cases h
theorem isKeyL_kD : ∀ {ys : List D}, ys.all isKey1 = true → ∃ ks : List Key, ys = ks.map kD
  | [], _ => ⟨[], rfl⟩
  | y :: ys, h => by
    simp only [List.all_cons, Bool.and_eq_true] at h
    obtain ⟨k, rfl⟩ := isKey1_kD h.1
    obtain ⟨ks, rfl⟩ := isKeyL_kD h.2
    exact ⟨k :: ks, rfl⟩
theorem isKey_T {y : D} (h : isKey true y = true) : ∃ ks : List Key, y = .tup (ks.map kD) := by
  cases y with
  | tup ys =>
    obtain ⟨ks, rfl⟩ := isKeyL_kD (show ys.all isKey1 = true from h)
    exact ⟨ks, rfl⟩
  | _ => cases h
section
variable {K : PySem.W.Frag} {G H : Hp}
theorem RepK.kV {v : V} {k : Key} (h : RepK K G H v (kD k)) : v = kV k := by
  cases k with
  | inl i => exact h.int
  | inr x => exact h.str
theorem RepL.kVs : ∀ {vs : List V} {ks : List Key}, RepL K G vs (ks.map kD) → vs = ks.map kV
  | _, [], .nil => rfl
  | _, k :: ks, .cons h r => by
    simp only [List.map_cons]
    rw [RepL.kVs r]
    cases k with
    | inl i => cases h; rfl
    | inr i => cases h; rfl
/-- an answer of a dict -/
def RepOpt (K : PySem.W.Frag) (G : Hp) : Option V → Option D → Prop
  | some v, some d => Rep K G v d
  | none, none => True
  | _, _ => False
theorem RepD.get {k : Key} : ∀ {vs : List (Key × V)} {ds : List (D × D)}, RepD K G vs ds → RepOpt K G (valV vs k) (kvGet ds (kD k))
  | _, _, .nil => trivial
  | (j, v) :: vs, _, .cons h r => by
    have ih := RepD.get (k := k) r
    unfold kvGet at ih ⊢
    rw [List.find?_cons]
    by_cases e : j = k
    · rw [valV_pos e, show kEq (kD j) (kD k) = true by rw [kEq_kD]; exact decide_eq_true e]
      exact h
    · rw [valV_neg e, show kEq (kD j) (kD k) = false by rw [kEq_kD]; exact decide_eq_false e]
      exact ih
theorem RepT.get {k : List Key} : ∀ {vs : List (List Key × V)} {ds : List (D × D)}, RepT K G vs ds → RepOpt K G (valV vs k) (kvGet ds (.tup (k.map kD)))
  | _, _, .nil => trivial
  | (j, v) :: vs, _, .cons h r => by
    have ih := RepT.get (k := k) r
    unfold kvGet at ih ⊢
    rw [List.find?_cons]
    by_cases e : j = k
    · rw [valV_pos e, show kEq (.tup (j.map kD)) (.tup (k.map kD)) = true by rw [kEq_kT]; exact decide_eq_true e]
      exact h
    · rw [valV_neg e, show kEq (.tup (j.map kD)) (.tup (k.map kD)) = false by rw [kEq_kT]; exact decide_eq_false e]
      exact ih
theorem RepD.append : ∀ {vs ws : List (Key × V)} {ds es : List (D × D)}, RepD K G vs ds → RepD K G ws es → RepD K G (vs ++ ws) (ds ++ es)
  | _, _, _, _, .nil, s => s
  | _, _, _, _, .cons h r, s => .cons h (r.append s)
theorem RepT.append : ∀ {vs ws : List (List Key × V)} {ds es : List (D × D)}, RepT K G vs ds → RepT K G ws es → RepT K G (vs ++ ws) (ds ++ es)
  | _, _, _, _, .nil, s => s
  | _, _, _, _, .cons h r, s => .cons h (r.append s)
theorem RepD.any {k : Key} : ∀ {vs : List (Key × V)} {ds : List (D × D)}, RepD K G vs ds → (vs.any fun kv => decide (kv.1 = k)) = ds.any fun kv => kEq kv.1 (kD k)
  | _, _, .nil => rfl
  | _, _, .cons h r => by rw [List.any_cons, List.any_cons, RepD.any r, kEq_kD]
theorem RepT.any {k : List Key} : ∀ {vs : List (List Key × V)} {ds : List (D × D)}, RepT K G vs ds → (vs.any fun kv => decide (kv.1 = k)) = ds.any fun kv => kEq kv.1 (.tup (k.map kD))
  | _, _, .nil => rfl
  | _, _, .cons h r => by rw [List.any_cons, List.any_cons, RepT.any r, kEq_kT]
theorem RepD.repl {k : Key} {v : V} {d : D} (hv : Rep K G v d) : ∀ {vs : List (Key × V)} {ds : List (D × D)}, RepD K G vs ds → RepD K G (vs.map fun kv => if kv.1 = k then (kv.1, v) else kv) (ds.map fun kv => if kEq kv.1 (kD k) = true then (kv.1, d) else kv)
  | _, _, .nil => .nil
  | (j, w) :: vs, _, .cons h r => by
    simp only [List.map_cons]
    by_cases e : j = k
    · rw [if_pos e, if_pos (show kEq (kD j) (kD k) = true by rw [kEq_kD]; exact decide_eq_true e)]
      exact .cons hv (RepD.repl hv r)
    · rw [if_neg e, if_neg (show ¬ kEq (kD j) (kD k) = true by rw [kEq_kD]; simpa using e)]
      exact .cons h (RepD.repl hv r)
theorem RepT.repl {k : List Key} {v : V} {d : D} (hv : Rep K G v d) : ∀ {vs : List (List Key × V)} {ds : List (D × D)}, RepT K G vs ds → RepT K G (vs.map fun kv => if kv.1 = k then (kv.1, v) else kv) (ds.map fun kv => if kEq kv.1 (.tup (k.map kD)) = true then (kv.1, d) else kv)
  | _, _, .nil => .nil
  | (j, w) :: vs, _, .cons h r => by
    simp only [List.map_cons]
    by_cases e : j = k
    · rw [if_pos e, if_pos (show kEq (.tup (j.map kD)) (.tup (k.map kD)) = true by rw [kEq_kT]; exact decide_eq_true e)]
      exact .cons hv (RepT.repl hv r)
    · rw [if_neg e, if_neg (show ¬ kEq (.tup (j.map kD)) (.tup (k.map kD)) = true by rw [kEq_kT]; simpa using e)]
      exact .cons h (RepT.repl hv r)
theorem RepD.put {k : Key} {v : V} {d : D} (hv : Rep K G v d) {vs : List (Key × V)} {ds : List (D × D)} (r : RepD K G vs ds) : RepD K G (putK vs k v) (kvPut ds (kD k) d) := by
  unfold putK kvPut
  rw [r.any (k := k)]
  split
  · exact r.repl hv
  · exact r.append (.cons hv .nil)
theorem RepT.put {k : List Key} {v : V} {d : D} (hv : Rep K G v d) {vs : List (List Key × V)} {ds : List (D × D)} (r : RepT K G vs ds) : RepT K G (putK vs k v) (kvPut ds (.tup (k.map kD)) d) := by
  unfold putK kvPut
  rw [r.any (k := k)]
  split
  · exact r.repl hv
  · exact r.append (.cons hv .nil)
theorem RepD.length : ∀ {vs : List (Key × V)} {ds : List (D × D)}, RepD K G vs ds → vs.length = ds.length
  | _, _, .nil => rfl
  | _, _, .cons _ r => by simp [r.length]
theorem RepT.length : ∀ {vs : List (List Key × V)} {ds : List (D × D)}, RepT K G vs ds → vs.length = ds.length
  | _, _, .nil => rfl
  | _, _, .cons _ r => by simp [r.length]
theorem RepD.dropK {k : Key} : ∀ {vs : List (Key × V)} {ds : List (D × D)}, RepD K G vs ds → RepD K G (L2.dropK vs k) (kvDrop ds (kD k))
  | _, _, .nil => .nil
  | (j, w) :: vs, _, .cons h r => by
    have ih := RepD.dropK (k := k) r
    unfold L2.dropK kvDrop at ih ⊢
    by_cases e : j = k
    · rw [List.filter_cons_of_neg (by simpa using e), List.filter_cons_of_neg (by rw [kEq_kD]; simpa using e)]
      exact ih
    · rw [List.filter_cons_of_pos (by simpa using e), List.filter_cons_of_pos (by rw [kEq_kD]; simpa using e)]
      exact .cons h ih
/-- what a dict answers, at the heap -/
theorem dget_at {t : Bool} {v y : V} {ds : List (D × D)} {e : D} (sb : Sub G H) (rd : RepK K G H v (.dct t ds)) (re : RepK K G H y e) (hk : isKey t e = true) :
    ∃ a ov, v = .ref a ∧ DGet H a y ov ∧ RepOpt K G ov (kvGet ds e) := by
  cases t with
  | false =>
    obtain ⟨k, rfl⟩ := isKey1_kD (show isKey1 e = true by simpa [isKey] using hk)
    obtain ⟨a, kvs, rfl, h1, h2⟩ := rd.dK sb
    exact ⟨a, _, rfl, .inl ⟨kvs, k, h1, re.kV, rfl⟩, h2.get⟩
  | true =>
    obtain ⟨ks, rfl⟩ := isKey_T hk
    obtain ⟨a, kvs, rfl, h1, h2⟩ := rd.dT sb
    obtain ⟨b, vs, rfl, h3, h4⟩ := re.tup sb
    rw [h4.kVs] at h3
    exact ⟨a, _, rfl, .inr ⟨kvs, ks, b, h1, rfl, h3, rfl⟩, h2.get⟩
end
end L2.Tl

set_option Elab.async false
set_option linter.all false
set_option autoImplicit false
set_option maxRecDepth 100000
namespace L2.Tl
open PySem PySem.Spec PyProof.Rows

/-! ### in, not in -/
def inOk (x : D) (ys : List D) : Bool := x.plain && (plainL ys && decide (min (depL ys) x.dep ≤ 60))
def dMem : D → D → Option Bool
  | x, .lst ys => if inOk x ys = true then some (ys.any fun y => D.eqv y x) else none
  | x, .tup ys => if inOk x ys = true then some (ys.any fun y => D.eqv y x) else none
  | x, .dct t kvs => if isKey t x = true then some (kvGet kvs x).isSome else none
  | .str a, .str b => some (!(Builtin.Str.occurrences b a 0 b.length 1).isEmpty)
  | _, _ => none
def dIn (x c : D) : Option OV := (dMem x c).map fun b => .val (.bl b)
def dNotIn (x c : D) : Option OV := (dMem x c).map fun b => .val (.bl (!b))
theorem any_pd : ∀ {ys : List D} {ps : List PyData} {x : D} {p : PyData}, pdL ys = some ps → x.pd = some p → (ps.any fun q => PyData.eqv q p) = ys.any fun y => D.eqv y x
  | [], _, _, _, h, _ => by cases h; rfl
  | y :: ys, _, x, p, h, hx => by
    obtain ⟨q, qs, rfl, a, b⟩ := pdL_cons h
    rw [List.any_cons, List.any_cons, any_pd b hx, D.eqv_pd y x q p a hx]
theorem inOk_at {x : D} {ys : List D} (h : inOk x ys = true) : ∃ p ps, x.pd = some p ∧ pdL ys = some ps ∧ p.plain = true ∧ PyData.plainAll ps = true ∧ min (PyData.depthAll ps) p.depth ≤ 60 := by
  simp only [inOk, Bool.and_eq_true, decide_eq_true_eq] at h
  obtain ⟨p, a1, a2, a3⟩ := x.pd_plain h.1
  obtain ⟨ps, b1, b2, b3⟩ := pdL_plain ys h.2.1
  exact ⟨p, ps, a1, b1, a2, b2, by rw [a3, b3]; exact h.2.2⟩
theorem repOpt_isSome {K : PySem.W.Frag} {G : Hp} {o : Option V} {d : Option D} (h : RepOpt K G o d) : o.isSome = d.isSome := by
  cases o <;> cases d <;> first | rfl | exact h.elim
section
variable {X : Cx}
theorem opT_in (hu : X.A.units + 64 < cLine) : OpT X (compareOp .In) dIn := by
  intro pins s σ H x y v u Q I rx ry ⟨G, d, e, o, sb, rd, re, hq, k⟩
  obtain ⟨b, hb, e1⟩ := Option.map_eq_some_iff.mp hq
  cases e1
  unfold dMem at hb
  split at hb
  · split at hb
    · cases hb
      rename_i hz
      obtain ⟨p, ps, h1, h2, h3, h4, h5⟩ := inOk_at hz
      obtain ⟨as, r1⟩ := Dp.reads I p x v (Rep.dp _ x p (rd.all sb) h1) rx
      obtain ⟨bs, r2⟩ := Dp.reads I (.list ps) y u (Rep.dp _ y _ (re.all sb) (by simp [D.pd, h2])) ry
      refine SeqAt.in_list_data r2 r1 h4 h3 (by omega) ⟨.bl _, H, I, rfl, ?_⟩
      rw [any_pd h2 h1]
      exact k.val sb (.bl _)
    · cases hb
  · split at hb
    · cases hb
      rename_i hz
      obtain ⟨p, ps, h1, h2, h3, h4, h5⟩ := inOk_at hz
      obtain ⟨as, r1⟩ := Dp.reads I p x v (Rep.dp _ x p (rd.all sb) h1) rx
      obtain ⟨bs, r2⟩ := Dp.reads I (.tuple ps) y u (Rep.dp _ y _ (re.all sb) (by simp [D.pd, h2])) ry
      refine SeqAt.in_tuple_data r2 r1 h4 h3 (by omega) ⟨.bl _, H, I, rfl, ?_⟩
      rw [any_pd h2 h1]
      exact k.val sb (.bl _)
    · cases hb
  · split at hb
    · cases hb
      rename_i hz
      obtain ⟨a, ov, rfl, h1, h2⟩ := dget_at sb re rd hz
      cases ry
      refine d_in (by omega) I h1 rx fun s' I' => ⟨.bl _, H, I', rfl, ?_⟩
      rw [repOpt_isSome h2]
      exact k.val sb (.bl _)
    · cases hb
  · cases hb
    exact op_in_str pins s σ H x y v u Q I rx ry ⟨_, _, rd.str, re.str, k.val sb (.bl _)⟩
  · cases hb
theorem opT_notIn (hu : X.A.units + 64 < cLine) : OpT X (compareOp .NotIn) dNotIn := by
  intro pins s σ H x y v u Q I rx ry ⟨G, d, e, o, sb, rd, re, hq, k⟩
  obtain ⟨b, hb, e1⟩ := Option.map_eq_some_iff.mp hq
  cases e1
  unfold dMem at hb
  split at hb
  · split at hb
    · cases hb
      rename_i hz
      obtain ⟨p, ps, h1, h2, h3, h4, h5⟩ := inOk_at hz
      obtain ⟨as, r1⟩ := Dp.reads I p x v (Rep.dp _ x p (rd.all sb) h1) rx
      obtain ⟨bs, r2⟩ := Dp.reads I (.list ps) y u (Rep.dp _ y _ (re.all sb) (by simp [D.pd, h2])) ry
      refine SeqAt.notIn_list_data r2 r1 h4 h3 (by omega) ⟨.bl _, H, I, rfl, ?_⟩
      rw [any_pd h2 h1]
      exact k.val sb (.bl _)
    · cases hb
  · split at hb
    · cases hb
      rename_i hz
      obtain ⟨p, ps, h1, h2, h3, h4, h5⟩ := inOk_at hz
      obtain ⟨as, r1⟩ := Dp.reads I p x v (Rep.dp _ x p (rd.all sb) h1) rx
      obtain ⟨bs, r2⟩ := Dp.reads I (.tuple ps) y u (Rep.dp _ y _ (re.all sb) (by simp [D.pd, h2])) ry
      refine SeqAt.notIn_tuple_data r2 r1 h4 h3 (by omega) ⟨.bl _, H, I, rfl, ?_⟩
      rw [any_pd h2 h1]
      exact k.val sb (.bl _)
    · cases hb
  · split at hb
    · cases hb
      rename_i hz
      obtain ⟨a, ov, rfl, h1, h2⟩ := dget_at sb re rd hz
      cases ry
      refine d_notIn (by omega) I h1 rx fun s' I' => ⟨.bl _, H, I', rfl, ?_⟩
      rw [repOpt_isSome h2]
      exact k.val sb (.bl _)
    · cases hb
  · cases hb
    exact op_notin_str pins s σ H x y v u Q I rx ry ⟨_, _, rd.str, re.str, k.val sb (.bl _)⟩
  · cases hb
end

/-! ### items -/
def dIx : D → D → Option OV
  | .lst xs, .int i => (atI xs i).map .val
  | .tup xs, .int i => (atI xs i).map .val
  | .str z, .int i => if z.length ≤ sizeLine then (atI z.cps.toList i).map fun c => .val (.str ⟨#[c]⟩) else none
  | .dct t kvs, y => if isKey t y = true then (kvGet kvs y).map .val else none
  | _, _ => none
theorem RepL.atI {K : PySem.W.Frag} {G : Hp} {vs : List V} {ds : List D} (r : RepL K G vs ds) {i : Int} {d : D} (h : L2.atI ds i = some d) : ∃ v, L2.atI vs i = some v ∧ Rep K G v d := by
  unfold L2.atI at h ⊢
  rw [r.length]
  obtain ⟨j, h1, h2⟩ := Option.bind_eq_some_iff.mp h
  obtain ⟨v, h3, h4⟩ := r.get h2
  exact ⟨v, by rw [h1]; exact h3, h4⟩
section
variable {X : Cx}
theorem ixT (hu : X.A.units + 64 < cLine) : IxR X (rT X.K dIx) := by
  intro value slice pins s σ H x y v u Q I rx ry ⟨G, d, e, o, sb, rd, re, hq, k⟩ hs
  unfold dIx at hq
  split at hq
  · obtain ⟨z, h1, e1⟩ := Option.map_eq_some_iff.mp hq
    cases e1
    obtain ⟨a, vs, rfl, h2, h3⟩ := rd.lst sb
    obtain ⟨w, h4, h5⟩ := h3.atI h1
    exact ix_list value slice pins s σ H _ y v u Q I rx ry ⟨a, vs, _, w, rfl, re.int, .inl h2, h4, k.val sb h5⟩ hs
  · obtain ⟨z, h1, e1⟩ := Option.map_eq_some_iff.mp hq
    cases e1
    obtain ⟨a, vs, rfl, h2, h3⟩ := rd.tup sb
    obtain ⟨w, h4, h5⟩ := h3.atI h1
    exact ix_tup value slice pins s σ H _ y v u Q I rx ry ⟨a, vs, _, w, rfl, re.int, SqT.of h2, h4, k.val sb h5⟩ hs
  · split at hq
    · rename_i hz
      obtain ⟨z, h1, e1⟩ := Option.map_eq_some_iff.mp hq
      cases e1
      exact ix_str value slice pins s σ H _ y v u Q I rx ry ⟨_, _, _, rd.str, re.int, hz, h1, k.val sb (.str _)⟩ hs
    · cases hq
  · split at hq
    · rename_i hz
      obtain ⟨z, h1, e1⟩ := Option.map_eq_some_iff.mp hq
      cases e1
      obtain ⟨a, ov, rfl, g, h2⟩ := dget_at sb rd re hz
      rw [h1] at h2
      cases ov with
      | none => exact h2.elim
      | some w =>
        cases rx
        exact tail_any (dict_typeIs I g) PySem.F.slot_dict_getitem.lookup (d_getItem (by omega) I g ry fun w' s3 I3 rw' => ⟨w, H, I3, rw', k.val sb h2⟩) hs
    · cases hq
  · cases hq
theorem en_sub (hu : X.A.units + 64 < cLine) {a b : Expr} {fa fb : Fe} {pos : Pos} (ha : Ev X a fa) (hb : Ev X b fb) (hs : PlainIx b := by exact fun _ _ => rfl) : En X (.Subscript a b pos) (fOp2 dIx fa fb) := en_ix (ixT hu) ha hb hs
end

/-! ### slices -/
def fPart0 : Dl → Option (Option Int × Dl) := fun δ => some (none, δ)
def fPart (f : Fe) : Dl → Option (Option Int × Dl) := fun δ => (f δ).bind fun p => match p.1 with
  | .val (.int i) => some (some i, p.2)
  | _ => none
def cutD (xs : List D) (lo hi : Option Int) : List D := (xs.drop (HT.sIx xs.length 0 lo)).take (HT.sIx xs.length xs.length hi - HT.sIx xs.length 0 lo)
def dCut : D → Option Int → Option Int → Option OV
  | .lst xs, lo, hi => some (.new (.lst (cutD xs lo hi)))
  | .tup xs, lo, hi => some (.val (.tup (cutD xs lo hi)))
  | .str z, lo, hi => if z.length ≤ sizeLine then some (.val (.str (cutS z lo hi))) else none
  | .kl ns, lo, hi => some (.new (.lst (cutD (ns.map .int) lo hi)))
  | _, _, _ => none
def fCut (f : Fe) (fl fh : Dl → Option (Option Int × Dl)) : Fn := fun δ =>
  (f δ).bind fun p => (fl p.2).bind fun q => (fh q.2).bind fun r => (peek p.1 r.2).bind fun x => (dCut x q.1 r.1).map fun o => (o, r.2)
def rCutT (K : PySem.W.Frag) : V → Option Int → Option Int → Hp → VK → Prop := fun x lo hi H Q => ∃ G d o, Sub G H ∧ RepK K G H x d ∧ dCut d lo hi = some o ∧ Post K G H o Q
theorem RepL.cut {K : PySem.W.Frag} {G : Hp} {vs : List V} {ds : List D} (r : RepL K G vs ds) (lo hi : Option Int) : RepL K G (cutV vs lo hi) (cutD ds lo hi) := by
  unfold cutV cutD
  rw [r.length]
  exact (r.drop _).take _
theorem cutD_all (ds : List D) {lo hi : Option Int} (h : HT.sIx ds.length 0 lo = 0 ∧ HT.sIx ds.length ds.length hi = ds.length) : cutD ds lo hi = ds := by
  unfold cutD
  rw [h.1, h.2]
  simp
section
variable {X : Cx}
theorem slT : SlR X (rCutT X.K) := by
  intro pins s σ H x v vl vu lo hi sl Q I rx hs pl pu ⟨G, d, o, sb, rd, hq, k⟩
  unfold dCut at hq
  split at hq
  · cases hq
    obtain ⟨a, vs, rfl, h2, h3⟩ := rd.lst sb
    exact sl_list pins s σ H _ v vl vu _ _ sl Q I rx hs pl pu ⟨a, vs, rfl, .inl h2, fun p hp => k.lst sb (h3.cut _ _) hp⟩
  · cases hq
    obtain ⟨a, vs, rfl, h2, h3⟩ := rd.tup sb
    refine sl_tupA pins s σ H _ v vl vu _ _ sl Q I rx hs pl pu ⟨a, vs, rfl, SqT.of h2, fun hw => ?_, fun _ p hp => k.tup sb (h3.cut _ _) hp⟩
    rw [h3.length] at hw
    rw [cutD_all _ hw] at k
    rcases rd with rd | ⟨p, _, rd⟩
    · exact k.val sb rd
    · cases rd
  · split at hq
    · cases hq
      rename_i hz
      exact sl_str pins s σ H _ v vl vu _ _ sl Q I rx hs pl pu ⟨_, rd.str, hz, k.val sb (.str _)⟩
    · cases hq
  · cases hq
    obtain ⟨a, rfl, h2⟩ := rd.kl sb
    exact sl_list pins s σ H _ v vl vu _ _ sl Q I rx hs pl pu ⟨a, _, rfl, h2, fun p hp => k.lst sb ((RepL.of_ints _).cut _ _) hp⟩
  · cases hq
/-- a part of a slice -/
def tPartT (K : PySem.W.Frag) (f : Dl → Option (Option Int × Dl)) : TO := fun σ H Q => ∃ F G δ i δ', Sim K F G H σ δ ∧ f δ = some (i, δ') ∧ ∀ H' G', Sim K F G' H' σ δ' → Mv σ δ G H δ' G' H' → Q i H'
def Pt (X : Cx) (e : Option Expr) (f : Dl → Option (Option Int × Dl)) : Prop := PO X e (tPartT X.K f)
end
end L2.Tl

set_option Elab.async false
set_option linter.all false
set_option autoImplicit false
set_option maxRecDepth 100000
namespace L2.Tl
open PySem PySem.Spec PyProof.Rows
section
variable {X : Cx} {pos p2 : Pos}
/-! ### slices -/
theorem PO.imp {e : Option Expr} {t t' : TO} (h : PO X e t) (i : ∀ σ H Q, t' σ H Q → t σ H Q) : PO X e t' := ⟨fun pins s σ H Q I q => h.run pins s σ H Q I (i σ H Q q)⟩
theorem pt0 : Pt X none fPart0 := PO.imp po_none fun σ H Q ⟨F, G, δ, i, δ', S, e, k⟩ => by
  cases e
  exact k H G S .refl
theorem pt1 {e : Expr} {f : Fe} (h : Ev X e f) : Pt X (some e) (fPart f) := PO.imp (po_some h) fun σ H Q ⟨F, G, δ, i, δ', S, e, k⟩ => by
  obtain ⟨⟨r, δ1⟩, e1, e2⟩ := Option.bind_eq_some_iff.mp e
  dsimp only at e2
  split at e2
  · rename_i j
    cases e2
    exact ⟨F, G, δ, _, _, S, e1, fun v H' G' S' b r => ⟨j, Rep.int_inv (K := X.K) (G := G') r, k H' G' S' b⟩⟩
  · cases e2
theorem en_cut {e : Expr} {lo hi : Option Expr} {f : Fe} {fl fh : Dl → Option (Option Int × Dl)} (he : Ev X e f) (hl : Pt X lo fl) (hh : Pt X hi fh) : En X (.Subscript e (.Slice lo hi none p2) pos) (fCut f fl fh) :=
  PE.imp (pe_slice slT he hl hh) fun σ H Q ⟨F, G, δ, o, δ', S, e, k⟩ => by
    obtain ⟨⟨ra, δ1⟩, e1, e⟩ := Option.bind_eq_some_iff.mp e
    obtain ⟨⟨l, δ2⟩, e2, e⟩ := Option.bind_eq_some_iff.mp e
    obtain ⟨⟨h, δ3⟩, e3, e⟩ := Option.bind_eq_some_iff.mp e
    obtain ⟨x, e4, e⟩ := Option.bind_eq_some_iff.mp e
    obtain ⟨o', e5, e6⟩ := Option.map_eq_some_iff.mp e
    cases e6
    refine ⟨F, G, δ, ra, δ1, S, e1, fun v1 H1 G1 S1 b1 r1 => ⟨F, G1, δ1, l, δ2, S1, e2, fun H2 G2 S2 b2 => ⟨F, G2, δ2, h, δ3, S2, e3, fun H3 G3 S3 b3 => ?_⟩⟩⟩
    refine ⟨G3, x, o, S3.sub, S3.peek (r1.mono (b2.trans b3).le) e4, e5, fun v H' G' E r => ?_⟩
    exact k v H' G' (S3.ext E) (b1.trans (b2.trans (b3.trans E.mv))) ((r.toO S3 E).old fun a h => b1.dom a (b2.dom a (b3.dom a h)))

/-! ### a op b op' c -/
def fChain (g g' : D → D → Option OV) (fa fb fc : Fe) : Fn := fun δ =>
  (fa δ).bind fun p => (fb p.2).bind fun q => (peek p.1 q.2).bind fun x => (peek q.1 q.2).bind fun y => match g x y with
    | some (.val (.bl true)) => (fc q.2).bind fun r => (peek q.1 r.2).bind fun y' => (peek r.1 r.2).bind fun z => (g' y' z).map fun o => (o, r.2)
    | some (.val (.bl false)) => some (.val (.bl false), q.2)
    | _ => none
theorem en_chain {op op' : CmpOp} {g g' : D → D → Option OV} {a b c : Expr} {fa fb fc : Fe} (ho : OpT X (compareOp op) g) (ho' : OpT X (compareOp op') g') (ha : Ev X a fa) (hb : Ev X b fb) (hc : Ev X c fc)
    (hm : lastMarks [op, op'] [b, c] = false := by with_unfolding_all rfl) : En X (.Compare a [op, op'] [b, c] pos) (fChain g g' fa fb fc) :=
  PE.imp (pe_chain ho ho' ha hb hc hm) fun σ H Q ⟨F, G, δ, o, δ', S, e, k⟩ => by
    obtain ⟨⟨ra, δ1⟩, e1, e⟩ := Option.bind_eq_some_iff.mp e
    obtain ⟨⟨rb, δ2⟩, e2, e⟩ := Option.bind_eq_some_iff.mp e
    obtain ⟨x, e3, e⟩ := Option.bind_eq_some_iff.mp e
    obtain ⟨y, e4, e⟩ := Option.bind_eq_some_iff.mp e
    refine ⟨F, G, δ, ra, δ1, S, e1, fun v1 H1 G1 S1 b1 r1 => ⟨F, G1, δ1, rb, δ2, S1, e2, fun v2 H2 G2 S2 b2 r2 => ?_⟩⟩
    split at e
    · rename_i hg
      obtain ⟨⟨rc, δ3⟩, e5, e⟩ := Option.bind_eq_some_iff.mp e
      obtain ⟨y', e6, e⟩ := Option.bind_eq_some_iff.mp e
      obtain ⟨z, e7, e⟩ := Option.bind_eq_some_iff.mp e
      obtain ⟨o', e8, e9⟩ := Option.map_eq_some_iff.mp e
      cases e9
      refine ⟨G2, x, y, _, S2.sub, S2.peek (r1.mono b2.le) e3, S2.peek r2 e4, hg, fun v H' G' E r => ⟨true, Rep.bl_inv (K := X.K) (G := G') r, ?_⟩⟩
      rw [if_pos rfl]
      refine ⟨F, G', δ2, rc, δ3, S2.ext E, e5, fun v3 H3 G3 S3 b3 r3 => ?_⟩
      have r2' : RepR X.K G3 σ v2 rb := (r2.mono E.gg.le).mono b3.le
      refine ⟨G3, y', z, o, S3.sub, S3.peek r2' e6, S3.peek r3 e7, e8, fun v4 H4 G4 E4 r4 => ?_⟩
      exact k v4 H4 G4 (S3.ext E4) (b1.trans (b2.trans (E.mv.trans (b3.trans E4.mv)))) ((r4.toO S3 E4).old fun a h => b1.dom a (b2.dom a (E.mv (σ := σ) (δ := δ).dom a (b3.dom a h))))
    · rename_i hg
      cases e
      refine ⟨G2, x, y, _, S2.sub, S2.peek (r1.mono b2.le) e3, S2.peek r2 e4, hg, fun v H' G' E r => ⟨false, Rep.bl_inv (K := X.K) (G := G') r, ?_⟩⟩
      rw [if_neg Bool.false_ne_true]
      exact k _ H' G' (S2.ext E) (b1.trans (b2.trans E.mv)) (.bl false)
    · cases e

/-! ### and, or, not -/
def fAnd (fa fb : Fe) : Fe := fun δ => (fa δ).bind fun p => match p.1 with
  | .val (.bl true) => fb p.2
  | .val (.bl false) => some (.val (.bl false), p.2)
  | _ => none
def fOr (fa fb : Fe) : Fe := fun δ => (fa δ).bind fun p => match p.1 with
  | .val (.bl false) => fb p.2
  | .val (.bl true) => some (.val (.bl true), p.2)
  | _ => none
def fNot (fa : Fe) : Fe := fun δ => (fa δ).bind fun p => match p.1 with
  | .val (.bl b) => some (.val (.bl (!b)), p.2)
  | _ => none
theorem ev_one {op : BoolOp} {a : Expr} {f : Fe} (h : Ev X a f) : Ev X (.BoolOp op [a] pos) f := pe_one h
theorem ev_and {a b : Expr} {rest : List Expr} {fa fb : Fe} (ha : Ev X a fa) (hb : Ev X (.BoolOp .And (b :: rest) pos) fb) : Ev X (.BoolOp .And (a :: b :: rest) pos) (fAnd fa fb) :=
  PE.imp (pe_and ha hb) fun σ H Q ⟨F, G, δ, o, δ', S, e, k⟩ => by
    obtain ⟨⟨ra, δ1⟩, e1, e⟩ := Option.bind_eq_some_iff.mp e
    refine ⟨F, G, δ, ra, δ1, S, e1, fun v1 H1 G1 S1 b1 r1 => ?_⟩
    dsimp only at e
    split at e
    · refine ⟨true, Rep.bl_inv (K := X.K) (G := G1) r1, ?_⟩
      rw [if_pos rfl]
      exact ⟨F, G1, δ1, o, δ', S1, e, fun v2 H2 G2 S2 b2 r2 => k v2 H2 G2 S2 (b1.trans b2) r2⟩
    · cases e
      refine ⟨false, Rep.bl_inv (K := X.K) (G := G1) r1, ?_⟩
      rw [if_neg Bool.false_ne_true]
      exact k _ H1 G1 S1 b1 (.bl false)
    · cases e
theorem ev_or {a b : Expr} {rest : List Expr} {fa fb : Fe} (ha : Ev X a fa) (hb : Ev X (.BoolOp .Or (b :: rest) pos) fb) : Ev X (.BoolOp .Or (a :: b :: rest) pos) (fOr fa fb) :=
  PE.imp (pe_or ha hb) fun σ H Q ⟨F, G, δ, o, δ', S, e, k⟩ => by
    obtain ⟨⟨ra, δ1⟩, e1, e⟩ := Option.bind_eq_some_iff.mp e
    refine ⟨F, G, δ, ra, δ1, S, e1, fun v1 H1 G1 S1 b1 r1 => ?_⟩
    dsimp only at e
    split at e
    · refine ⟨false, Rep.bl_inv (K := X.K) (G := G1) r1, ?_⟩
      rw [if_neg Bool.false_ne_true]
      exact ⟨F, G1, δ1, o, δ', S1, e, fun v2 H2 G2 S2 b2 r2 => k v2 H2 G2 S2 (b1.trans b2) r2⟩
    · cases e
      refine ⟨true, Rep.bl_inv (K := X.K) (G := G1) r1, ?_⟩
      rw [if_pos rfl]
      exact k _ H1 G1 S1 b1 (.bl true)
    · cases e
theorem ev_not {a : Expr} {fa : Fe} (ha : Ev X a fa) : Ev X (.UnaryOp .Not a pos) (fNot fa) :=
  PE.imp (pe_not ha) fun σ H Q ⟨F, G, δ, o, δ', S, e, k⟩ => by
    obtain ⟨⟨ra, δ1⟩, e1, e⟩ := Option.bind_eq_some_iff.mp e
    refine ⟨F, G, δ, ra, δ1, S, e1, fun v1 H1 G1 S1 b1 r1 => ?_⟩
    dsimp only at e
    split at e
    · rename_i b
      cases e
      exact ⟨b, Rep.bl_inv (K := X.K) (G := G1) r1, k _ H1 G1 S1 b1 (.bl _)⟩
    · cases e
def fNeg (fa : Fe) : Fe := fun δ => (fa δ).bind fun p => match p.1 with
  | .val (.int i) => some (.val (.int (-i)), p.2)
  | _ => none
theorem ev_neg {a : Expr} {fa : Fe} (ha : Ev X a fa) : Ev X (.UnaryOp .USub a pos) (fNeg fa) :=
  PE.imp (pe_un un_neg ha) fun σ H Q ⟨F, G, δ, o, δ', S, e, k⟩ => by
    obtain ⟨⟨ra, δ1⟩, e1, e⟩ := Option.bind_eq_some_iff.mp e
    refine ⟨F, G, δ, ra, δ1, S, e1, fun v1 H1 G1 S1 b1 r1 => ?_⟩
    dsimp only at e
    split at e
    · rename_i b
      cases e
      exact ⟨b, Rep.int_inv (K := X.K) (G := G1) r1, k _ H1 G1 S1 b1 (.int _)⟩
    · cases e

/-! ### tests -/
def fT (f : Fe) : Ft := fun δ => (f δ).bind fun p => match p.1 with
  | .val (.bl b) => some (b, p.2)
  | _ => none
theorem tT_imp {K : PySem.W.Frag} {f : Fe} (σ : St) (H : Hp) (Q : Bool → Hp → Prop) (h : tTs K (fT f) σ H Q) : tB (tEv K f) σ H Q := by
  obtain ⟨F, G, δ, o, δ', S, e, k⟩ := h
  obtain ⟨⟨ra, δ1⟩, e1, e⟩ := Option.bind_eq_some_iff.mp e
  refine ⟨F, G, δ, ra, δ1, S, e1, fun v1 H1 G1 S1 b1 r1 => ?_⟩
  dsimp only at e
  split at e
  · rename_i b
    cases e
    exact ⟨_, Rep.bl_inv (K := K) (G := G1) r1, k H1 G1 S1 b1⟩
  · cases e
/-- a call, a name, a subscript as a test -/
theorem ts_val {e : Expr} {f : Fe} (h : Ev X e f) (he : ∀ whole, isTrue e X.env whole = (do let v ← whole; standAt e.pos; holding [v] (truthy v)) := by intro _; rfl) : Ts X e (fT f) := PT.imp (pt_val h he) tT_imp
theorem ts_cmp {op : CmpOp} {g : D → D → Option OV} {a b : Expr} {fa fb : Fe} (ho : OpT X (compareOp op) g) (ha : Ev X a fa) (hb : Ev X b fb) (hm : behindInMarks op b = false) : Ts X (.Compare a [op] [b] pos) (fT (fV (fOp2 g fa fb))) :=
  PT.imp (pt_cmpR ho ha hb hm) fun σ H Q ⟨F, G, δ, o, δ', S, e, k⟩ => by
    obtain ⟨⟨ra, δ1⟩, e1, e⟩ := Option.bind_eq_some_iff.mp e
    obtain ⟨⟨ro, δ2⟩, e2, e3⟩ := Option.map_eq_some_iff.mp e1
    cases e3
    refine op2_imp σ H _ ⟨F, G, δ, ro, δ2, S, e2, fun v H' G' S' b r => ?_⟩
    dsimp only at e
    split at e
    · rename_i kb hk
      cases e
      obtain ⟨G2, S2, b2, r2⟩ := S'.settle r (fun a h => S.fresh h) b
      rw [show ro.d = .bl _ from RV.val.inj hk] at r2
      exact ⟨_, r2.bl_inv, k H' G2 S2 b2⟩
    · cases e
def fTN (f : Ft) : Ft := fun δ => (f δ).map fun p => (!p.1, p.2)
def fTA (f g : Ft) : Ft := fun δ => (f δ).bind fun p => if p.1 = true then g p.2 else some (false, p.2)
def fTO (f g : Ft) : Ft := fun δ => (f δ).bind fun p => if p.1 = true then some (true, p.2) else g p.2
theorem ts_not {a : Expr} {f : Ft} (h : Ts X a f) : Ts X (.UnaryOp .Not a pos) (fTN f) := PT.imp (pt_not h) fun σ H Q ⟨F, G, δ, o, δ', S, e, k⟩ => by
  obtain ⟨⟨b, δ1⟩, e1, e2⟩ := Option.map_eq_some_iff.mp e
  cases e2
  exact ⟨F, G, δ, b, δ1, S, e1, fun H' G' S' l => k H' G' S' l⟩
/-- a test of and, or -/
def Tw (X : Cx) (e : Expr) (f : Ft) : Prop := PW X e (tTs X.K f)
theorem PW.imp {e : Expr} {t t' : TT} (h : PW X e t) (i : ∀ σ H Q, t' σ H Q → t σ H Q) : PW X e t' := ⟨fun wh pins s σ H Q I q => h.run wh pins s σ H Q I (i σ H Q q)⟩
theorem Tw.t {e : Expr} {f : Ft} (h : Tw X e f) : Ts X e f := L2.PW.pt h
theorem tw_and1 {a : Expr} {f : Ft} (h : Ts X a f) : Tw X (.BoolOp .And [a] pos) f := pw_and1 h
theorem tw_or1 {a : Expr} {f : Ft} (h : Ts X a f) : Tw X (.BoolOp .Or [a] pos) f := pw_or1 h
theorem tw_and {a b : Expr} {rest : List Expr} {f g : Ft} (ha : Ts X a f) (hb : Tw X (.BoolOp .And (b :: rest) pos) g) : Tw X (.BoolOp .And (a :: b :: rest) pos) (fTA f g) := PW.imp (pw_and ha hb) fun σ H Q ⟨F, G, δ, o, δ', S, e, k⟩ => by
  obtain ⟨⟨b, δ1⟩, e1, e2⟩ := Option.bind_eq_some_iff.mp e
  refine ⟨F, G, δ, b, δ1, S, e1, fun H' G' S' l => ?_⟩
  dsimp only at e2
  split at e2
  · rename_i hb
    rw [if_pos hb]
    exact ⟨F, G', δ1, o, δ', S', e2, fun H2 G2 S2 l2 => k H2 G2 S2 (l.trans l2)⟩
  · rename_i hb
    rw [if_neg hb]
    cases e2
    exact k H' G' S' l
theorem tw_or {a b : Expr} {rest : List Expr} {f g : Ft} (ha : Ts X a f) (hb : Tw X (.BoolOp .Or (b :: rest) pos) g) : Tw X (.BoolOp .Or (a :: b :: rest) pos) (fTO f g) := PW.imp (pw_or ha hb) fun σ H Q ⟨F, G, δ, o, δ', S, e, k⟩ => by
  obtain ⟨⟨b, δ1⟩, e1, e2⟩ := Option.bind_eq_some_iff.mp e
  refine ⟨F, G, δ, b, δ1, S, e1, fun H' G' S' l => ?_⟩
  dsimp only at e2
  split at e2
  · rename_i hb
    rw [if_pos hb]
    cases e2
    exact k H' G' S' l
  · rename_i hb
    rw [if_neg hb]
    exact ⟨F, G', δ1, o, δ', S', e2, fun H2 G2 S2 l2 => k H2 G2 S2 (l.trans l2)⟩

/-! ### a if c else b -/
def fIf (c : Ft) (a b : Fe) : Fe := fun δ => (c δ).bind fun p => if p.1 = true then a p.2 else b p.2
def fIfN (c : Ft) (a b : Fn) : Fn := fun δ => (c δ).bind fun p => if p.1 = true then a p.2 else b p.2
theorem ev_if {c a b : Expr} {fc : Ft} {fa fb : Fe} (hc : Ts X c fc) (ha : Ev X a fa) (hb : Ev X b fb) : Ev X (.IfExp c a b pos) (fIf fc fa fb) := PE.imp (pe_ifExp hc ha hb) fun σ H Q ⟨F, G, δ, o, δ', S, e, k⟩ => by
  obtain ⟨⟨b, δ1⟩, e1, e2⟩ := Option.bind_eq_some_iff.mp e
  refine ⟨F, G, δ, b, δ1, S, e1, fun H' G' S' l => ?_⟩
  dsimp only at e2
  split at e2
  · rename_i hb
    rw [if_pos hb]
    exact ⟨F, G', δ1, o, δ', S', e2, fun v H2 G2 S2 l2 r => k v H2 G2 S2 (l.trans l2) r⟩
  · rename_i hb
    rw [if_neg hb]
    exact ⟨F, G', δ1, o, δ', S', e2, fun v H2 G2 S2 l2 r => k v H2 G2 S2 (l.trans l2) r⟩
theorem en_if {c a b : Expr} {fc : Ft} {fa fb : Fn} (hc : Ts X c fc) (ha : En X a fa) (hb : En X b fb) : En X (.IfExp c a b pos) (fIfN fc fa fb) := PE.imp (pe_ifExp hc ha hb) fun σ H Q ⟨F, G, δ, o, δ', S, e, k⟩ => by
  obtain ⟨⟨b, δ1⟩, e1, e2⟩ := Option.bind_eq_some_iff.mp e
  refine ⟨F, G, δ, b, δ1, S, e1, fun H' G' S' l => ?_⟩
  dsimp only at e2
  split at e2
  · rename_i hb
    rw [if_pos hb]
    exact ⟨F, G', δ1, o, δ', S', e2, fun v H2 G2 S2 l2 r => k v H2 G2 S2 (l.trans l2) (r.old l.dom)⟩
  · rename_i hb
    rw [if_neg hb]
    exact ⟨F, G', δ1, o, δ', S', e2, fun v H2 G2 S2 l2 r => k v H2 G2 S2 (l.trans l2) (r.old l.dom)⟩

/-! ### arguments, displays -/
def fA0 : Fa := fun δ => some ([], δ)
def fA (f : Fe) (r : Fa) : Fa := fun δ => (f δ).bind fun p => (esc p.1 p.2).bind fun q => (r q.2).map fun s => (q.1 :: s.1, s.2)
theorem ar_nil : Ar X [] fA0 := PA.imp pa_nil fun σ H Q ⟨F, G, δ, o, δ', S, e, k⟩ => by
  cases e
  exact k [] H G S .refl .nil
theorem ar_cons {e : Expr} {es : List Expr} {f : Fe} {r : Fa} (h : Ev X e f) (hr : Ar X es r) (hs : starEach (e :: es) X.env = (false, eval e X.env) :: starEach es X.env := by rfl) : Ar X (e :: es) (fA f r) :=
  PA.imp (pa_cons h hr hs) fun σ H Q ⟨F, G, δ, o, δ', S, e, k⟩ => by
    obtain ⟨⟨ra, δ1⟩, e1, e⟩ := Option.bind_eq_some_iff.mp e
    obtain ⟨⟨d, δ2⟩, e2, e⟩ := Option.bind_eq_some_iff.mp e
    obtain ⟨⟨ds, δ3⟩, e3, e4⟩ := Option.map_eq_some_iff.mp e
    cases e4
    refine ⟨F, G, δ, ra, δ1, S, e1, fun v1 H1 G1 S1 b1 r1 => ?_⟩
    obtain ⟨G2, S2, b2, r2⟩ := S1.esc r1 e2
    refine ⟨F, G2, δ2, ds, δ3, S2, e3, fun vs H3 G3 S3 b3 r3 => ?_⟩
    exact k _ H3 G3 S3 (b1.trans (b2.trans b3)) (.cons (r2.mono b3.le) r3)
def fLst (f : Fa) : Fn := fun δ => (f δ).bind fun p => if p.1.length ≤ sizeLine then some (.new (.lst p.1), p.2) else none
def fTup (f : Fa) : Fn := fun δ => (f δ).bind fun p => if p.1.length ≤ sizeLine then some (.val (.tup p.1), p.2) else none
theorem en_lst {es : List Expr} {f : Fa} (h : Ar X es f) : En X (.List es pos) (fLst f) := PE.imp (pe_lst h) fun σ H Q ⟨F, G, δ, o, δ', S, e, k⟩ => by
  obtain ⟨⟨ds, δ1⟩, e1, e⟩ := Option.bind_eq_some_iff.mp e
  dsimp only at e
  split at e
  · rename_i hz
    cases e
    refine ⟨F, G, δ, ds, _, S, e1, fun vs H1 G1 S1 b1 r1 => ⟨by rw [r1.length]; exact hz, fun p hp => ?_⟩⟩
    have E : Ext G1 H1 G1 (upd H1 p (.lst vs)) := .own S1.sub hp
    exact k _ _ _ (S1.ext E) (b1.trans E.mv) ((RepP.toO (o := .new (.lst ds)) S1 E ⟨p, rfl, hp, none_of_sub S1.sub hp, .lst upd_same r1⟩).old b1.dom)
  · cases e
theorem en_tup {es : List Expr} {j : Nat} {f : Fa} (h : Ar X es f) : En X (.Tuple es j pos) (fTup f) := PE.imp (pe_tup h) fun σ H Q ⟨F, G, δ, o, δ', S, e, k⟩ => by
  obtain ⟨⟨ds, δ1⟩, e1, e⟩ := Option.bind_eq_some_iff.mp e
  dsimp only at e
  split at e
  · rename_i hz
    cases e
    refine ⟨F, G, δ, ds, _, S, e1, fun vs H1 G1 S1 b1 r1 => ⟨by rw [r1.length]; exact hz, fun p hp => ?_⟩⟩
    have E : Ext G1 H1 (upd G1 p (.tup vs)) (upd H1 p (.tup vs)) := .add S1.sub hp
    exact k _ _ _ (S1.ext E) (b1.trans E.mv) (Rep.tup upd_same (r1.mono E.gg.le))
  · cases e
def fDct0 (t : Bool) : Fn := fun δ => some (.new (.dct t []), δ)
theorem en_dctK : En X (.Dict [] [] pos) (fDct0 false) := PE.imp pe_dnewK fun σ H Q ⟨F, G, δ, o, δ', S, e, k⟩ p hp => by
  cases e
  have E : Ext G H G (upd H p (.dK [])) := .own S.sub hp
  exact k _ _ _ (S.ext E) E.mv (RepP.toO (o := .new (.dct false [])) S E ⟨p, rfl, hp, none_of_sub S.sub hp, .dK upd_same .nil⟩)
theorem en_dctT : En X (.Dict [] [] pos) (fDct0 true) := PE.imp pe_dnewT fun σ H Q ⟨F, G, δ, o, δ', S, e, k⟩ p hp => by
  cases e
  have E : Ext G H G (upd H p (.dT [])) := .own S.sub hp
  exact k _ _ _ (S.ext E) E.mv (RepP.toO (o := .new (.dct true [])) S E ⟨p, rfl, hp, none_of_sub S.sub hp, .dT upd_same .nil⟩)
end
end L2.Tl

set_option Elab.async false
set_option linter.all false
set_option autoImplicit false
set_option maxRecDepth 100000
namespace L2.Tl
open PySem PySem.Spec PyProof.Rows

/-! ### what a def computes -/
/-- arguments in: trees that nobody changes (fz), objects handed in to be changed (inp); a result and what these objects are then -/
abbrev Fm := List SV → Option (OV × List D)
/-- the arguments stand for trees; ps: the objects handed in to be changed -/
inductive ArgR (K : PySem.W.Frag) (G H : Hp) : List V → List SV → List Addr → Prop
  | nil : ArgR K G H [] [] []
  | fz {v : V} {vs : List V} {d : D} {as : List SV} {ps : List Addr} : Rep K G v d → ArgR K G H vs as ps → ArgR K G H (v :: vs) (.fz d :: as) ps
  | inp {p : Addr} {vs : List V} {d : D} {as : List SV} {ps : List Addr} : G p = none → Root K G H p d → ArgR K G H vs as ps → ArgR K G H (.ref p :: vs) (.inp d :: as) (p :: ps)
inductive OutR (K : PySem.W.Frag) (G H : Hp) : List Addr → List D → Prop
  | nil : OutR K G H [] []
  | cons {p : Addr} {ps : List Addr} {d : D} {ds : List D} : Root K G H p d → OutR K G H ps ds → OutR K G H (p :: ps) (d :: ds)
/-- what a call leaves: nothing but the objects handed in is changed -/
structure After (K : PySem.W.Frag) (G H : Hp) (ps : List Addr) (outs : List D) (G' H' : Hp) : Prop where
  le : Le G G'
  sub : Sub G' H'
  new : ∀ a o, G' a = some o → G a ≠ none ∨ H a = none
  fr : ∀ a o, H a = some o → a ∉ ps → H' a = some o ∨ (Mut (some o) ∧ G a = some o ∧ ∃ od, H' a = some (.frz od o))
  out : OutR K G' H' ps outs
/-- the promise: the def computes F -/
def spT (K : PySem.W.Frag) (F : Fm) : Sp := fun vs H Q _ => ∃ G args ps o outs, Sub G H ∧ ArgR K G H vs args ps ∧ ps.Nodup ∧ F args = some (o, outs) ∧
  ∀ v H' G', After K G H ps outs G' H' → RepP K H G' H' v o → Q v H'

/-- what the objects handed in are at the end -/
def outsOf : List SV → Dl → Option (List D)
  | [], _ => some []
  | .inp _ :: as, some (.inp d) :: ds => (outsOf as ds).map (d :: ·)
  | .inp _ :: _, _ => none
  | _ :: as, _ :: ds => outsOf as ds
  | _ :: _, [] => none
/-- how a statement ends -/
inductive Fl where
  | next | brk | cnt | ret (o : OV)
abbrev Fs := Dl → Option (Fl × Dl)
/-- a body, with n further names, as a def -/
def runF (f : Fs) (n : Nat) : Fm := fun args => (f (args.map some ++ List.replicate n none)).bind fun p => match p.1 with
  | .ret o => (outsOf args p.2).map fun os => (o, os)
  | .next => (outsOf args p.2).map fun os => (.val .non, os)
  | _ => none

/-! ### statements -/
def tSt (K : PySem.W.Frag) (f : Fs) : TS := fun D σ H => ∃ F G δ fl δ', Sim K F G H σ δ ∧ f δ = some (fl, δ') ∧ match fl with
  | .next => ∀ σ' H' G', Sim K F G' H' σ' δ' → Le G G' → D.nx σ' H'
  | .brk => ∀ σ' H' G', Sim K F G' H' σ' δ' → Le G G' → D.bk σ' H'
  | .cnt => ∀ σ' H' G', Sim K F G' H' σ' δ' → Le G G' → D.ct σ' H'
  | .ret o => ∀ v σ' H' G', Sim K F G' H' σ' δ' → Le G G' → RepO K F.H0 G' H' σ' δ' v o → D.rt v H'
def Sm (X : Cx) (st : Stmt) (f : Fs) : Prop := PS X st (tSt X.K f)
def Ss (X : Cx) (st : List Stmt) (f : Fs) : Prop := PSs X st (tSt X.K f)
theorem PS.imp {X : Cx} {st : Stmt} {t t' : TS} (h : PS X st t) (i : ∀ D σ H, t' D σ H → t D σ H) : PS X st t' := ⟨fun pins s σ H D I q => h.run pins s σ H D I (i D σ H q)⟩
theorem PSs.imp {X : Cx} {st : List Stmt} {t t' : TS} (h : PSs X st t) (i : ∀ D σ H, t' D σ H → t D σ H) : PSs X st t' := ⟨fun pins s σ H D I q => h.run pins s σ H D I (i D σ H q)⟩

/-! ### a def by its body -/
theorem ArgR.length {K : PySem.W.Frag} {G H : Hp} {vs : List V} {as : List SV} {ps : List Addr} (h : ArgR K G H vs as ps) : vs.length = as.length := by
  induction h with
  | nil => rfl
  | fz _ _ ih => simp [ih]
  | inp _ _ _ ih => simp [ih]
/-- the object handed in at a place -/
def ioOf (vs : List V) (as : List SV) : Nat → Option Addr := fun i => match as[i]?, vs[i]? with
  | some (.inp _), some (.ref p) => some p
  | _, _ => none
theorem ioOf_cons {v : V} {vs : List V} {a : SV} {as : List SV} (i : Nat) : ioOf (v :: vs) (a :: as) (i + 1) = ioOf vs as i := by
  simp [ioOf]
theorem ArgR.io {K : PySem.W.Frag} {G H : Hp} {vs : List V} {as : List SV} {ps : List Addr} (h : ArgR K G H vs as ps) : ∀ a, a ∈ ps ↔ ∃ i, ioOf vs as i = some a := by
  induction h with
  | nil =>
    intro a
    simp [ioOf]
  | fz r _ ih =>
    intro a
    rw [ih a]
    constructor
    · rintro ⟨i, h⟩
      exact ⟨i + 1, by rw [ioOf_cons]; exact h⟩
    · rintro ⟨i, h⟩
      cases i with
      | zero => simp [ioOf] at h
      | succ i => exact ⟨i, by rw [ioOf_cons] at h; exact h⟩
  | inp hg r _ ih =>
    intro a
    rw [List.mem_cons, ih a]
    constructor
    · rintro (h | ⟨i, h⟩)
      · exact ⟨0, by simp [ioOf, h]⟩
      · exact ⟨i + 1, by rw [ioOf_cons]; exact h⟩
    · rintro ⟨i, h⟩
      cases i with
      | zero => left; simpa [ioOf, eq_comm] using h
      | succ i => right; exact ⟨i, by rw [ioOf_cons] at h; exact h⟩
def AtP (K : PySem.W.Frag) (G H : Hp) (vs : List V) (as : List SV) (i : Nat) : SV → Prop
  | .fz d => ∃ v, vs[i]? = some v ∧ Rep K G v d
  | .own _ => False
  | .inp d => ∃ p, vs[i]? = some (V.ref p) ∧ G p = none ∧ Root K G H p d ∧ ioOf vs as i = some p
theorem ArgR.at {K : PySem.W.Frag} {G H : Hp} {vs : List V} {as : List SV} {ps : List Addr} (h : ArgR K G H vs as ps) : ∀ (i : Nat) (a : SV), as[i]? = some a → AtP K G H vs as i a := by
  induction h with
  | nil => intro i a h; simp at h
  | fz r _ ih =>
    intro i a h
    cases i with
    | zero => simp at h; subst h; exact ⟨_, rfl, r⟩
    | succ i =>
      have := ih i a (by simpa using h)
      cases a with
      | fz d => obtain ⟨v, a, b⟩ := this; exact ⟨v, by simpa using a, b⟩
      | own d => exact this
      | inp d => obtain ⟨p, a, b, c, e⟩ := this; exact ⟨p, by simpa using a, b, c, by rw [ioOf_cons]; exact e⟩
  | inp hg r _ ih =>
    intro i a h
    cases i with
    | zero => simp at h; subst h; exact ⟨_, rfl, hg, r, by simp [ioOf]⟩
    | succ i =>
      have := ih i a (by simpa using h)
      cases a with
      | fz d => obtain ⟨v, a, b⟩ := this; exact ⟨v, by simpa using a, b⟩
      | own d => exact this
      | inp d => obtain ⟨p, a, b, c, e⟩ := this; exact ⟨p, by simpa using a, b, c, by rw [ioOf_cons]; exact e⟩
theorem ArgR.inj {K : PySem.W.Frag} {G H : Hp} {vs : List V} {as : List SV} {ps : List Addr} (h : ArgR K G H vs as ps) : ps.Nodup → ∀ i j a, ioOf vs as i = some a → ioOf vs as j = some a → i = j := by
  induction h with
  | nil => intro _ i j a h; simp [ioOf] at h
  | fz r t ih =>
    intro nd i j a h1 h2
    cases i with
    | zero => simp [ioOf] at h1
    | succ i =>
      cases j with
      | zero => simp [ioOf] at h2
      | succ j => rw [ioOf_cons] at h1 h2; rw [ih nd i j a h1 h2]
  | inp hg r t ih =>
    intro nd i j a h1 h2
    rw [List.nodup_cons] at nd
    cases i with
    | zero =>
      cases j with
      | zero => rfl
      | succ j =>
        rw [ioOf_cons] at h2
        have e := Option.some.inj (show some _ = some a from h1)
        subst e
        exact absurd ((t.io _).mpr ⟨j, h2⟩) nd.1
    | succ i =>
      cases j with
      | zero =>
        rw [ioOf_cons] at h1
        have e := Option.some.inj (show some _ = some a from h2)
        subst e
        exact absurd ((t.io _).mpr ⟨i, h1⟩) nd.1
      | succ j => rw [ioOf_cons] at h1 h2; rw [ih nd.2 i j a h1 h2]
/-- the state at a def's entry -/
theorem sim_start {K : PySem.W.Frag} {G H : Hp} {vs : List V} {as : List SV} {ps : List Addr} {n : Nat} (sb : Sub G H) (h : ArgR K G H vs as ps) (nd : ps.Nodup) :
    Sim K ⟨H, G, ioOf vs as⟩ G H (vs.map some ++ List.replicate n none) (as.map some ++ List.replicate n none) := by
  have key : ∀ i x, (as.map some ++ List.replicate n none)[i]? = some (some x) → as[i]? = some x ∧ (vs.map some ++ List.replicate n none)[i]? = vs[i]?.map some := fun i x hx => by
    by_cases hi : i < as.length
    · rw [List.getElem?_append_left (by simpa using hi)] at hx
      rw [List.getElem?_map] at hx
      obtain ⟨z, e1, e2⟩ := Option.map_eq_some_iff.mp hx
      cases e2
      refine ⟨e1, ?_⟩
      rw [List.getElem?_append_left (by simpa [h.length] using hi), List.getElem?_map]
    · rw [List.getElem?_append_right (by simpa using hi)] at hx
      rw [List.getElem?_replicate] at hx
      split at hx <;> cases hx
  refine ⟨by simp [h.length], fun i d hd => ?_, fun i d hd => ?_, fun i d hd => ?_, fun i j x y d e p h1 r1 h2 r2 h3 h4 => ?_, sb, fun a o ha => .inl (by show G a ≠ none; rw [ha]; exact fun z => nomatch z), fun a o ha _ => .inl ha, fun i a ha => ?_, sb⟩
  · obtain ⟨a, b⟩ := key i _ hd
    obtain ⟨v, e1, e2⟩ := h.at i _ a
    exact ⟨v, by rw [b, e1]; rfl, e2⟩
  · obtain ⟨a, b⟩ := key i _ hd
    exact (h.at i _ a).elim
  · obtain ⟨a, b⟩ := key i _ hd
    obtain ⟨p, e1, e2, e3, e4⟩ := h.at i _ a
    exact ⟨p, by rw [b, e1]; rfl, e2, e3, e4⟩
  · obtain ⟨a1, b1⟩ := key i _ h1
    obtain ⟨a2, b2⟩ := key j _ h2
    cases x with
    | fz _ => cases r1
    | own _ => exact (h.at i _ a1).elim
    | inp _ =>
      cases y with
      | fz _ => cases r2
      | own _ => exact (h.at j _ a2).elim
      | inp _ =>
        obtain ⟨p1, c1, _, _, c4⟩ := h.at i _ a1
        obtain ⟨p2, e1, _, _, e4⟩ := h.at j _ a2
        rw [b1, c1] at h3
        rw [b2, e1] at h4
        cases h3
        cases h4
        exact h.inj nd i j _ c4 e4
  · have hm : a ∈ ps := (h.io a).mpr ⟨i, ha⟩
    have : ∀ {vs : List V} {as : List SV} {ps : List Addr}, ArgR K G H vs as ps → a ∈ ps → G a = none ∧ ∃ o, H a = some o := fun {vs as ps} h => by
      induction h with
      | nil => intro z; simp at z
      | fz _ _ ih => exact ih
      | inp hg r _ ih =>
        intro z
        rcases List.mem_cons.mp z with z | z
        · subst z; exact ⟨hg, r.there⟩
        · exact ih z
    obtain ⟨g, o, ho⟩ := this h hm
    exact ⟨⟨o, ho⟩, g, by show H a ≠ none; rw [ho]; exact fun z => nomatch z⟩
/-- .. and at its end -/
theorem outs_at {K : PySem.W.Frag} {G H G' H' : Hp} {vs : List V} {as : List SV} {ps : List Addr} (h : ArgR K G H vs as ps) : ∀ {σ : St} {δ : Dl} {os : List D}, outsOf as δ = some os →
    (∀ i d, as[i]? = some (SV.inp d) → ∀ e, δ[i]? = some (some (SV.inp e)) → ∃ p, ioOf vs as i = some p ∧ Root K G' H' p e) → OutR K G' H' ps os := by
  induction h with
  | nil => intro σ δ os e _; cases e; exact .nil
  | fz r t ih =>
    intro σ δ os e k
    cases δ with
    | nil => cases e
    | cons x δ =>
      refine ih (σ := σ) (δ := δ) (by cases x <;> exact e) fun i d hi e' he => ?_
      obtain ⟨p, a, b⟩ := k (i + 1) d (by simpa using hi) e' (by simpa using he)
      exact ⟨p, by rw [ioOf_cons] at a; exact a, b⟩
  | inp hg r t ih =>
    intro σ δ os e k
    cases δ with
    | nil => cases e
    | cons x δ =>
      cases x with
      | none => cases e
      | some y =>
        cases y with
        | fz _ => cases e
        | own _ => cases e
        | inp d' =>
          obtain ⟨os', e1, e2⟩ := Option.map_eq_some_iff.mp e
          cases e2
          obtain ⟨p, a, b⟩ := k 0 _ rfl d' rfl
          have e3 := Option.some.inj (show some _ = some p from a)
          subst e3
          refine .cons b (ih (σ := σ) (δ := δ) e1 fun i d hi e' he => ?_)
          obtain ⟨p, a, b⟩ := k (i + 1) d (by simpa using hi) e' (by simpa using he)
          exact ⟨p, by rw [ioOf_cons] at a; exact a, b⟩
theorem after_of {K : PySem.W.Frag} {G H G' H' : Hp} {vs : List V} {as : List SV} {ps : List Addr} {σ : St} {δ : Dl} {os : List D} (h : ArgR K G H vs as ps) (S : Sim K ⟨H, G, ioOf vs as⟩ G' H' σ δ) (l : Le G G') (ho : outsOf as δ = some os) :
    After K G H ps os G' H' := by
  refine ⟨l, S.sub, S.new, fun a o ha hn => S.fr a o ha fun i hi => hn ((h.io a).mpr ⟨i, hi⟩), outs_at h (σ := σ) ho fun i d hi e he => ?_⟩
  obtain ⟨p, _, _, c, e'⟩ := S.inp i e he
  exact ⟨p, e', c⟩
section
variable {P : Program} {w : World} {K : PySem.W.Frag} {mg : Str → Option Value} {base : Heap}
/-- THE RULE for a def: its body computes f -/
theorem def_ok {x qual : Str} {st : Stmt} {a : Addr} {fd : FuncData} {N ps : List Str} {k n : Nat} {f : Fs} (F : Fun K x qual st a fd) (S : FnScope N ps (defScope st)) (hn : N.length = ps.length + n)
    (hargs : ∀ args r, runF f n args = some r → args.length = ps.length)
    (hbody : ∀ (cdv : Value) (A : Around) (outer : List Env) (s : Shared) (H : Hp) (E : XK), Room k (A.deeper (envOfC qual (defScope st) s.heap.objs.size a cdv)) →
      Ss (cxOf CX0 P w K mg base N qual (defScope st) a cdv A outer s H E).nox (defBody st) f) : FnOk P w K mg base CX0 (k + 1) a fd ps (spT K (runF f n)) := by
  refine F.ok S (fun vs H Q E h => ?_) (fun cdv A outer s H vs Q E hr h => ?_)
  · obtain ⟨G, args, qs, o, outs, _, hA, _, e, _⟩ := h
    rw [hA.length]
    exact hargs args _ e
  · obtain ⟨G, args, qs, o, outs, sb, hA, nd, e, kq⟩ := h
    refine ⟨_, hbody cdv A outer s H E hr, ?_⟩
    have hst : start N vs = vs.map some ++ List.replicate n none := by
      unfold start
      rw [hA.length, hargs args _ e, hn, Nat.add_sub_cancel_left]
    rw [hst]
    obtain ⟨⟨fl, δ'⟩, e1, e2⟩ := Option.bind_eq_some_iff.mp e
    refine ⟨⟨H, G, ioOf vs args⟩, G, _, fl, δ', sim_start sb hA nd, e1, ?_⟩
    cases fl with
    | next =>
      obtain ⟨os, e3, e4⟩ := Option.map_eq_some_iff.mp e2
      cases e4
      exact fun σ' H' G' S' l => kq .non H' G' (after_of hA S' l e3) .non
    | brk => cases e2
    | cnt => cases e2
    | ret o' =>
      obtain ⟨os, e3, e4⟩ := Option.map_eq_some_iff.mp e2
      cases e4
      intro v σ' H' G' S' l r
      refine kq v H' G' (after_of hA S' l e3) ?_
      cases o with
      | val d => exact r
      | new d =>
        obtain ⟨p, rfl, a1, a2, a3, _⟩ := r
        exact ⟨p, rfl, a3, a1, a2⟩
end
end L2.Tl

set_option Elab.async false
set_option linter.all false
set_option autoImplicit false
set_option maxRecDepth 100000
namespace L2.Tl
open PySem PySem.Spec PyProof.Rows

/-! ### arguments of a call: let go, or handed in to be changed -/
abbrev Fr2 := Dl → Option (List RV × Dl)
inductive RepRs (K : PySem.W.Frag) (G : Hp) (σ : St) : List V → List RV → Prop
  | nil : RepRs K G σ [] []
  | cons {v : V} {vs : List V} {r : RV} {rs : List RV} : RepR K G σ v r → RepRs K G σ vs rs → RepRs K G σ (v :: vs) (r :: rs)
theorem RepRs.mono {K : PySem.W.Frag} {G G' : Hp} {σ : St} (l : Le G G') : ∀ {vs : List V} {rs : List RV}, RepRs K G σ vs rs → RepRs K G' σ vs rs
  | _, _, .nil => .nil
  | _, _, .cons h r => .cons (h.mono l) (r.mono l)
def tAm (K : PySem.W.Frag) (f : Fr2) : TA := fun σ H Q => ∃ F G δ rs δ', Sim K F G H σ δ ∧ f δ = some (rs, δ') ∧ ∀ vs H' G', Sim K F G' H' σ δ' → Mv σ δ G H δ' G' H' → RepRs K G' σ vs rs → Q vs H'
def Am (X : Cx) (es : List Expr) (f : Fr2) : Prop := PA X es (tAm X.K f)
def fM0 : Fr2 := fun δ => some ([], δ)
/-- an argument that is let go -/
def fMv (f : Fe) (r : Fr2) : Fr2 := fun δ => (f δ).bind fun p => (esc p.1 p.2).bind fun q => (r q.2).map fun s => (.val q.1 :: s.1, s.2)
/-- an argument as it stands -/
def fMi (f : Fe) (r : Fr2) : Fr2 := fun δ => (f δ).bind fun p => (r p.2).map fun s => (p.1 :: s.1, s.2)
section
variable {X : Cx} {pos p apos : Pos}
theorem am_nil : Am X [] fM0 := PA.imp pa_nil fun σ H Q ⟨F, G, δ, o, δ', S, e, k⟩ => by
  cases e
  exact k [] H G S .refl .nil
theorem am_v {e : Expr} {es : List Expr} {f : Fe} {r : Fr2} (h : Ev X e f) (hr : Am X es r) (hs : starEach (e :: es) X.env = (false, eval e X.env) :: starEach es X.env := by rfl) : Am X (e :: es) (fMv f r) :=
  PA.imp (pa_cons h hr hs) fun σ H Q ⟨F, G, δ, o, δ', S, e, k⟩ => by
    obtain ⟨⟨ra, δ1⟩, e1, e⟩ := Option.bind_eq_some_iff.mp e
    obtain ⟨⟨d, δ2⟩, e2, e⟩ := Option.bind_eq_some_iff.mp e
    obtain ⟨⟨ds, δ3⟩, e3, e4⟩ := Option.map_eq_some_iff.mp e
    cases e4
    refine ⟨F, G, δ, ra, δ1, S, e1, fun v1 H1 G1 S1 b1 r1 => ?_⟩
    obtain ⟨G2, S2, b2, r2⟩ := S1.esc r1 e2
    refine ⟨F, G2, δ2, ds, δ3, S2, e3, fun vs H3 G3 S3 b3 r3 => ?_⟩
    exact k _ H3 G3 S3 (b1.trans (b2.trans b3)) (.cons (show Rep X.K G3 v1 d from r2.mono b3.le) r3)
theorem am_i {e : Expr} {es : List Expr} {f : Fe} {r : Fr2} (h : Ev X e f) (hr : Am X es r) (hs : starEach (e :: es) X.env = (false, eval e X.env) :: starEach es X.env := by rfl) : Am X (e :: es) (fMi f r) :=
  PA.imp (pa_cons h hr hs) fun σ H Q ⟨F, G, δ, o, δ', S, e, k⟩ => by
    obtain ⟨⟨ra, δ1⟩, e1, e⟩ := Option.bind_eq_some_iff.mp e
    obtain ⟨⟨ds, δ3⟩, e3, e4⟩ := Option.map_eq_some_iff.mp e
    cases e4
    refine ⟨F, G, δ, ra, δ1, S, e1, fun v1 H1 G1 S1 b1 r1 => ⟨F, G1, δ1, ds, δ3, S1, e3, fun vs H3 G3 S3 b3 r3 => ?_⟩⟩
    exact k _ H3 G3 S3 (b1.trans b3) (.cons (r1.mono b3.le) r3)
end

/-- operands as a def's arguments -/
def toArgs : List RV → Dl → Option (List SV)
  | [], _ => some []
  | .val d :: rs, δ => (toArgs rs δ).map (.fz d :: ·)
  | .slot i :: rs, δ => match δ[i]? with
    | some (some (.own d)) => (toArgs rs δ).map (.inp d :: ·)
    | some (some (.inp d)) => (toArgs rs δ).map (.inp d :: ·)
    | _ => none
def slotsOf : List RV → List Nat
  | [] => []
  | .val _ :: rs => slotsOf rs
  | .slot i :: rs => i :: slotsOf rs
/-- what the objects handed in are now -/
def putBack : List Nat → List D → Dl → Option Dl
  | [], [], δ => some δ
  | i :: is, d :: ds, δ => match δ[i]? with
    | some (some (.own _)) => putBack is ds (δ.set i (some (.own d)))
    | some (some (.inp _)) => putBack is ds (δ.set i (some (.inp d)))
    | _ => none
  | _, _, _ => none
section
variable {K : PySem.W.Frag} {F : Fr} {G H G' H' : Hp} {σ : St} {δ : Dl}
theorem Sim.args (S : Sim K F G H σ δ) : ∀ {vs : List V} {rs : List RV} {as : List SV}, RepRs K G σ vs rs → toArgs rs δ = some as → (slotsOf rs).Nodup →
    ∃ ps, ArgR K G H vs as ps ∧ ps.Nodup ∧ ps.length = (slotsOf rs).length ∧ (∀ (j : Nat) (p : Addr), ps[j]? = some p → ∃ (i : Nat) (x : SV) (d : D), (slotsOf rs)[j]? = some i ∧ σ[i]? = some (some (V.ref p)) ∧ δ[i]? = some (some x) ∧ SV.root x = some d)
  | _, _, _, .nil, e, _ => by
    cases e
    exact ⟨[], .nil, .nil, rfl, fun j p h => by simp at h⟩
  | _, .val d :: rs, _, .cons h r, e, nd => by
    obtain ⟨as, e1, e2⟩ := Option.map_eq_some_iff.mp e
    cases e2
    obtain ⟨ps, a, b, c, f⟩ := Sim.args S r e1 nd
    exact ⟨ps, .fz h a, b, c, f⟩
  | v0 :: vs0, .slot i :: rs, _, .cons h r, e, nd => by
    rw [slotsOf, List.nodup_cons] at nd
    have main : ∀ {x : SV} {d : D} {as' : List SV}, δ[i]? = some (some x) → x.root = some d → toArgs rs δ = some as' → ∃ ps, ArgR K G H (v0 :: vs0) (.inp d :: as') ps ∧ ps.Nodup ∧ ps.length = (slotsOf (.slot i :: rs)).length ∧
        (∀ (j : Nat) (p : Addr), ps[j]? = some p → ∃ (i' : Nat) (x : SV) (d : D), (slotsOf (.slot i :: rs))[j]? = some i' ∧ σ[i']? = some (some (V.ref p)) ∧ δ[i']? = some (some x) ∧ SV.root x = some d) := fun {x d as'} hx hr e1 => by
      obtain ⟨p, a1, a2, a3⟩ := S.root hx hr
      have h' : σ[i]? = some (some v0) := h
      rw [a1] at h'
      cases h'
      obtain ⟨ps, a, b, c, f⟩ := Sim.args S r e1 nd.2
      refine ⟨p :: ps, .inp a2 a3 a, List.nodup_cons.mpr ⟨fun hm => ?_, b⟩, by simp [slotsOf, c], fun j q hq => ?_⟩
      · obtain ⟨j, hj⟩ := List.mem_iff_getElem?.mp hm
        obtain ⟨i', x', d', g1, g2, g3, g4⟩ := f j p hj
        have := S.inj i i' x x' d d' p hx hr g3 g4 a1 g2
        subst this
        exact nd.1 (List.mem_of_getElem? g1)
      · cases j with
        | zero => simp at hq; subst hq; exact ⟨i, x, d, rfl, a1, hx, hr⟩
        | succ j =>
          obtain ⟨i', x', d', g1, g2⟩ := f j q (by simpa using hq)
          exact ⟨i', x', d', by simpa [slotsOf] using g1, g2⟩
    simp only [toArgs] at e
    split at e
    · rename_i d hx
      obtain ⟨as, e1, e2⟩ := Option.map_eq_some_iff.mp e
      cases e2
      exact main hx rfl e1
    · rename_i d hx
      obtain ⟨as, e1, e2⟩ := Option.map_eq_some_iff.mp e
      cases e2
      exact main hx rfl e1
    · cases e
end
/-- the same object, other content -/
def SV.re : SV → D → SV
  | .fz d, _ => .fz d
  | .own _, e => .own e
  | .inp _, e => .inp e
theorem SV.re_root {x : SV} {d e : D} (h : x.root = some d) : (x.re e).root = some e := by
  cases x with
  | fz _ => cases h
  | own _ => rfl
  | inp _ => rfl
theorem SV.re_some {x : SV} {d e f : D} (h : x.root = some d) (h' : (x.re e).root = some f) : f = e := by
  rw [SV.re_root h] at h'; cases h'; rfl
theorem putBack_at : ∀ {is : List Nat} {outs : List D} {δ δ' : Dl}, putBack is outs δ = some δ' → is.Nodup →
    (∀ j, j ∉ is → δ'[j]? = δ[j]?) ∧ (∀ (m i : Nat), is[m]? = some i → ∃ (d e : D) (x : SV), outs[m]? = some d ∧ δ[i]? = some (some x) ∧ x.root = some e ∧ δ'[i]? = some (some (x.re d))) ∧ δ'.length = δ.length
  | [], [], δ, _, h, _ => by
    cases h
    exact ⟨fun _ _ => rfl, fun m i h => by simp at h, rfl⟩
  | [], _ :: _, _, _, h, _ => nomatch h
  | _ :: _, [], _, _, h, _ => nomatch h
  | i :: is, d :: ds, δ, δ', h, nd => by
    rw [List.nodup_cons] at nd
    have main : ∀ {x : SV} {e : D}, δ[i]? = some (some x) → x.root = some e → putBack is ds (δ.set i (some (x.re d))) = some δ' →
        (∀ j, j ∉ i :: is → δ'[j]? = δ[j]?) ∧ (∀ (m i' : Nat), (i :: is)[m]? = some i' → ∃ (d' e : D) (x : SV), (d :: ds)[m]? = some d' ∧ δ[i']? = some (some x) ∧ x.root = some e ∧ δ'[i']? = some (some (x.re d'))) ∧ δ'.length = δ.length := fun {x e} hx hr h => by
      obtain ⟨a, b, c⟩ := putBack_at h nd.2
      have hl : i < δ.length := (List.getElem?_eq_some_iff.mp hx).1
      refine ⟨fun j hj => ?_, fun m i' hm => ?_, by simpa using c⟩
      · rw [List.mem_cons, not_or] at hj
        rw [a j hj.2, List.getElem?_set_ne (Ne.symm hj.1)]
      · cases m with
        | zero =>
          simp at hm
          subst hm
          refine ⟨d, e, x, rfl, hx, hr, ?_⟩
          rw [a i nd.1, List.getElem?_set_self hl]
        | succ m =>
          have hm' : is[m]? = some i' := by simpa using hm
          obtain ⟨d', e', x', g1, g2, g3, g4⟩ := b m i' hm'
          have ne : i ≠ i' := fun z => nd.1 (z ▸ List.mem_of_getElem? hm')
          rw [List.getElem?_set_ne ne] at g2
          exact ⟨d', e', x', by simpa using g1, g2, g3, g4⟩
    simp only [putBack] at h
    split at h
    · rename_i hx
      exact main hx rfl h
    · rename_i hx
      exact main hx rfl h
    · cases h
theorem putBack_root {is : List Nat} {outs : List D} {δ δ' : Dl} (hb : putBack is outs δ = some δ') (nd : is.Nodup) {i : Nat} {x : SV} {e : D} (hx : δ'[i]? = some (some x)) (r : x.root = some e) : ∃ x' e', δ[i]? = some (some x') ∧ SV.root x' = some e' := by
  obtain ⟨b1, b2, _⟩ := putBack_at hb nd
  by_cases hi : i ∈ is
  · obtain ⟨m, hm⟩ := List.mem_iff_getElem?.mp hi
    obtain ⟨d, e, x', _, a2, a3, _⟩ := b2 m i hm
    exact ⟨x', e, a2, a3⟩
  · rw [b1 i hi] at hx
    exact ⟨x, e, hx, r⟩
theorem OutR.get {K : PySem.W.Frag} {G H : Hp} : ∀ {ps : List Addr} {ds : List D} {m : Nat} {p : Addr} {d : D}, OutR K G H ps ds → ps[m]? = some p → ds[m]? = some d → Root K G H p d
  | _, _, 0, _, _, .cons r _, h1, h2 => by simp at h1 h2; subst h1; subst h2; exact r
  | _, _, m + 1, _, _, .cons _ r, h1, h2 => OutR.get (m := m) r (by simpa using h1) (by simpa using h2)
  | _, _, _, _, _, .nil, h1, _ => by simp at h1
section
variable {K : PySem.W.Frag} {F : Fr} {G H G' H' : Hp} {σ : St} {δ : Dl}
theorem Sim.after_call (S : Sim K F G H σ δ) {ps : List Addr} {outs : List D} {is : List Nat} (A : After K G H ps outs G' H') (hl : ps.length = is.length)
    (hps : ∀ (j : Nat) (p : Addr), ps[j]? = some p → ∃ (i : Nat) (x : SV) (d : D), is[j]? = some i ∧ σ[i]? = some (some (V.ref p)) ∧ δ[i]? = some (some x) ∧ SV.root x = some d) (nd : is.Nodup)
    {δ' : Dl} (h : putBack is outs δ = some δ') : Sim K F G' H' σ δ' := by
  obtain ⟨b1, b2, b3⟩ := putBack_at h nd
  have none' : ∀ {p : Addr} {o : HO}, G p = none → H p = some o → G' p = none := fun {p o} hg ho => by
    cases q : G' p with
    | none => rfl
    | some u =>
      rcases A.new p u q with z | z
      · exact absurd hg z
      · rw [ho] at z; cases z
  -- a root that was not handed in stands as it stood
  have keep : ∀ {p : Addr} {d : D}, G p = none → Root K G H p d → p ∉ ps → G' p = none ∧ Root K G' H' p d := fun {p d} hg r hn => by
    obtain ⟨o, ho⟩ := r.there
    refine ⟨none' hg ho, ?_⟩
    rcases A.fr p o ho hn with z | ⟨_, z, _⟩
    · exact r.mono A.le (z.trans ho.symm)
    · rw [hg] at z; cases z
  have out : ∀ {j : Nat} {x : SV} {d : D} {p : Addr}, j ∉ is → δ[j]? = some (some x) → x.root = some d → σ[j]? = some (some (V.ref p)) → p ∉ ps := fun {j x d p} hj hx hr hp hm => by
    obtain ⟨m, hm⟩ := List.mem_iff_getElem?.mp hm
    obtain ⟨i, y, e, a1, a2, a3, a4⟩ := hps m p hm
    have := S.inj i j y x e d p a3 a4 hx hr a2 hp
    subst this
    exact hj (List.mem_of_getElem? a1)
  -- a slot that was handed in
  have ins : ∀ {j : Nat} {y : SV}, j ∈ is → δ'[j]? = some (some y) → ∃ x d e p, δ[j]? = some (some x) ∧ x.root = some e ∧ y = x.re d ∧ σ[j]? = some (some (V.ref p)) ∧ G' p = none ∧ Root K G' H' p d := fun {j y} hj hy => by
    obtain ⟨m, hm⟩ := List.mem_iff_getElem?.mp hj
    obtain ⟨d, e, x, a1, a2, a3, a4⟩ := b2 m j hm
    rw [a4] at hy
    cases hy
    have hlt : m < ps.length := by rw [hl]; exact (List.getElem?_eq_some_iff.mp hm).1
    obtain ⟨i, y, f, c1, c2, c3, c4⟩ := hps m ps[m] (List.getElem?_eq_getElem hlt)
    rw [hm] at c1
    cases c1
    obtain ⟨q, g1, g2, g3⟩ := S.root c3 c4
    rw [c2] at g1
    cases g1
    obtain ⟨o, ho⟩ := g3.there
    exact ⟨x, d, e, _, a2, a3, rfl, c2, none' g2 ho, A.out.get (List.getElem?_eq_getElem hlt) a1⟩
  have rt : ∀ {j : Nat} {y : SV} {f : D}, δ'[j]? = some (some y) → y.root = some f → ∃ x e, δ[j]? = some (some x) ∧ SV.root x = some e := fun {j y f} hy hf => by
    by_cases hj : j ∈ is
    · obtain ⟨x, d, e, p, a1, a2, _⟩ := ins hj hy
      exact ⟨x, e, a1, a2⟩
    · rw [b1 j hj] at hy
      exact ⟨y, f, hy, hf⟩
  refine ⟨by rw [b3]; exact S.len, fun j d hd => ?_, fun j d hd => ?_, fun j d hd => ?_, fun i j x y d e p h1 r1 h2 r2 h3 h4 => ?_, A.sub, fun a o ha => ?_, fun a o ha hi => ?_, fun i a ha => ?_, S.g0⟩
  · by_cases hj : j ∈ is
    · obtain ⟨x, d', e, p, a1, a2, a3, _⟩ := ins hj hd
      cases x with
      | fz _ => cases a2
      | own _ => cases a3
      | inp _ => cases a3
    · rw [b1 j hj] at hd
      obtain ⟨v, a, b⟩ := S.fz j d hd
      exact ⟨v, a, b.mono A.le⟩
  · by_cases hj : j ∈ is
    · obtain ⟨x, d', e, p, a1, a2, a3, a4, a5, a6⟩ := ins hj hd
      cases x with
      | fz _ => cases a2
      | own _ =>
        cases a3
        obtain ⟨q, g1, _, _, g4⟩ := S.own j _ a1
        rw [a4] at g1
        cases g1
        exact ⟨p, a4, a5, a6, g4⟩
      | inp _ => cases a3
    · rw [b1 j hj] at hd
      obtain ⟨p, a, b, c, e⟩ := S.own j d hd
      obtain ⟨b', c'⟩ := keep b c (out hj hd rfl a)
      exact ⟨p, a, b', c', e⟩
  · by_cases hj : j ∈ is
    · obtain ⟨x, d', e, p, a1, a2, a3, a4, a5, a6⟩ := ins hj hd
      cases x with
      | fz _ => cases a2
      | own _ => cases a3
      | inp _ =>
        cases a3
        obtain ⟨q, g1, _, _, g4⟩ := S.inp j _ a1
        rw [a4] at g1
        cases g1
        exact ⟨p, a4, a5, a6, g4⟩
    · rw [b1 j hj] at hd
      obtain ⟨p, a, b, c, e⟩ := S.inp j d hd
      obtain ⟨b', c'⟩ := keep b c (out hj hd rfl a)
      exact ⟨p, a, b', c', e⟩
  · obtain ⟨x', d', a1, a2⟩ := rt h1 r1
    obtain ⟨y', e', c1, c2⟩ := rt h2 r2
    exact S.inj i j x' y' d' e' p a1 a2 c1 c2 h3 h4
  · rcases A.new a o ha with z | z
    · cases q : G a with
      | none => exact absurd q z
      | some u => exact S.new a u q
    · exact .inr (S.fresh z)
  · -- what stood at the entry
    have hn : a ∉ ps := fun hm => by
      obtain ⟨m, hm⟩ := List.mem_iff_getElem?.mp hm
      obtain ⟨i, x, d, a1, a2, a3, a4⟩ := hps m a hm
      cases x with
      | fz _ => cases a4
      | own _ =>
        obtain ⟨q, g1, _, _, g4⟩ := S.own i _ a3
        rw [a2] at g1
        cases g1
        rw [ha] at g4
        cases g4
      | inp _ =>
        obtain ⟨q, g1, _, _, g4⟩ := S.inp i _ a3
        rw [a2] at g1
        cases g1
        exact hi i g4
    rcases S.fr a o ha hi with z | ⟨z1, z2, od, z3⟩
    · rcases A.fr a o z hn with y | ⟨y1, y2, od, y3⟩
      · exact .inl y
      · refine .inr ⟨y1, ?_, od, y3⟩
        rcases S.new a o y2 with w | w
        · cases q : F.G0 a with
          | none => exact absurd q w
          | some u =>
            have := S.g0 a u q
            rw [ha] at this
            cases this
            rfl
        · rw [ha] at w; cases w
    · rcases A.fr a _ z3 hn with y | ⟨y1, _⟩
      · exact .inr ⟨z1, z2, od, y⟩
      · exact absurd y1 (fun q => q)
  · obtain ⟨⟨o, ho⟩, hg, h0⟩ := S.ioh i a ha
    refine ⟨?_, none' hg ho, h0⟩
    by_cases hm : a ∈ ps
    · obtain ⟨m, hm⟩ := List.mem_iff_getElem?.mp hm
      have hlt : m < is.length := by rw [← hl]; exact (List.getElem?_eq_some_iff.mp hm).1
      obtain ⟨d, e, x, a1, _⟩ := b2 m is[m] (List.getElem?_eq_getElem hlt)
      exact (A.out.get hm a1).there
    · rcases A.fr a o ho hm with z | ⟨_, z, _⟩
      · exact ⟨o, z⟩
      · rw [hg] at z; cases z
theorem RepP.after {outs : List D} {is : List Nat} {δ' : Dl} {v : V} {o : OV} (S : Sim K F G H σ δ) (hb : putBack is outs δ = some δ') (nd : is.Nodup) (h : RepP K H G' H' v o) : RepO K H G' H' σ δ' v o := by
  cases o with
  | val d => exact h
  | new d =>
    obtain ⟨p, rfl, a, b, c⟩ := h
    refine ⟨p, rfl, b, c, a, fun i x e hx r hs => ?_⟩
    obtain ⟨x', e', hx', r'⟩ := putBack_root hb nd hx r
    obtain ⟨q, e1, _, e3⟩ := S.root hx' r'
    rw [hs] at e1; cases e1
    obtain ⟨w, hw⟩ := e3.there
    rw [hw] at a; cases a
theorem After.mv {ps : List Addr} {outs : List D} {is : List Nat} {δ' : Dl} (A : After K G H ps outs G' H') (hl : ps.length = is.length)
    (hps : ∀ (j : Nat) (p : Addr), ps[j]? = some p → ∃ (i : Nat) (x : SV) (d : D), is[j]? = some i ∧ σ[i]? = some (some (V.ref p)) ∧ δ[i]? = some (some x) ∧ SV.root x = some d) (nd : is.Nodup)
    (h : putBack is outs δ = some δ') : Mv σ δ G H δ' G' H' := by
  refine ⟨A.le, fun a o ho hg ap => ⟨?_, ?_, fun i x e hx r hs => ?_⟩, fun a ha => ?_⟩
  · have hn : a ∉ ps := fun hm => by
      obtain ⟨m, hm⟩ := List.mem_iff_getElem?.mp hm
      obtain ⟨i, x, d, a1, a2, a3, a4⟩ := hps m a hm
      exact ap i x d a3 a4 a2
    rcases A.fr a o ho hn with z | ⟨_, z, _⟩
    · exact z
    · rw [hg] at z; cases z
  · cases q : G' a with
    | none => rfl
    | some u =>
      rcases A.new a u q with z | z
      · exact absurd hg z
      · rw [ho] at z; cases z
  · obtain ⟨x', e', hx', r'⟩ := putBack_root h nd hx r
    exact ap i x' e' hx' r' hs
  · cases q : H a with
    | none => rfl
    | some o =>
      by_cases hm : a ∈ ps
      · obtain ⟨b1, b2, b3⟩ := putBack_at h nd
        obtain ⟨m, hm⟩ := List.mem_iff_getElem?.mp hm
        have hlt : m < is.length := by rw [← hl]; exact (List.getElem?_eq_some_iff.mp hm).1
        obtain ⟨d, e, x, a1, _⟩ := b2 m is[m] (List.getElem?_eq_getElem hlt)
        obtain ⟨u, hu⟩ := (A.out.get hm a1).there
        rw [ha] at hu; cases hu
      · rcases A.fr a o q hm with z | ⟨_, _, od, z⟩
        · rw [ha] at z; cases z
        · rw [ha] at z; cases z
end

/-! ### calls of defs -/
def nodupB : List Nat → Bool
  | [] => true
  | i :: is => !is.contains i && nodupB is
theorem nodup_of : ∀ {l : List Nat}, nodupB l = true → l.Nodup
  | [], _ => .nil
  | i :: is, h => by
    simp only [nodupB, Bool.and_eq_true, Bool.not_eq_true', List.contains_eq_mem, decide_eq_false_iff_not] at h
    exact List.nodup_cons.mpr ⟨h.1, nodup_of h.2⟩
/-- a call of F with operands; ds: the defaults that fill up -/
def callRs (F : Fm) (rs : List RV) (ds : List D) (δ : Dl) : Option (OV × Dl) := (toArgs rs δ).bind fun as => if nodupB (slotsOf rs) = true then (F (as ++ ds.map .fz)).bind fun r => (putBack (slotsOf rs) r.2 δ).map fun δ' => (r.1, δ') else none
def fCall (F : Fm) (fa : Fr2) (ds : List D) : Fn := fun δ => (fa δ).bind fun p => callRs F p.1 ds p.2
inductive ArgD (K : PySem.W.Frag) : List V → List D → Prop
  | nil : ArgD K [] []
  | cons {v : V} {vs : List V} {d : D} {ds : List D} : (∀ G, Rep K G v d) → ArgD K vs ds → ArgD K (v :: vs) (d :: ds)
theorem ArgR.append {K : PySem.W.Frag} {G H : Hp} {vs : List V} {as : List SV} {ps : List Addr} {ws : List V} {ds : List D} (h : ArgR K G H vs as ps) (hd : ArgD K ws ds) : ArgR K G H (vs ++ ws) (as ++ ds.map .fz) ps := by
  induction h with
  | nil =>
    induction hd with
    | nil => exact .nil
    | cons r _ ih => exact .fz (r G) ih
  | fz r _ ih => exact .fz r ih
  | inp a b _ ih => exact .inp a b ih
theorem call_imp {K : PySem.W.Frag} {Fd : Fm} {F : Fr} {G H : Hp} {σ : St} {δ : Dl} {vs : List V} {rs : List RV} {ws : List V} {ds : List D} {o : OV} {δ' : Dl} {Q : VK} {E : XK} (S : Sim K F G H σ δ) (r : RepRs K G σ vs rs) (hd : ArgD K ws ds)
    (e : callRs Fd rs ds δ = some (o, δ')) (k : ∀ v H' G', Sim K F G' H' σ δ' → Mv σ δ G H δ' G' H' → RepO K H G' H' σ δ' v o → Q v H') : spT K Fd (vs ++ ws) H Q E := by
  obtain ⟨as, e1, e⟩ := Option.bind_eq_some_iff.mp e
  split at e
  · rename_i nd
    have nd := nodup_of nd
    obtain ⟨⟨o', outs⟩, e2, e⟩ := Option.bind_eq_some_iff.mp e
    obtain ⟨δ2, e3, e4⟩ := Option.map_eq_some_iff.mp e
    cases e4
    obtain ⟨ps, a, b, c, f⟩ := S.args r e1 nd
    refine ⟨G, _, ps, _, outs, S.sub, a.append hd, b, e2, fun v H' G' A rp => ?_⟩
    have S' := S.after_call A c f nd e3
    exact k v H' G' S' (A.mv c f nd e3) (rp.after S e3 nd)
  · cases e
/-- a def of the module, called by its name; it computes Fd; ds: its defaults that fill up -/
structure Cal (P : Program) (w : World) (K : PySem.W.Frag) (mg : Str → Option Value) (base : Heap) (k : Nat) (x : Str) (Fd : Fm) (ds : List D) : Prop where
  ex : ∃ (f : Addr) (fd : FuncData) (ps : List Str) (us : List Value) (dvs : List V), FnOk P w K mg base CX0 k f fd ps (spT K Fd) ∧ mg x = some (.ref f) ∧ PySem.W.keepIn K (.ref f) = true ∧ Binds K fd ps us ∧ Vals dvs us ∧ ArgD K dvs ds
/-- a method of the class at C -/
structure Met (P : Program) (w : World) (K : PySem.W.Frag) (mg : Str → Option Value) (base : Heap) (k : Nat) (C : Addr) (m : Str) (Fd : Fm) (ds : List D) : Prop where
  ex : ∃ (f : Addr) (fd : FuncData) (ps : List Str) (us : List Value) (dvs : List V), Cls K C ∧ Meth K C m f ∧ FnOk P w K mg base CX0 k f fd ps (spT K Fd) ∧ Binds K fd ps us ∧ Vals dvs us ∧ ArgD K dvs ds
/-- a class of the module, made by its name; Fd: its __init__ -/
structure Mak (P : Program) (w : World) (K : PySem.W.Frag) (mg : Str → Option Value) (base : Heap) (k : Nat) (x : Str) (C : Addr) (Fd : Fm) (ds : List D) : Prop where
  ex : ∃ (f : Addr) (fd : FuncData) (ps : List Str) (us : List Value) (dvs : List V), Mk K C f ∧ FnOk P w K mg base CX0 k f fd ps (spT K Fd) ∧ mg x = some (.ref C) ∧ Binds K fd ps us ∧ Vals dvs us ∧ ArgD K dvs ds
/-- an instance's method: the receiver first, as it stands -/
def fMeth (C : Addr) (m : Str) (F : Fm) (fo : Fe) (fa : Fr2) (ds : List D) : Fn := fun δ => (fo δ).bind fun p => match peek p.1 p.2 with
  | some (.obj C' fs) => if C' = C ∧ (fs.lookup m).isNone = true then (fa p.2).bind fun q => callRs F (p.1 :: q.1) ds q.2 else none
  | _ => none
theorem RepF.lookup {K : PySem.W.Frag} {G : Hp} {m : Str} : ∀ {vs : List (Str × V)} {ds : List (Str × D)}, RepF K G vs ds → RepOpt K G (vs.lookup m) (ds.lookup m)
  | _, _, .nil => trivial
  | (k, v) :: vs, _, .cons h r => by
    have ih := RepF.lookup (m := m) r
    by_cases e : m = k
    · have hb : (m == k) = true := beq_iff_eq.mpr e
      simp only [List.lookup, hb]
      exact h
    · have hb : (m == k) = false := beq_eq_false_iff_ne.mpr e
      simp only [List.lookup, hb]
      exact ih
section
variable {X : Cx} {k j : Nat} {C : Addr} {x m : Str} {Fd : Fm} {ds : List D} {p pos apos : Pos} {e o : Expr} {es : List Expr} {fa : Fr2} {fo : Fe}
/-- f(..), f a def of the module -/
theorem en_call (c : Cal X.prog X.w X.K X.mg X.base k x Fd ds) (hr : Room j X.A) (hk : k ≤ j) (hg : Gl X x) (ha : Am X (e :: es) fa)
    (hdb : (x == ("__debug__" : Str)) = false := by decide) (he : starEach (e :: es) X.env = (false, eval e X.env) :: starEach es X.env := by rfl) (hpl : (backTo pos (starEach es X.env)).any (·.1) = false := by rfl) :
    En X (.Call (.Name x p) (e :: es) [] pos) (fCall Fd fa ds) := by
  obtain ⟨f, fd, ps, us, dvs, F, hm, kp, b, d, hd⟩ := c.ex
  refine PE.imp (pe_call F (hr.mono hk) hg hm kp b d pass0 ha hdb he hpl) fun σ H Q ⟨F, G, δ, o, δ', S, e, k⟩ => ?_
  obtain ⟨⟨rs, δ1⟩, e1, e2⟩ := Option.bind_eq_some_iff.mp e
  exact ⟨F, G, δ, rs, δ1, S, e1, fun vs H1 G1 S1 b1 r1 => call_imp S1 r1 hd e2 fun v H' G' S' l r => k v H' G' S' (b1.trans l) (r.old b1.dom)⟩
theorem en_call0 (c : Cal X.prog X.w X.K X.mg X.base k x Fd ds) (hr : Room j X.A) (hk : k ≤ j) (hg : Gl X x) (hdb : (x == ("__debug__" : Str)) = false := by decide) : En X (.Call (.Name x p) [] [] pos) (fCall Fd fM0 ds) := by
  obtain ⟨f, fd, ps, us, dvs, F, hm, kp, b, d, hd⟩ := c.ex
  refine PE.imp (pe_call0 F (hr.mono hk) hg hm kp b d pass0 hdb) fun σ H Q ⟨F, G, δ, o, δ', S, e, k⟩ => ?_
  obtain ⟨⟨rs, δ1⟩, e1, e2⟩ := Option.bind_eq_some_iff.mp e
  cases e1
  exact call_imp (E := E0) S .nil hd e2 fun v H' G' S' l r => k v H' G' S' l r
theorem meth_imp {K : PySem.W.Frag} {t : TA} {σ : St} {H : Hp} {Q : VK} {dvs : List V} (hd : ArgD K dvs ds) (ht : ∀ σ H Q, tAm K fa σ H Q → t σ H Q) (h : tEn K (fMeth C m Fd fo fa ds) σ H Q) : tMeth C m (spT K Fd) dvs E0 (tEv K fo) t σ H Q := by
  obtain ⟨F, G, δ, o, δ', S, e, k⟩ := h
  obtain ⟨⟨r, δ1⟩, e1, e2⟩ := Option.bind_eq_some_iff.mp e
  dsimp only at e2
  split at e2
  · rename_i C' fs hp
    split at e2
    · rename_i hc
      obtain ⟨rfl, hn⟩ := hc
      obtain ⟨⟨rs, δ2⟩, e3, e4⟩ := Option.bind_eq_some_iff.mp e2
      refine ⟨F, G, δ, r, δ1, S, e1, fun v1 H1 G1 S1 b1 r1 => ?_⟩
      obtain ⟨a, dx, vs, rfl, h1, h2⟩ := (S1.peek r1 hp).obj S1.sub
      refine ⟨a, dx, vs, rfl, h1, ?_, ht _ _ _ ⟨F, G1, δ1, rs, δ2, S1, e3, fun ws H2 G2 S2 b2 r2 => ?_⟩⟩
      · have := h2.lookup (m := m)
        cases q : vs.lookup m with
        | none => rfl
        | some v =>
          rw [q] at this
          cases q2 : fs.lookup m with
          | none => rw [q2] at this; exact this.elim
          | some d => rw [q2] at hn; cases hn
      · exact call_imp (vs := V.ref a :: ws) S2 (.cons (r1.mono b2.le) r2) hd e4 fun v H' G' S' l r => k v H' G' S' (b1.trans (b2.trans l)) (r.old fun a h => b1.dom a (b2.dom a h))
    · cases e2
  · cases e2
theorem en_meth {pl : Sem Bool} (c : Met X.prog X.w X.K X.mg X.base k C m Fd ds) (hr : Room j X.A) (hk : k ≤ j) (he : Ev X o fo) (ha : Am X (e :: es) fa)
    (hst : starEach (e :: es) X.env = (false, eval e X.env) :: starEach es X.env := by rfl) (hpl : (backTo pos (starEach es X.env)).any (·.1) = false := by rfl)
    (ht : eval (.Call (.Attribute o m apos) (e :: es) [] pos) X.env = (do
      let ov ← eval o X.env
      standAt apos.atName
      let (f, first) ← holding [ov] (getMethod ov m pl)
      callWith pos f first (backTo pos (starEach (e :: es) X.env)) (backToKw pos (keywordEach [] X.env))) := by rfl) :
    En X (.Call (.Attribute o m apos) (e :: es) [] pos) (fMeth C m Fd fo fa ds) := by
  obtain ⟨f, fd, ps, us, dvs, c, hm, F, b, d, hd⟩ := c.ex
  exact PE.imp (pe_meth he c hm F (hr.mono hk) b d pass0 ha hst hpl ht) fun σ H Q h => meth_imp hd (fun _ _ _ q => q) h
theorem en_meth0 {pl : Sem Bool} (c : Met X.prog X.w X.K X.mg X.base k C m Fd ds) (hr : Room j X.A) (hk : k ≤ j) (he : Ev X o fo)
    (ht : eval (.Call (.Attribute o m apos) [] [] pos) X.env = (do
      let ov ← eval o X.env
      standAt apos.atName
      let (f, first) ← holding [ov] (getMethod ov m pl)
      callWith pos f first (backTo pos (starEach [] X.env)) (backToKw pos (keywordEach [] X.env))) := by rfl) :
    En X (.Call (.Attribute o m apos) [] [] pos) (fMeth C m Fd fo fM0 ds) := by
  obtain ⟨f, fd, ps, us, dvs, c, hm, F, b, d, hd⟩ := c.ex
  exact PE.imp (pe_meth0 he c hm F (hr.mono hk) b d pass0 ht) fun σ H Q h => meth_imp hd (fun σ H Q ⟨F, G, δ, o, δ', S, e, k⟩ => by cases e; exact k [] H G S .refl .nil) h
end
end L2.Tl

set_option Elab.async false
set_option linter.all false
set_option autoImplicit false
set_option maxRecDepth 100000
namespace L2.Tl
open PySem PySem.Spec PyProof.Rows

/-! ### statements -/
def sNext : Fs := fun δ => some (.next, δ)
def sBrk : Fs := fun δ => some (.brk, δ)
def sCnt : Fs := fun δ => some (.cnt, δ)
def sSeq (f g : Fs) : Fs := fun δ => (f δ).bind fun p => match p.1 with
  | .next => g p.2
  | _ => some p
def sNever : Fs := fun _ => none
section
variable {X : Cx} {pos pos' : Pos}
theorem ss_nil : Ss X [] sNext := PSs.imp pss_nil fun D σ H ⟨F, G, δ, fl, δ', S, e, k⟩ => by
  cases e
  exact k σ H G S (.refl _)
theorem ss_cons {st : Stmt} {rest : List Stmt} {f g : Fs} (h : Sm X st f) (hr : Ss X rest g) : Ss X (st :: rest) (sSeq f g) := PSs.imp (pss_cons h hr) fun D σ H ⟨F, G, δ, fl, δ', S, e, k⟩ => by
  obtain ⟨⟨fl1, δ1⟩, e1, e2⟩ := Option.bind_eq_some_iff.mp e
  refine ⟨F, G, δ, fl1, δ1, S, e1, ?_⟩
  cases fl1 with
  | next =>
    dsimp only at e2
    intro σ1 H1 G1 S1 l1
    refine ⟨F, G1, δ1, fl, δ', S1, e2, ?_⟩
    cases fl with
    | next => exact fun σ2 H2 G2 S2 l2 => k σ2 H2 G2 S2 (l1.trans l2)
    | brk => exact fun σ2 H2 G2 S2 l2 => k σ2 H2 G2 S2 (l1.trans l2)
    | cnt => exact fun σ2 H2 G2 S2 l2 => k σ2 H2 G2 S2 (l1.trans l2)
    | ret o => exact fun v σ2 H2 G2 S2 l2 r => k v σ2 H2 G2 S2 (l1.trans l2) r
  | brk => cases e2; exact k
  | cnt => cases e2; exact k
  | ret o => cases e2; exact k
theorem ss_one {st : Stmt} {f : Fs} (h : Sm X st f) : Ss X [st] f := pss_one h
theorem sm_pass : Sm X (.Pass pos) sNext := PS.imp ps_pass fun D σ H ⟨F, G, δ, fl, δ', S, e, k⟩ => by
  cases e
  exact k σ H G S (.refl _)
theorem sm_brk : Sm X (.Break pos) sBrk := PS.imp ps_break fun D σ H ⟨F, G, δ, fl, δ', S, e, k⟩ => by
  cases e
  exact k σ H G S (.refl _)
theorem sm_cnt : Sm X (.Continue pos) sCnt := PS.imp ps_continue fun D σ H ⟨F, G, δ, fl, δ', S, e, k⟩ => by
  cases e
  exact k σ H G S (.refl _)
/-- what is never come to -/
theorem sm_never {st : Stmt} : Sm X st sNever := PS.imp ps_never fun D σ H ⟨F, G, δ, fl, δ', S, e, k⟩ => by cases e
theorem ss_never {st : List Stmt} : Ss X st sNever := PSs.imp pss_never fun D σ H ⟨F, G, δ, fl, δ', S, e, k⟩ => by cases e
def sIf (c : Ft) (a b : Fs) : Fs := fun δ => (c δ).bind fun p => if p.1 = true then a p.2 else b p.2
theorem sm_if {c : Expr} {a b : List Stmt} {fc : Ft} {fa fb : Fs} (hc : Ts X c fc) (ha : Ss X a fa) (hb : Ss X b fb) : Sm X (.If c a b pos) (sIf fc fa fb) := PS.imp (ps_if hc ha hb) fun D σ H ⟨F, G, δ, fl, δ', S, e, k⟩ => by
  obtain ⟨⟨t, δ1⟩, e1, e2⟩ := Option.bind_eq_some_iff.mp e
  refine ⟨F, G, δ, t, δ1, S, e1, fun H1 G1 S1 m => ?_⟩
  dsimp only at e2
  have fin : tSt X.K (fun δ => if t = true then fa δ else fb δ) D σ H1 := by
    refine ⟨F, G1, δ1, fl, δ', S1, e2, ?_⟩
    cases fl with
    | next => exact fun σ2 H2 G2 S2 l2 => k σ2 H2 G2 S2 (m.le.trans l2)
    | brk => exact fun σ2 H2 G2 S2 l2 => k σ2 H2 G2 S2 (m.le.trans l2)
    | cnt => exact fun σ2 H2 G2 S2 l2 => k σ2 H2 G2 S2 (m.le.trans l2)
    | ret o => exact fun v σ2 H2 G2 S2 l2 r => k v σ2 H2 G2 S2 (m.le.trans l2) r
  cases t with
  | true => exact fin
  | false => exact fin
/-- an expression whose value is dropped -/
def sEx (f : Fn) : Fs := fun δ => (f δ).map fun p => (.next, p.2)
theorem sm_ex {e : Expr} {f : Fn} (h : En X e f) (hs : swapsWith e none pos.line X.env = pure false := by rfl) : Sm X (.Expr e pos) (sEx f) := PS.imp (ps_expr h hs) fun D σ H ⟨F, G, δ, fl, δ', S, e, k⟩ => by
  obtain ⟨⟨o, δ1⟩, e1, e2⟩ := Option.map_eq_some_iff.mp e
  cases e2
  exact ⟨F, G, δ, o, δ1, S, e1, fun v H1 G1 S1 m _ => k σ H1 G1 S1 m.le⟩
theorem sm_doc {x : Str} {j : Nat} : Sm X (.Expr (.Constant (.str x) j pos) pos') sNext := PS.imp ps_doc fun D σ H ⟨F, G, δ, fl, δ', S, e, k⟩ => by
  cases e
  exact k σ H G S (.refl _)
/-- return -/
def sRet (f : Fn) : Fs := fun δ => (f δ).map fun p => (.ret p.1, p.2)
theorem sm_ret {e : Expr} {f : Fn} (h : En X e f) : Sm X (.Return (some e) pos) (sRet f) := PS.imp (ps_ret h) fun D σ H ⟨F, G, δ, fl, δ', S, e, k⟩ => by
  obtain ⟨⟨o, δ1⟩, e1, e2⟩ := Option.map_eq_some_iff.mp e
  cases e2
  exact ⟨F, G, δ, o, δ1, S, e1, fun v H1 G1 S1 m r => k v σ H1 G1 S1 m.le (r.old fun a h => S.fresh h)⟩
def sRetN : Fs := fun δ => some (.ret (.val .non), δ)
theorem sm_retN : Sm X (.Return none pos) sRetN := PS.imp ps_retN fun D σ H ⟨F, G, δ, fl, δ', S, e, k⟩ => by
  cases e
  exact k .non σ H G S (.refl _) .non
/-- return x, x the frame's own object: it's the caller's then -/
def fMove (i : Nat) : Fn := fun δ => match δ[i]? with
  | some (some (.own d)) => some (.new d, δ.set i none)
  | some (some (.fz d)) => some (.val d, δ)
  | _ => none
theorem sm_retMove {x : Str} (i : Nat) (hN : X.N[i]? = some x := by rfl) (hv : Vis X.env.scope x := by first | exact Or.inl rfl | exact Or.inr (Or.inl rfl) | exact Or.inr (Or.inr rfl)) (hd : (x == ("__debug__" : Str)) = false := by decide)
    (hcd : (x == ("__classdict__" : Str)) = false := by decide) : Sm X (.Return (some (.Name x pos)) pos') (sRet (fMove i)) := PS.imp (ps_ret (pe_var hN hv hd hcd)) fun D σ H ⟨F, G, δ, fl, δ', S, e, k⟩ => by
  obtain ⟨⟨o, δ1⟩, e1, e2⟩ := Option.map_eq_some_iff.mp e
  cases e2
  unfold fMove at e1
  split at e1
  · rename_i d h
    cases e1
    obtain ⟨p, a, b, c, f⟩ := S.own i d h
    have hl : i < δ.length := (List.getElem?_eq_some_iff.mp h).1
    refine ⟨.ref p, a, k (.ref p) σ H G (S.drop i) (.refl _) ⟨p, rfl, b, c, f, fun j x e hj r hs => ?_⟩⟩
    by_cases n : j = i
    · subst n
      rw [List.getElem?_set_self hl] at hj; cases hj
    · rw [List.getElem?_set_ne (Ne.symm n)] at hj
      exact n (S.inj j i x _ e d p hj r h rfl hs a)
  · rename_i d h
    cases e1
    obtain ⟨v, a, b⟩ := S.fz i d h
    exact ⟨v, a, k v σ H G S (.refl _) b⟩
  · cases e1

/-! ### stores to names -/
/-- x = e, e let go -/
def sSet (i : Nat) (f : Fe) : Fs := fun δ => (f δ).bind fun p => (esc p.1 p.2).map fun q => (.next, q.2.set i (some (.fz q.1)))
theorem sm_set {i : Nat} {x : Str} {e : Expr} {f : Fe} (hN : X.N.Nodup) (hi : X.N[i]? = some x) (hx : Loc X.env.scope x) (h : Ev X e f) (hs : swapsWith e (some (.Name x pos')) pos.line X.env = pure false := by rfl) (hf : X.fn x = true ∨ X.env.scope.names.lookup x = some .local := by first | exact .inl rfl | exact .inr rfl | assumption) :
    Sm X (.Assign [.Name x pos'] e pos) (sSet i f) := PS.imp (ps_set hN hi hx h hs hf) fun D σ H ⟨F, G, δ, fl, δ', S, e, k⟩ => by
  obtain ⟨⟨r, δ1⟩, e1, e2⟩ := Option.bind_eq_some_iff.mp e
  obtain ⟨⟨d, δ2⟩, e3, e4⟩ := Option.map_eq_some_iff.mp e2
  cases e4
  refine ⟨F, G, δ, r, δ1, S, e1, fun v H1 G1 S1 m r1 => ?_⟩
  obtain ⟨G2, S2, m2, r2⟩ := S1.esc r1 e3
  exact k _ H1 G2 (S2.set r2 i) (m.le.trans m2.le)
/-- x = e, a new object is the frame's own -/
def setO (i : Nat) (o : OV) (δ : Dl) : Dl := match o with
  | .val d => δ.set i (some (.fz d))
  | .new d => δ.set i (some (.own d))
def sOwn (i : Nat) (f : Fn) : Fs := fun δ => (f δ).map fun p => (.next, setO i p.1 p.2)
theorem Sim.setO {K : PySem.W.Frag} {F : Fr} {Z G H : Hp} {σ : St} {δ : Dl} {v : V} {o : OV} (S : Sim K F G H σ δ) (r : RepO K Z G H σ δ v o) (hz : ∀ a, Z a = none → F.H0 a = none) (i : Nat) : Sim K F G H (σ.set i (some v)) (Tl.setO i o δ) := by
  cases o with
  | val d => exact S.set r i
  | new d =>
    obtain ⟨p, rfl, a, b, c, e⟩ := r
    exact S.setOwn a b (hz p c) e i
theorem sm_own {i : Nat} {x : Str} {e : Expr} {f : Fn} (hN : X.N.Nodup) (hi : X.N[i]? = some x) (hx : Loc X.env.scope x) (h : En X e f) (hs : swapsWith e (some (.Name x pos')) pos.line X.env = pure false := by rfl) (hf : X.fn x = true ∨ X.env.scope.names.lookup x = some .local := by first | exact .inl rfl | exact .inr rfl | assumption) :
    Sm X (.Assign [.Name x pos'] e pos) (sOwn i f) := PS.imp (ps_set hN hi hx h hs hf) fun D σ H ⟨F, G, δ, fl, δ', S, e, k⟩ => by
  obtain ⟨⟨o, δ1⟩, e1, e2⟩ := Option.map_eq_some_iff.mp e
  cases e2
  exact ⟨F, G, δ, o, δ1, S, e1, fun v H1 G1 S1 m r => k _ H1 G1 (S1.setO r (fun a h => S.fresh h) i) m.le⟩

def dAddI : D → D → Option OV
  | .int i, .int j => some (.val (.int (i + j)))
  | _, _ => none
/-! ### several at once -/
abbrev Fp := Dl → Option (List OV × Dl)
inductive RepOs (K : PySem.W.Frag) (Z G H : Hp) (σ : St) (δ : Dl) : List V → List OV → List Addr → Prop
  | nil : RepOs K Z G H σ δ [] [] []
  | val {v : V} {vs : List V} {d : D} {os : List OV} {ps : List Addr} : Rep K G v d → RepOs K Z G H σ δ vs os ps → RepOs K Z G H σ δ (v :: vs) (.val d :: os) ps
  | new {p : Addr} {vs : List V} {d : D} {os : List OV} {ps : List Addr} : G p = none → Root K G H p d → Z p = none → Apart σ δ p → p ∉ ps → RepOs K Z G H σ δ vs os ps → RepOs K Z G H σ δ (.ref p :: vs) (.new d :: os) (p :: ps)
def tPn (K : PySem.W.Frag) (f : Fp) : TA := fun σ H Q => ∃ F G δ os δ', Sim K F G H σ δ ∧ f δ = some (os, δ') ∧ ∀ vs ps H' G', Sim K F G' H' σ δ' → Mv σ δ G H δ' G' H' → RepOs K H G' H' σ δ' vs os ps → Q vs H'
def Pn (X : Cx) (es : List Expr) (f : Fp) : Prop := PA X es (tPn X.K f)
def fP0 : Fp := fun δ => some ([], δ)
def fP (f : Fn) (r : Fp) : Fp := fun δ => (f δ).bind fun p => (r p.2).map fun q => (p.1 :: q.1, q.2)
theorem pn_nil : Pn X [] fP0 := PA.imp pa_nil fun σ H Q ⟨F, G, δ, o, δ', S, e, k⟩ => by
  cases e
  exact k [] [] H G S .refl .nil
theorem RepOs.old {K : PySem.W.Frag} {Z Z' G H : Hp} {σ : St} {δ : Dl} {vs : List V} {os : List OV} {ps : List Addr} (h : RepOs K Z G H σ δ vs os ps) (z : ∀ a, Z a = none → Z' a = none) : RepOs K Z' G H σ δ vs os ps := by
  induction h with
  | nil => exact .nil
  | val r _ ih => exact .val r ih
  | new a b c e n _ ih => exact .new a b (z _ c) e n ih
theorem RepOs.mem {K : PySem.W.Frag} {Z G H : Hp} {σ : St} {δ : Dl} {vs : List V} {os : List OV} {ps : List Addr} (h : RepOs K Z G H σ δ vs os ps) : ∀ p, p ∈ ps → Z p = none := by
  induction h with
  | nil => intro p h; simp at h
  | val r _ ih => exact ih
  | new a b c e n _ ih =>
    intro p hp
    rcases List.mem_cons.mp hp with z | z
    · rw [z]; exact c
    · exact ih p z
theorem pn_cons {e : Expr} {es : List Expr} {f : Fn} {r : Fp} (h : En X e f) (hr : Pn X es r) (hs : starEach (e :: es) X.env = (false, eval e X.env) :: starEach es X.env := by rfl) : Pn X (e :: es) (fP f r) :=
  PA.imp (pa_cons h hr hs) fun σ H Q ⟨F, G, δ, o, δ', S, e, k⟩ => by
    obtain ⟨⟨o1, δ1⟩, e1, e⟩ := Option.bind_eq_some_iff.mp e
    obtain ⟨⟨os, δ2⟩, e2, e3⟩ := Option.map_eq_some_iff.mp e
    cases e3
    refine ⟨F, G, δ, o1, δ1, S, e1, fun v1 H1 G1 S1 m1 r1 => ⟨F, G1, δ1, os, δ2, S1, e2, fun vs ps H2 G2 S2 m2 r2 => ?_⟩⟩
    cases o1 with
    | val d => exact k _ ps H2 G2 S2 (m1.trans m2) (.val (Rep.mono m2.le r1) (r2.old m1.dom))
    | new d =>
      obtain ⟨p, rfl, a, b, c, ap⟩ := r1
      obtain ⟨w, hw⟩ := b.there
      obtain ⟨h1, h2, h3⟩ := m2.stay p w hw a ap
      refine k _ (p :: ps) H2 G2 S2 (m1.trans m2) (.new h2 (b.mono m2.le (h1.trans hw.symm)) c h3 (fun hm => ?_) (r2.old m1.dom))
      have := r2.mem p hm
      rw [hw] at this; cases this
def setAll : List Nat → List OV → Dl → Option Dl
  | [], [], δ => some δ
  | i :: is, o :: os, δ => setAll is os (setO i o δ)
  | _, _, _ => none
def setVs : List Nat → List V → St → St
  | i :: is, v :: vs, σ => setVs is vs (σ.set i (some v))
  | _, _, σ => σ
/-- a thing stored elsewhere leaves another one apart -/
theorem Apart.set {σ : St} {δ : Dl} {p : Addr} {v : V} {x : SV} (ap : Apart σ δ p) (i : Nat) (hl : σ.length = δ.length) (hv : ∀ d, x.root = some d → v ≠ .ref p) : Apart (σ.set i (some v)) (δ.set i (some x)) p := fun j y d hj r hs => by
  by_cases n : j = i
  · subst n
    by_cases hlt : j < δ.length
    · rw [List.getElem?_set_self hlt] at hj
      cases hj
      rw [List.getElem?_set_self (by rw [hl]; exact hlt)] at hs
      cases hs
      exact hv d r rfl
    · rw [List.getElem?_eq_none (by simpa using hlt)] at hj; cases hj
  · rw [List.getElem?_set_ne (Ne.symm n)] at hj hs
    exact ap j y d hj r hs
theorem RepOs.set {K : PySem.W.Frag} {Z G H : Hp} {σ : St} {δ : Dl} {vs : List V} {os : List OV} {ps : List Addr} (h : RepOs K Z G H σ δ vs os ps) (hl : σ.length = δ.length) {v : V} {x : SV} (i : Nat) :
    (∀ d, x.root = some d → ∀ p, p ∈ ps → v ≠ .ref p) → RepOs K Z G H (σ.set i (some v)) (δ.set i (some x)) vs os ps := by
  induction h with
  | nil => exact fun _ => .nil
  | val a _ ih => exact fun k => .val a (ih k)
  | new a b c ap n _ ih => exact fun k => .new a b c (ap.set i hl fun d hd => k d hd _ List.mem_cons_self) n (ih fun d hd p hp => k d hd p (List.mem_cons_of_mem _ hp))
theorem Sim.setAll {K : PySem.W.Frag} {F : Fr} {Z G H : Hp} (hz : ∀ a, Z a = none → F.H0 a = none) : ∀ {is : List Nat} {os : List OV} {vs : List V} {ps : List Addr} {σ : St} {δ δ' : Dl}, Sim K F G H σ δ → RepOs K Z G H σ δ vs os ps →
    Tl.setAll is os δ = some δ' → Sim K F G H (setVs is vs σ) δ'
  | [], [], _, _, σ, δ, δ', S, r, e => by
    cases e
    cases r
    exact S
  | i :: is, .val d :: os, v :: vs, ps, σ, δ, δ', S, .val h r, e => by
    show Sim K F G H (setVs is vs (σ.set i (some v))) δ'
    exact Sim.setAll hz (S.set h i) (r.set S.len (x := .fz d) i fun d h => by cases h) e
  | i :: is, .new d :: os, .ref p :: vs, _ :: ps, σ, δ, δ', S, .new a b c ap n r, e => by
    show Sim K F G H (setVs is vs (σ.set i (some (V.ref p)))) δ'
    exact Sim.setAll hz (S.setOwn a b (hz p c) ap i) (r.set S.len (x := .own d) i fun d' _ q hq z => n (by cases z; exact hq)) e
  | [], _ :: _, _, _, _, _, _, _, _, e => nomatch e
  | _ :: _, [], _, _, _, _, _, _, _, e => nomatch e
def sPar (is : List Nat) (f : Fp) : Fs := fun δ => (f δ).bind fun p => (setAll is p.1 p.2).map fun δ' => (.next, δ')
/-- the targets' names, one after another -/
inductive GNs (X : Cx) : List Expr → List Nat → Prop
  | nil : GNs X [] []
  | cons {i : Nat} {x : Str} {p : Pos} {es : List Expr} {is : List Nat} : X.N[i]? = some x → Loc X.env.scope x → (X.fn x = true ∨ X.env.scope.names.lookup x = some .local) → GNs X es is → GNs X (.Name x p :: es) (i :: is)
def gSets : List Nat → TGs
  | [] => gNil
  | i :: is => gCons (gName i) (gSets is)
theorem GNs.pgs (hN : X.N.Nodup) {es : List Expr} {is : List Nat} (h : GNs X es is) : PGs X es (gSets is) := by
  induction h with
  | nil => exact pgs_nil
  | cons a b c _ ih => exact pgs_cons (pg_name hN a b c) ih
theorem gSets_of : ∀ {is : List Nat} {vs : List V} {σ : St} {H : Hp} {Q : St → Hp → Prop}, is.length = vs.length → Q (setVs is vs σ) H → gSets is vs σ H Q
  | [], [], _, _, _, _, q => ⟨rfl, q⟩
  | i :: is, v :: vs, σ, H, Q, h, q => ⟨v, vs, rfl, gSets_of (by simpa using h) q⟩
theorem setAll_length : ∀ {is : List Nat} {os : List OV} {δ δ' : Dl}, setAll is os δ = some δ' → is.length = os.length
  | [], [], _, _, _ => rfl
  | _ :: _, _ :: _, _, _, h => by simp only [setAll] at h; simp [setAll_length h]
  | [], _ :: _, _, _, h => nomatch h
  | _ :: _, [], _, _, h => nomatch h
theorem RepOs.length {K : PySem.W.Frag} {Z G H : Hp} {σ : St} {δ : Dl} {vs : List V} {os : List OV} {ps : List Addr} (h : RepOs K Z G H σ δ vs os ps) : vs.length = os.length := by
  induction h with
  | nil => rfl
  | val _ _ ih => simp [ih]
  | new _ _ _ _ _ _ ih => simp [ih]
theorem RepOs.ext {K : PySem.W.Frag} {Z G H G' H' : Hp} {σ : St} {δ : Dl} {vs : List V} {os : List OV} {ps : List Addr} (h : RepOs K Z G H σ δ vs os ps) (E : Ext G H G' H') : RepOs K Z G' H' σ δ vs os ps := by
  induction h with
  | nil => exact .nil
  | val r _ ih => exact .val (r.mono E.gg.le) ih
  | new a b c ap n _ ih =>
    obtain ⟨o, ho⟩ := b.there
    exact .new (E.none a ho) (b.mono E.gg.le ((E.hh _ o ho).trans ho.symm)) c ap n ih
/-- a, b, .. = x, y, .. by way of a tuple -/
theorem sm_par {ts es : List Expr} {is : List Nat} {f : Fp} {kt kt2 : Nat} {pt pt2 : Pos} (hc : X.calm = true) (hN : X.N.Nodup) (hg : GNs X ts is) (h : Pn X es f)
    (hn : (assignEach ts X.env).length = is.length := by rfl) (hst : (assignEach ts X.env).findIdx? (·.1) = none := by rfl)
    (hs : swapsWithSole [.Tuple ts kt pt] (.Tuple es kt2 pt2) pos.line X.env = pure false := by rfl) (hw : swappedStores [.Tuple ts kt pt] (.Tuple es kt2 pt2) X.env = pure none := by rfl)
    (h1 : (assignEach [.Tuple ts kt pt] X.env).map (·.2) = [assign (.Tuple ts kt pt) X.env] := by rfl) (hz : is.length ≤ 1000 := by decide) :
    Sm X (.Assign [.Tuple ts kt pt] (.Tuple es kt2 pt2) pos) (sPar is f) := PS.imp (ps_asg (pe_tup h) (pg_tup hc (hg.pgs hN) hn hst) hs hw h1) fun D σ H ⟨F, G, δ, fl, δ', S, e, k⟩ => by
  obtain ⟨⟨os, δ1⟩, e1, e2⟩ := Option.bind_eq_some_iff.mp e
  obtain ⟨δ2, e3, e4⟩ := Option.map_eq_some_iff.mp e2
  cases e4
  refine ⟨F, G, δ, os, δ1, S, e1, fun vs ps H1 G1 S1 m1 r1 => ⟨?_, fun p hp => ?_⟩⟩
  · rw [r1.length, ← setAll_length e3]
    exact Nat.le_trans hz (by rw [sizeLine_eq]; decide)
  · have E : Ext G1 H1 G1 (upd H1 p (.tup vs)) := .own S1.sub hp
    refine ⟨p, vs, rfl, SqT.of upd_same, by rw [r1.length, ← setAll_length e3], gSets_of (by rw [r1.length, ← setAll_length e3]) ?_⟩
    exact k _ _ G1 (Sim.setAll (fun a h => S.fresh h) (S1.ext E) (r1.ext E) e3) m1.le
/-- .. straight -/
theorem sm_par2 {i j : Nat} {x y : Str} {a b : Expr} {f : Fp} {px py pt : Pos} {kt k2 pt2} (hc : X.calm = true) (hN : X.N.Nodup) (hi : X.N[i]? = some x) (hj : X.N[j]? = some y) (hij : i ≠ j)
    (hx : X.env.scope.names.lookup x = some .local) (hy : X.env.scope.names.lookup y = some .local) (ha : Pn X [a, b] f)
    (hw : swappedStores [.Tuple [.Name x px, .Name y py] kt pt] (.Tuple [a, b] k2 pt2) X.env = pure (some [x, y]))
    (hs : swapsWithSole [.Tuple [.Name x px, .Name y py] kt pt] (.Tuple [a, b] k2 pt2) pos.line X.env = pure false := by rfl) :
    Sm X (.Assign [.Tuple [.Name x px, .Name y py] kt pt] (.Tuple [a, b] k2 pt2) pos) (sPar [i, j] f) := PS.imp (ps_par hc hN hi hj hij hx hy ha hw hs) fun D σ H ⟨F, G, δ, fl, δ', S, e, k⟩ => by
  obtain ⟨⟨os, δ1⟩, e1, e2⟩ := Option.bind_eq_some_iff.mp e
  obtain ⟨δ2, e3, e4⟩ := Option.map_eq_some_iff.mp e2
  cases e4
  refine ⟨F, G, δ, os, δ1, S, e1, fun vs ps H1 G1 S1 m1 r1 => ?_⟩
  have hl : vs.length = 2 := by rw [r1.length, ← setAll_length e3]; rfl
  match vs, hl, r1 with
  | [v, w], _, r1 => exact ⟨v, w, rfl, k _ H1 G1 (Sim.setAll (is := [i, j]) (fun a h => S.fresh h) S1 r1 e3) m1.le⟩
/-- a, b, .. = e, e a tuple -/
def sUnp (is : List Nat) (f : Fe) : Fs := fun δ => (f δ).bind fun p => (esc p.1 p.2).bind fun q => match q.1 with
  | .tup ds => (setAll is (ds.map .val) q.2).map fun δ' => (.next, δ')
  | _ => none
theorem RepOs.vals {K : PySem.W.Frag} {Z G H : Hp} {σ : St} {δ : Dl} : ∀ {vs : List V} {ds : List D}, RepL K G vs ds → RepOs K Z G H σ δ vs (ds.map .val) []
  | _, _, .nil => .nil
  | _, _, .cons h r => .val h (RepOs.vals r)
/-- a target of names takes a tuple -/
theorem gTup_of {K : PySem.W.Frag} {is : List Nat} {n : Nat} {v : V} {ds : List D} {F : Fr} {G H : Hp} {σ : St} {δ δ' : Dl} {Q : St → Hp → Prop} (S : Sim K F G H σ δ) (r : Rep K G v (.tup ds)) (e : setAll is (ds.map .val) δ = some δ') (hn : is.length = n)
    (k : ∀ σ', Sim K F G H σ' δ' → Q σ' H) : gTup K n (gSets is) v σ H Q := by
  obtain ⟨a, vs, rfl, h1, h2⟩ := RepK.tup (.inl r) S.sub
  have hl := setAll_length e
  rw [List.length_map] at hl
  exact ⟨a, vs, rfl, SqT.of h1, by rw [h2.length, ← hl, hn], gSets_of (by rw [h2.length, hl]) (k _ (Sim.setAll (Z := H) (fun a h => S.fresh h) S (RepOs.vals h2) e))⟩
theorem sm_unp {ts : List Expr} {e : Expr} {is : List Nat} {f : Fe} {kt : Nat} {pt : Pos} (hc : X.calm = true) (hN : X.N.Nodup) (hg : GNs X ts is) (h : Ev X e f)
    (hn : (assignEach ts X.env).length = is.length := by rfl) (hst : (assignEach ts X.env).findIdx? (·.1) = none := by rfl)
    (hs : swapsWithSole [.Tuple ts kt pt] e pos.line X.env = pure false := by rfl) (hw : swappedStores [.Tuple ts kt pt] e X.env = pure none := by rfl)
    (h1 : (assignEach [.Tuple ts kt pt] X.env).map (·.2) = [assign (.Tuple ts kt pt) X.env] := by rfl) :
    Sm X (.Assign [.Tuple ts kt pt] e pos) (sUnp is f) := PS.imp (ps_asg h (pg_tup hc (hg.pgs hN) hn hst) hs hw h1) fun D σ H ⟨F, G, δ, fl, δ', S, e, k⟩ => by
  obtain ⟨⟨r, δ1⟩, e1, e⟩ := Option.bind_eq_some_iff.mp e
  obtain ⟨⟨d, δ2⟩, e2, e⟩ := Option.bind_eq_some_iff.mp e
  dsimp only at e
  split at e
  · rename_i ds
    obtain ⟨δ3, e3, e4⟩ := Option.map_eq_some_iff.mp e
    cases e4
    refine ⟨F, G, δ, r, δ1, S, e1, fun v H1 G1 S1 m1 r1 => ?_⟩
    obtain ⟨G2, S2, m2, r2⟩ := S1.esc r1 e2
    exact gTup_of S2 r2 e3 rfl fun σ' S3 => k σ' H1 G2 S3 (m1.le.trans m2.le)
  · cases e
/-- x op= e -/
theorem ipT {op : Operator} {g : D → D → Option OV} (ho : OpT X (inplaceOp op) g) : PIp X op (rT X.K g) := fun pins s σ H x y v u Q I r1 r2 h => ho pins s σ H x y v u Q I r1 r2 h
/-- x op= e over ints, texts -/
def sAug (i : Nat) (g : D → D → Option OV) (f : Fe) : Fs := fun δ => match δ[i]? with
  | some (some (.fz x)) => (f δ).bind fun p => (peek p.1 p.2).bind fun y => match g x y with
    | some (.val d) => some (.next, p.2.set i (some (.fz d)))
    | _ => none
  | _ => none
theorem sm_aug {i : Nat} {x : Str} {e : Expr} {f : Fe} {op : Operator} {g : D → D → Option OV} (ho : OpT X (inplaceOp op) g) (hN : X.N.Nodup) (hi : X.N[i]? = some x) (hx : Loc X.env.scope x) (h : Ev X e f) (hf : X.fn x = true ∨ X.env.scope.names.lookup x = some .local := by first | exact .inl rfl | exact .inr rfl | assumption) :
    Sm X (.AugAssign (.Name x pos') op e pos) (sAug i g f) := PS.imp (ps_aug hN hi hx h (ipT ho) hf) fun D σ H ⟨F, G, δ, fl, δ', S, e, k⟩ => by
  unfold sAug at e
  split at e
  · rename_i d0 hd
    obtain ⟨⟨r, δ1⟩, e1, e⟩ := Option.bind_eq_some_iff.mp e
    obtain ⟨y, e2, e⟩ := Option.bind_eq_some_iff.mp e
    split at e
    · rename_i d hg
      cases e
      obtain ⟨v, a, b⟩ := S.fz i d0 hd
      refine ⟨v, a, F, G, δ, r, δ1, S, e1, fun w H1 G1 S1 m1 r1 => ⟨G1, d0, y, _, S1.sub, .inl (b.mono m1.le), S1.peek r1 e2, hg, fun z H2 G2 E r2 => ?_⟩⟩
      exact k _ H2 G2 ((S1.ext E).set (show Rep X.K G2 z d from r2) i) (m1.le.trans E.gg.le)
    · cases e
  · cases e
theorem opT_iadd : OpT X (inplaceOp .Add) dAddI := by
  intro pins s σ H x y v u Q I rx ry ⟨G, d, e, o, sb, rd, re, hq, k⟩
  unfold dAddI at hq
  split at hq
  · cases hq
    exact iop_add pins s σ H x y v u Q I rx ry ⟨_, _, rd.int, re.int, k.val sb (.int _)⟩
  · cases hq
theorem opT_isub : OpT X (inplaceOp .Sub) dSub := by
  intro pins s σ H x y v u Q I rx ry ⟨G, d, e, o, sb, rd, re, hq, k⟩
  unfold dSub at hq
  split at hq
  · cases hq
    exact iop_sub pins s σ H x y v u Q I rx ry ⟨_, _, rd.int, re.int, k.val sb (.int _)⟩
  · cases hq
end
end L2.Tl

set_option Elab.async false
set_option linter.all false
set_option autoImplicit false
set_option maxRecDepth 100000
namespace L2.Tl
open PySem PySem.Spec PyProof.Rows

/-! ### the frame's objects changed -/
/-- the tree of the object at a slot that the frame may change -/
def rootAt (i : Nat) (δ : Dl) : Option D := match δ[i]? with
  | some (some (.own d)) => some d
  | some (some (.inp d)) => some d
  | _ => none
/-- .. it is e now -/
def setRoot (i : Nat) (e : D) (δ : Dl) : Dl := match δ[i]? with
  | some (some (.own _)) => δ.set i (some (.own e))
  | some (some (.inp _)) => δ.set i (some (.inp e))
  | _ => δ
theorem rootAt_some {i : Nat} {δ : Dl} {d : D} (h : rootAt i δ = some d) : ∃ x, δ[i]? = some (some x) ∧ SV.root x = some d ∧ ∀ e, setRoot i e δ = δ.set i (some (x.re e)) := by
  unfold rootAt at h
  split at h
  · rename_i y hx
    cases h
    exact ⟨_, hx, rfl, fun e => by simp [setRoot, hx, SV.re]⟩
  · rename_i y hx
    cases h
    exact ⟨_, hx, rfl, fun e => by simp [setRoot, hx, SV.re]⟩
  · cases h
section
variable {K : PySem.W.Frag} {F : Fr} {G H : Hp} {σ : St} {δ : Dl}
theorem Sim.mutate (S : Sim K F G H σ δ) {i : Nat} {d e : D} {p : Addr} {o : HO} (h : rootAt i δ = some d) (hp : σ[i]? = some (some (V.ref p))) (r : Root K G (upd H p o) p e) : Sim K F G (upd H p o) σ (setRoot i e δ) := by
  obtain ⟨x, hx, hr, hs⟩ := rootAt_some h
  rw [hs]
  obtain ⟨q, a1, a2, a3⟩ := S.root hx hr
  rw [hp] at a1; cases a1
  have hl : i < δ.length := (List.getElem?_eq_some_iff.mp hx).1
  have back : ∀ {j : Nat} {y : SV}, (δ.set i (some (x.re e)))[j]? = some (some y) → (j ≠ i ∧ δ[j]? = some (some y)) ∨ (j = i ∧ y = x.re e) := fun {j y} h => by
    by_cases n : j = i
    · subst n
      rw [List.getElem?_set_self hl] at h
      cases h
      exact .inr ⟨rfl, rfl⟩
    · rw [List.getElem?_set_ne (Ne.symm n)] at h
      exact .inl ⟨n, h⟩
  have rootOf : ∀ {j : Nat} {y : SV} {f : D}, (δ.set i (some (x.re e)))[j]? = some (some y) → y.root = some f → ∃ y' f', δ[j]? = some (some y') ∧ SV.root y' = some f' := fun {j y f} h q => by
    rcases back h with ⟨_, h⟩ | ⟨rfl, _⟩
    · exact ⟨y, f, h, q⟩
    · exact ⟨x, d, hx, hr⟩
  have other : ∀ {j : Nat} {y : SV} {f : D} {q : Addr}, j ≠ i → δ[j]? = some (some y) → y.root = some f → σ[j]? = some (some (V.ref q)) → q ≠ p := fun {j y f q} n hy hf hq z => n (S.inj j i y x f d p hy hf hx hr (z ▸ hq) hp)
  refine ⟨by simpa using S.len, fun j f h => ?_, fun j f h => ?_, fun j f h => ?_, fun j k y z f1 f2 q h1 r1 h2 r2 h3 h4 => ?_, fun a u hu => ?_, S.new, fun a u hu hi => ?_, fun j a ha => ?_, S.g0⟩
  · rcases back h with ⟨_, h⟩ | ⟨rfl, hh⟩
    · exact S.fz j f h
    · cases x <;> cases hh
      cases hr
  · rcases back h with ⟨n, h⟩ | ⟨rfl, hh⟩
    · obtain ⟨q, a, b, c, g⟩ := S.own j f h
      exact ⟨q, a, b, c.mono (.refl _) (upd_ne (other n h rfl a)), g⟩
    · cases x with
      | fz _ => cases hr
      | own d0 =>
        cases hh
        obtain ⟨q, a, b, _, c⟩ := S.own j _ hx
        rw [hp] at a; cases a
        exact ⟨p, hp, b, r, c⟩
      | inp d0 => cases hh
  · rcases back h with ⟨n, h⟩ | ⟨rfl, hh⟩
    · obtain ⟨q, a, b, c, g⟩ := S.inp j f h
      exact ⟨q, a, b, c.mono (.refl _) (upd_ne (other n h rfl a)), g⟩
    · cases x with
      | fz _ => cases hr
      | own d0 => cases hh
      | inp d0 =>
        cases hh
        obtain ⟨q, a, b, _, c⟩ := S.inp j _ hx
        rw [hp] at a; cases a
        exact ⟨p, hp, b, r, c⟩
  · obtain ⟨y', f1', a1, b1⟩ := rootOf h1 r1
    obtain ⟨z', f2', a2, b2⟩ := rootOf h2 r2
    exact S.inj j k y' z' f1' f2' q a1 b1 a2 b2 h3 h4
  · have n : a ≠ p := fun z => by rw [z, a2] at hu; cases hu
    rw [upd_ne n]
    exact S.sub a u hu
  · have n : a ≠ p := fun z => by
      subst z
      cases x with
      | fz _ => cases hr
      | own _ =>
        obtain ⟨q, a, _, _, c⟩ := S.own i _ hx
        rw [hp] at a; cases a
        rw [hu] at c; cases c
      | inp _ =>
        obtain ⟨q, a, _, _, c⟩ := S.inp i _ hx
        rw [hp] at a; cases a
        exact hi i c
    rw [upd_ne n]
    exact S.fr a u hu hi
  · obtain ⟨⟨u, hu⟩, b, c⟩ := S.ioh j a ha
    refine ⟨?_, b, c⟩
    by_cases n : a = p
    · subst n; exact ⟨o, upd_same⟩
    · exact ⟨u, (upd_ne n).trans hu⟩
theorem mv_mutate (S : Sim K F G H σ δ) {i : Nat} {d e : D} {p : Addr} {o : HO} (h : rootAt i δ = some d) (hp : σ[i]? = some (some (V.ref p))) : Mv σ δ G H (setRoot i e δ) G (upd H p o) := by
  obtain ⟨x, hx, hr, hs⟩ := rootAt_some h
  rw [hs]
  have hl : i < δ.length := (List.getElem?_eq_some_iff.mp hx).1
  refine ⟨.refl _, fun a u hu hg ap => ⟨?_, hg, fun j y f hj r hq => ?_⟩, fun a ha => ?_⟩
  · rw [upd_ne (fun z => ap i x d hx hr (by rw [z]; exact hp))]
    exact hu
  · by_cases n : j = i
    · subst n
      exact ap j x d hx hr hq
    · rw [List.getElem?_set_ne (Ne.symm n)] at hj
      exact ap j y f hj r hq
  · by_cases n : a = p
    · subst n; rw [upd_same] at ha; cases ha
    · rw [upd_ne n] at ha; exact ha
theorem RepR.root {v : V} {i : Nat} {d : D} (S : Sim K F G H σ δ) (r : RepR K G σ v (.slot i)) (h : rootAt i δ = some d) : ∃ p, v = .ref p ∧ σ[i]? = some (some (V.ref p)) ∧ G p = none ∧ Root K G H p d := by
  obtain ⟨x, hx, hr, _⟩ := rootAt_some h
  obtain ⟨p, a1, a2, a3⟩ := S.root hx hr
  have h' : σ[i]? = some (some v) := r
  rw [a1] at h'
  cases h'
  exact ⟨p, rfl, a1, a2, a3⟩
end

/-! ### methods that change their list or dict -/
def rMut (K : PySem.W.Frag) (g : D → List D → Option (D × D)) : V → List V → Hp → VK → Prop := fun x xs H Q => ∃ G p d ds r d', x = .ref p ∧ Sub G H ∧ G p = none ∧ Root K G H p d ∧ RepL K G xs ds ∧ g d ds = some (r, d') ∧
  ∀ v o, Rep K G v r → Root K G (upd H p o) p d' → Q v (upd H p o)
def isL : D → Bool
  | .lst _ => true
  | _ => false
def isD : D → Bool
  | .dct _ _ => true
  | _ => false
def fMut (ty : D → Bool) (i : Nat) (g : D → List D → Option (D × D)) (fa : Fa) : Fn := fun δ => (rootAt i δ).bind fun d0 => if ty d0 = true then (fa δ).bind fun p => (rootAt i p.2).bind fun d => (g d p.1).map fun q => (.val q.1, setRoot i q.2 p.2) else none
section
variable {X : Cx} {e : Expr} {es : List Expr} {fa : Fa} {name x : Str} {apos cpos npos : Pos} {T id : String} {g : D → List D → Option (D × D)} {ty : D → Bool}
theorem mut_imp {K : PySem.W.Frag} {t : TA} {i : Nat} {σ : St} {H : Hp} {Q : VK} (hT : ∀ (G H : Hp) (p : Addr) (d : D), Root K G H p d → ty d = true → tyV K T (.ref p) H) (ht : ∀ σ H Q, tAr K fa σ H Q → t σ H Q) (h : tEn K (fMut ty i g fa) σ H Q) : tBM K T (rMut K g) (tVar i) t σ H Q := by
  obtain ⟨F, G, δ, o, δ', S, e, k⟩ := h
  obtain ⟨d0, e0, e⟩ := Option.bind_eq_some_iff.mp e
  split at e
  · rename_i hy
    obtain ⟨⟨ds, δ1⟩, e1, e⟩ := Option.bind_eq_some_iff.mp e
    obtain ⟨d, e2, e⟩ := Option.bind_eq_some_iff.mp e
    obtain ⟨⟨r, d'⟩, e3, e4⟩ := Option.map_eq_some_iff.mp e
    cases e4
    obtain ⟨x, hx, hr, _⟩ := rootAt_some e0
    obtain ⟨p, a1, a2, a3⟩ := S.root hx hr
    refine ⟨.ref p, a1, hT G H p d0 a3 hy, ht _ _ _ ⟨F, G, δ, ds, δ1, S, e1, fun vs H1 G1 S1 m1 r1 => ?_⟩⟩
    obtain ⟨y, hy', hr', _⟩ := rootAt_some e2
    obtain ⟨q, b1, b2, b3⟩ := S1.root hy' hr'
    rw [a1] at b1; cases b1
    refine ⟨G1, p, d, ds, r, d', rfl, S1.sub, b2, b3, r1, e3, fun v u rv ru => ?_⟩
    exact k v _ G1 (S1.mutate e2 a1 ru) (m1.trans (mv_mutate S1 e2 a1)) rv
  · cases e
theorem en_mut (hT : ∀ (G H : Hp) (p : Addr) (d : D), Root X.K G H p d → ty d = true → tyV X.K T (.ref p) H) (pa : PlainAttrs T) (slot : Slot T name id) (hty : typeOf (.builtin id) = pure (.type "method_descriptor")) (hm : MtR X id (rMut X.K g)) (i : Nat) (hN : X.N[i]? = some x) (hv : Vis X.env.scope x) (ha : Ar X (e :: es) fa)
    (hd : (x == ("__debug__" : Str)) = false := by decide) (hcd : (x == ("__classdict__" : Str)) = false := by decide)
    (hbase : attributeBase (.Name x npos) name X.env (eval (.Name x npos) X.env) = eval (.Name x npos) X.env := by rfl)
    (hfew : ((backTo cpos (starEach (e :: es) X.env)).all (fun x => !x.1) && (backToKw cpos (keywordEach [] X.env)).all (fun x => x.1.isSome)
      && decide ((e :: es).length + ([] : List Keyword).length + (if ([] : List Keyword).isEmpty then 0 else 1) < 30)) = true := by rfl)
    (hline : (apos.endLine == cpos.line) = true := by rfl) (hs : starEach (e :: es) X.env = (false, eval e X.env) :: starEach es X.env := by rfl) (hplain : (backTo cpos (starEach es X.env)).any (·.1) = false := by rfl) :
    En X (.Call (.Attribute (.Name x npos) name apos) (e :: es) [] cpos) (fMut ty i g fa) :=
  PE.imp (pe_bm pa slot hty hm (pe_var hN hv hd hcd) ha hbase hfew hline hs hplain) fun σ H Q h => mut_imp hT (fun _ _ _ q => q) h
theorem en_mut0 (hT : ∀ (G H : Hp) (p : Addr) (d : D), Root X.K G H p d → ty d = true → tyV X.K T (.ref p) H) (pa : PlainAttrs T) (slot : Slot T name id) (hty : typeOf (.builtin id) = pure (.type "method_descriptor")) (hm : MtR X id (rMut X.K g)) (i : Nat) (hN : X.N[i]? = some x) (hv : Vis X.env.scope x)
    (hd : (x == ("__debug__" : Str)) = false := by decide) (hcd : (x == ("__classdict__" : Str)) = false := by decide)
    (hbase : attributeBase (.Name x npos) name X.env (eval (.Name x npos) X.env) = eval (.Name x npos) X.env := by rfl) (hline : (apos.endLine == cpos.line) = true := by rfl) :
    En X (.Call (.Attribute (.Name x npos) name apos) [] [] cpos) (fMut ty i g fA0) :=
  PE.imp (pe_bm0 pa slot hty hm (pe_var hN hv hd hcd) hbase hline) fun σ H Q h => by
    obtain ⟨v, a, b, c⟩ := mut_imp (t := tNil) hT (fun σ H Q ⟨F, G, δ, o, δ', S, e, k⟩ => by cases e; exact k [] H G S .refl .nil) h
    exact ⟨v, a, b, c⟩
theorem tyL {K : PySem.W.Frag} (G H : Hp) (p : Addr) (d : D) (r : Root K G H p d) (h : isL d = true) : tyV K "list" (.ref p) H := by
  cases r with
  | lst a _ => exact .inl ⟨rfl, _, .inl (.inl a)⟩
  | _ => cases h
theorem tyD {K : PySem.W.Frag} (G H : Hp) (p : Addr) (d : D) (r : Root K G H p d) (h : isD d = true) : tyV K "dict" (.ref p) H := by
  cases r with
  | dK a _ => exact .inr (.inr (.inl ⟨rfl, .inl ⟨_, a⟩⟩))
  | dT a _ => exact .inr (.inr (.inl ⟨rfl, .inr ⟨_, a⟩⟩))
  | _ => cases h
/-! append, pop, insert -/
def gApp : D → List D → Option (D × D)
  | .lst xs, [y] => if xs.length < sizeLine then some (.non, .lst (xs ++ [y])) else none
  | _, _ => none
theorem mtT_append : MtR X "list.append" (rMut X.K gApp) := by
  intro pins s σ H x xs v us Q I rx rv ⟨G, p, d, ds, r, d', e1, sb, hg, rt, rl, hq, k⟩
  subst e1
  unfold gApp at hq
  split at hq
  · split at hq
    · cases hq
      rename_i hz
      cases rt with
      | lst a b =>
        cases rl with
        | cons h1 h2 =>
          cases h2
          exact mt_append pins s σ H _ _ v us Q I rx rv ⟨p, _, _, rfl, rfl, a, by rw [b.length]; exact hz, k _ _ .non (.lst upd_same (b.append (.cons h1 .nil)))⟩
    · cases hq
  · cases hq
def gPop : D → List D → Option (D × D)
  | .lst xs, [] => (xs[xs.length - 1]?).map fun y => (y, .lst xs.dropLast)
  | .lst xs, [.int i] => if -(2 ^ 63) ≤ i ∧ i < 2 ^ 63 then (seqIndex? i xs.length).bind fun k => (xs[k]?).map fun y => (y, .lst (xs.eraseIdx k)) else none
  | _, _ => none
theorem RepL.dropLast {K : PySem.W.Frag} {G : Hp} {vs : List V} {ds : List D} (r : RepL K G vs ds) : RepL K G vs.dropLast ds.dropLast := by
  rw [List.dropLast_eq_take, List.dropLast_eq_take, r.length]
  exact r.take _
theorem RepL.erase {K : PySem.W.Frag} {G : Hp} : ∀ {vs : List V} {ds : List D} (k : Nat), RepL K G vs ds → RepL K G (vs.eraseIdx k) (ds.eraseIdx k)
  | _, _, _, .nil => .nil
  | _, _, 0, .cons _ r => r
  | _, _, k + 1, .cons h r => .cons h (RepL.erase k r)
theorem mtT_pop : MtR X "list.pop" (rMut X.K gPop) := by
  intro pins s σ H x xs v us Q I rx rv ⟨G, p, d, ds, r, d', e1, sb, hg, rt, rl, hq, k⟩
  subst e1
  unfold gPop at hq
  split at hq
  · obtain ⟨y, h1, h2⟩ := Option.map_eq_some_iff.mp hq
    cases h2
    cases rl
    cases rt with
    | lst a b =>
      obtain ⟨w, h3, h4⟩ := b.get h1
      exact mt_pop pins s σ H _ _ v us Q I rx rv ⟨p, _, w, rfl, rfl, a, by rw [b.length]; exact h3, k w _ h4 (.lst upd_same b.dropLast)⟩
  · split at hq
    · rename_i hz
      obtain ⟨j, h0, hq⟩ := Option.bind_eq_some_iff.mp hq
      obtain ⟨y, h1, h2⟩ := Option.map_eq_some_iff.mp hq
      cases h2
      cases rl with
      | cons g1 g2 =>
        cases g2
        cases g1
        cases rt with
        | lst a b =>
          obtain ⟨w, h3, h4⟩ := b.get h1
          exact mt_popAt pins s σ H _ _ v us Q I rx rv ⟨p, _, _, j, w, rfl, rfl, a, hz.1, hz.2, by rw [b.length]; exact h0, h3, k w _ h4 (.lst upd_same (b.erase j))⟩
    · cases hq
  · cases hq
def gIns : D → List D → Option (D × D)
  | .lst xs, [.int i, y] => if xs.length < sizeLine ∧ 0 ≤ i ∧ i < 2 ^ 63 then some (.non, .lst (xs.take i.toNat ++ [y] ++ xs.drop i.toNat)) else none
  | _, _ => none
theorem mtT_insert : MtR X "list.insert" (rMut X.K gIns) := by
  intro pins s σ H x xs v us Q I rx rv ⟨G, p, d, ds, r, d', e1, sb, hg, rt, rl, hq, k⟩
  subst e1
  unfold gIns at hq
  split at hq
  · split at hq
    · cases hq
      rename_i hz
      cases rt with
      | lst a b =>
        cases rl with
        | cons h1 h2 =>
          cases h1
          cases h2 with
          | cons h3 h4 =>
            cases h4
            exact mt_insert pins s σ H _ _ v us Q I rx rv ⟨p, _, _, _, rfl, rfl, a, by rw [b.length]; exact hz.1, hz.2.1, hz.2.2, k _ _ .non (.lst upd_same (((b.take _).append (.cons h3 .nil)).append (b.drop _)))⟩
    · cases hq
  · cases hq
def gExt : D → List D → Option (D × D)
  | .lst xs, [.lst ys] => if xs.length + ys.length ≤ sizeLine then some (.non, .lst (xs ++ ys)) else none
  | _, _ => none

/-! ### x[i] = e, x[i] op= e -/
/-- an item stored -/
def dSto : D → D → D → Option D
  | .lst xs, .int i, v => (ixN xs.length i).map fun j => .lst (xs.set j v)
  | .dct t kvs, y, v => if isKey t y = true ∧ kvs.length < sizeLine then some (.dct t (kvPut kvs y v)) else none
  | _, _, _ => none
def rStoT (K : PySem.W.Frag) : V → V → V → Hp → (Hp → Prop) → Prop := fun o i v H Q => ∃ G p d y w d', o = .ref p ∧ Sub G H ∧ G p = none ∧ Root K G H p d ∧ RepK K G H i y ∧ Rep K G v w ∧ dSto d y w = some d' ∧ ∀ u, Root K G (upd H p u) p d' → Q (upd H p u)
theorem stoT (hu : X.A.units + 64 < cLine) : PSet X (rStoT X.K) := by
  intro pins s σ H o i v ov iv u Q I ro ri rv ⟨G, p, d, y, w, d', e1, sb, hg, rt, ry, rw', hq, k⟩
  subst e1
  unfold dSto at hq
  split at hq
  · obtain ⟨j, h1, h2⟩ := Option.map_eq_some_iff.mp hq
    cases h2
    cases rt with
    | lst a b => exact set_list pins s σ H _ i v ov iv u Q I ro ri rv ⟨p, _, _, j, rfl, ry.int, a, by rw [b.length]; exact h1, k _ (.lst upd_same (RepL.set rw' j b))⟩
  · split at hq
    · rename_i t kvs hz
      cases hq
      cases ro
      cases t with
      | false =>
        obtain ⟨key, rfl⟩ := isKey1_kD (show isKey1 y = true by simpa [isKey] using hz.1)
        cases rt with
        | dK a b =>
          cases ry.kV
          exact d_setItem (by omega) I (.inl ⟨_, key, a, rfl, by rw [b.length]; exact hz.2, rfl⟩) ri rv fun s' I' => ⟨_, I', k _ (.dK upd_same (b.put rw'))⟩
      | true =>
        obtain ⟨ks, rfl⟩ := isKey_T hz.1
        cases rt with
        | dT a b =>
          obtain ⟨q, vs, rfl, h3, h4⟩ := ry.tup sb
          rw [h4.kVs] at h3
          exact d_setItem (by omega) I (.inr ⟨_, ks, q, a, rfl, h3, by rw [b.length]; exact hz.2, rfl⟩) ri rv fun s' I' => ⟨_, I', k _ (.dT upd_same (b.put rw'))⟩
    · cases hq
  · cases hq
def sSto (i : Nat) (fi : Fe) (f : Fe) : Fs := fun δ => (f δ).bind fun p => (esc p.1 p.2).bind fun q => (rootAt i q.2).bind fun _ => (fi q.2).bind fun r => (peek r.1 r.2).bind fun y => (rootAt i r.2).bind fun d => (dSto d y q.1).map fun d' => (.next, setRoot i d' r.2)
theorem sm_sto (hu : X.A.units + 64 < cLine) {ix : Expr} {pos pos' : Pos} {i : Nat} {fi f : Fe} (hN : X.N[i]? = some x) (hv : Vis X.env.scope x) (hi : Ev X ix fi) (h : Ev X e f)
    (hd : (x == ("__debug__" : Str)) = false := by decide) (hcd : (x == ("__classdict__" : Str)) = false := by decide)
    (ha : ∀ v, assign (.Subscript (.Name x npos) ix pos') X.env v = (do
      let ov ← holding [v] (eval (.Name x npos) X.env)
      let iv ← holding [v, ov] (eval ix X.env)
      standAt pos'
      holding [v, ov, iv] (setItem ov iv v)
      release [v, ov, iv] []) := by intro _; rfl)
    (hs : swapsWithSole [.Subscript (.Name x npos) ix pos'] e pos.line X.env = pure false := by rfl) (hw : swappedStores [.Subscript (.Name x npos) ix pos'] e X.env = pure none := by rfl)
    (h1 : (assignEach [.Subscript (.Name x npos) ix pos'] X.env).map (·.2) = [assign (.Subscript (.Name x npos) ix pos') X.env] := by rfl) :
    Sm X (.Assign [.Subscript (.Name x npos) ix pos'] e pos) (sSto i fi f) := PS.imp (ps_asg h (pg_sub (pe_var hN hv hd hcd) hi (stoT hu) ha) hs hw h1) fun D σ H ⟨F, G, δ, fl, δ', S, e, k⟩ => by
  obtain ⟨⟨r, δ1⟩, e1, e⟩ := Option.bind_eq_some_iff.mp e
  obtain ⟨⟨w, δ2⟩, e2, e⟩ := Option.bind_eq_some_iff.mp e
  obtain ⟨d0, e3, e⟩ := Option.bind_eq_some_iff.mp e
  obtain ⟨⟨ri, δ3⟩, e4, e⟩ := Option.bind_eq_some_iff.mp e
  obtain ⟨y, e5, e⟩ := Option.bind_eq_some_iff.mp e
  obtain ⟨d, e6, e⟩ := Option.bind_eq_some_iff.mp e
  obtain ⟨d', e7, e8⟩ := Option.map_eq_some_iff.mp e
  cases e8
  refine ⟨F, G, δ, r, δ1, S, e1, fun v1 H1 G1 S1 m1 r1 => ?_⟩
  obtain ⟨G2, S2, m2, r2⟩ := S1.esc r1 e2
  obtain ⟨x0, hx0, hr0, _⟩ := rootAt_some e3
  obtain ⟨p, a1, a2, a3⟩ := S2.root hx0 hr0
  refine ⟨.ref p, a1, F, G2, δ2, ri, δ3, S2, e4, fun v3 H3 G3 S3 m3 r3 => ?_⟩
  obtain ⟨y0, hy0, hs0, _⟩ := rootAt_some e6
  obtain ⟨q, b1, b2, b3⟩ := S3.root hy0 hs0
  rw [a1] at b1; cases b1
  refine ⟨G3, p, d, y, w, d', rfl, S3.sub, b2, b3, S3.peek r3 e5, r2.mono m3.le, e7, fun u ru => ?_⟩
  exact k σ _ G3 (S3.mutate e6 a1 ru) (m1.le.trans (m2.le.trans m3.le))
def dIxL : D → D → Option OV
  | .lst xs, .int i => (atI xs i).map .val
  | _, _ => none
theorem getT : PGet X (rT X.K dIxL) := by
  intro pins s σ H x y v u Q I rx ry ⟨G, d, e, o, sb, rd, re, hq, k⟩
  unfold dIxL at hq
  split at hq
  · rename_i xs i
    obtain ⟨z, h1, e1⟩ := Option.map_eq_some_iff.mp hq
    cases e1
    obtain ⟨a, vs, rfl, h2, h3⟩ := rd.lst sb
    cases re.int
    obtain ⟨w, h4, h5⟩ := h3.atI h1
    cases rx
    obtain ⟨t, rfl⟩ := ry
    obtain ⟨its, r, pl, hz⟩ := I.list (.inl h2)
    obtain ⟨j, g1, g2, g3, g4, g5⟩ := atI_get h4
    obtain ⟨w', ew, rw'⟩ := r.get g2
    have hl := r.length
    have hn := line63
    have fin : EP X pins σ Q w' s := ⟨w, H, I, rw', k.val sb h5⟩
    by_cases h0 : 0 ≤ i
    · have hj : i.toNat = j := by
        rw [seqIndex_of h0 g5] at g1
        exact Option.some.inj g1
      exact wpAny_getItem_list pl.isList h0 (by omega) (by rw [hj]; simpa using ew) fin
    · have hj : (i + (its.toArray.size : Int)).toNat = j := by
        rw [seqIndex_neg (by omega) g4] at g1
        rw [List.size_toArray, ← hl]
        exact Option.some.inj g1
      exact wpAny_getItem_list_neg pl.isList (by omega) (by rw [List.size_toArray] <;> omega) (by omega) (by rw [hj]; simpa using ew) fin
  · cases hq
/-- x[i] op= e -/
def sAugS (i : Nat) (fi : Fe) (g : D → D → Option OV) (f : Fe) : Fs := fun δ => (rootAt i δ).bind fun _ => (fi δ).bind fun p => (peek p.1 p.2).bind fun y => (rootAt i p.2).bind fun d1 => match dIxL d1 y with
  | some (.val x) => (f p.2).bind fun q => (peek q.1 q.2).bind fun z => match g x z with
    | some (.val w) => (peek p.1 q.2).bind fun y' => (rootAt i q.2).bind fun d => (dSto d y' w).map fun d' => (.next, setRoot i d' q.2)
    | _ => none
  | _ => none
theorem sm_augS (hu : X.A.units + 64 < cLine) {ix : Expr} {pos pos' : Pos} {i : Nat} {fi f : Fe} {op : Operator} {go : D → D → Option OV} (ho : OpT X (inplaceOp op) go) (hN : X.N[i]? = some x) (hv : Vis X.env.scope x) (hi : Ev X ix fi) (h : Ev X e f)
    (hd : (x == ("__debug__" : Str)) = false := by decide) (hcd : (x == ("__classdict__" : Str)) = false := by decide)
    (ha : ∀ ov iv new, augStore ix ov iv new = (do holding [new, ov, iv] (setItem ov iv new); release [new, ov, iv] []; pure .next) := by intros; rfl) :
    Sm X (.AugAssign (.Subscript (.Name x npos) ix pos') op e pos) (sAugS i fi go f) := PS.imp (ps_augS (pe_var hN hv hd hcd) hi getT h (ipT ho) (stoT hu) ha) fun D σ H ⟨F, G, δ, fl, δ', S, e, k⟩ => by
  obtain ⟨d0, e1, e⟩ := Option.bind_eq_some_iff.mp e
  obtain ⟨⟨ri, δ1⟩, e2, e⟩ := Option.bind_eq_some_iff.mp e
  obtain ⟨y, e3, e⟩ := Option.bind_eq_some_iff.mp e
  obtain ⟨d1, e4, e⟩ := Option.bind_eq_some_iff.mp e
  obtain ⟨x0, hx0, hr0, _⟩ := rootAt_some e1
  obtain ⟨p, a1, a2, a3⟩ := S.root hx0 hr0
  refine ⟨.ref p, a1, F, G, δ, ri, δ1, S, e2, fun v1 H1 G1 S1 m1 r1 => ?_⟩
  obtain ⟨x1, hx1, hr1, _⟩ := rootAt_some e4
  obtain ⟨q, b1, b2, b3⟩ := S1.root hx1 hr1
  rw [a1] at b1; cases b1
  split at e
  · rename_i xv hg
    obtain ⟨⟨rq, δ2⟩, e5, e⟩ := Option.bind_eq_some_iff.mp e
    obtain ⟨z, e6, e⟩ := Option.bind_eq_some_iff.mp e
    split at e
    · rename_i wv hw
      obtain ⟨y', e7, e⟩ := Option.bind_eq_some_iff.mp e
      obtain ⟨d, e8, e⟩ := Option.bind_eq_some_iff.mp e
      obtain ⟨d', e9, e10⟩ := Option.map_eq_some_iff.mp e
      cases e10
      refine ⟨G1, d1, y, _, S1.sub, .inr ⟨p, rfl, b3⟩, S1.peek r1 e3, hg, fun x3 H3 G3 E3 r3 => ?_⟩
      have S3 := S1.ext E3
      refine ⟨F, G3, δ1, rq, δ2, S3, e5, fun v4 H4 G4 S4 m4 r4 => ?_⟩
      refine ⟨G4, xv, z, _, S4.sub, .inl (Rep.mono m4.le r3), S4.peek r4 e6, hw, fun x5 H5 G5 E5 r5 => ?_⟩
      have S5 := S4.ext E5
      obtain ⟨x2, hx2, hr2, _⟩ := rootAt_some e8
      obtain ⟨q, c1, c2, c3⟩ := S5.root hx2 hr2
      rw [a1] at c1; cases c1
      have rp : RepR X.K G5 σ v1 ri := r1.mono (E3.gg.le.trans (m4.le.trans E5.gg.le))
      refine ⟨G5, p, d, y', wv, d', rfl, S5.sub, c2, c3, S5.peek rp e7, r5, e9, fun u ru => ?_⟩
      exact k σ _ G5 (S5.mutate e8 a1 ru) (m1.le.trans (E3.gg.le.trans (m4.le.trans E5.gg.le)))
    · cases e
  · cases e

/-! ### fields -/
/-- o.f -/
def fFld (C : Addr) (f : Str) (fo : Fe) : Fe := fun δ => (fo δ).bind fun p => match peek p.1 p.2 with
  | some (.obj C' fs) => if C' = C then (fs.lookup f).map fun d => (.val d, p.2) else none
  | _ => none
theorem ev_fld {C : Addr} {f : Str} {o : Expr} {fo : Fe} {pos : Pos} (c : Cls X.K C) (n : NoAttr X.K C f) (ho : Ev X o fo) (hb : attributeBase o f X.env (eval o X.env) = eval o X.env := by rfl) : Ev X (.Attribute o f pos) (fFld C f fo) :=
  PE.imp (pe_fld ho hb) fun σ H Q ⟨F, G, δ, o, δ', S, e, k⟩ => by
    obtain ⟨⟨r, δ1⟩, e1, ee⟩ := Option.bind_eq_some_iff.mp e
    refine ⟨F, G, δ, r, δ1, S, e1, fun v1 H1 G1 S1 m1 r1 => ?_⟩
    dsimp only at ee
    split at ee
    · rename_i C' fs hp
      split at ee
      · rename_i hC
        obtain ⟨d, e2, e3⟩ := Option.map_eq_some_iff.mp ee
        cases e3
        cases hC
        obtain ⟨a, dx, vs, rfl, h1, h2⟩ := (S1.peek r1 hp).obj S1.sub
        have := h2.lookup (m := f)
        rw [e2] at this
        cases q : vs.lookup f with
        | none => rw [q] at this; exact this.elim
        | some w =>
          rw [q] at this
          exact ⟨a, _, dx, vs, w, rfl, h1, c, n, q, k w H1 G1 S1 m1 this⟩
      · cases ee
    · cases ee
def putFD (f : Str) (d : D) : List (Str × D) → List (Str × D)
  | [] => [(f, d)]
  | (g, x) :: r => if g = f then (g, d) :: r else (g, x) :: putFD f d r
theorem RepF.put {K : PySem.W.Frag} {G : Hp} {f : Str} {v : V} {d : D} (h : Rep K G v d) : ∀ {vs : List (Str × V)} {ds : List (Str × D)}, RepF K G vs ds → RepF K G (putF f v vs) (putFD f d ds)
  | _, _, .nil => .cons h .nil
  | (g, w) :: vs, _, .cons a r => by
    simp only [putF, putFD]
    split
    · exact .cons h r
    · exact .cons a (RepF.put h r)
theorem RepF.length {K : PySem.W.Frag} {G : Hp} : ∀ {vs : List (Str × V)} {ds : List (Str × D)}, RepF K G vs ds → vs.length = ds.length
  | _, _, .nil => rfl
  | _, _, .cons _ r => by simp [r.length]
/-- self.f = e -/
def sFldSet (C : Addr) (f : Str) (i : Nat) (fe : Fe) : Fs := fun δ => (fe δ).bind fun p => (esc p.1 p.2).bind fun q => match rootAt i q.2 with
  | some (.obj C' fs) => if C' = C ∧ fs.length < 1000 then some (.next, setRoot i (.obj C (putFD f q.1 fs)) q.2) else none
  | _ => none
theorem sm_fld {C : Addr} {f : Str} {fe : Fe} {pos pos' : Pos} (i : Nat) (c : Cls X.K C) (n : NoAttr X.K C f) (hN : X.N[i]? = some x) (hv : Vis X.env.scope x) (h : Ev X e fe)
    (hs : swapsWith e (some (.Attribute (.Name x npos) f pos')) pos.line X.env = pure false := by rfl) (hd : (x == ("__debug__" : Str)) = false := by decide) (hcd : (x == ("__classdict__" : Str)) = false := by decide) :
    Sm X (.Assign [.Attribute (.Name x npos) f pos'] e pos) (sFldSet C f i fe) := PS.imp (ps_fld (pe_var hN hv hd hcd) h hs) fun D σ H ⟨F, G, δ, fl, δ', S, e, k⟩ => by
  obtain ⟨⟨r, δ1⟩, e1, e⟩ := Option.bind_eq_some_iff.mp e
  obtain ⟨⟨d, δ2⟩, e2, e⟩ := Option.bind_eq_some_iff.mp e
  refine ⟨F, G, δ, r, δ1, S, e1, fun v1 H1 G1 S1 m1 r1 => ?_⟩
  obtain ⟨G2, S2, m2, r2⟩ := S1.esc r1 e2
  dsimp only at e
  split at e
  · rename_i C' fs hr
    split at e
    · rename_i hc
      obtain ⟨rfl, hl⟩ := hc
      cases e
      obtain ⟨x0, hx0, hr0, _⟩ := rootAt_some hr
      obtain ⟨p, a1, a2, a3⟩ := S2.root hx0 hr0
      cases a3 with
      | obj g1 g2 =>
        refine ⟨.ref p, a1, p, _, _, _, rfl, g1, c, n, by rw [g2.length]; exact hl, ?_⟩
        exact k σ _ G2 (S2.mutate hr a1 (.obj upd_same (g2.put r2))) (m1.le.trans m2.le)
    · cases e
  · cases e
/-- C(..): a new instance, then its __init__ -/
theorem After.none {K : PySem.W.Frag} {G H G' H' : Hp} {ps : List Addr} {outs : List D} (A : After K G H ps outs G' H') {p : Addr} {o : HO} (hg : G p = none) (ho : H p = some o) : G' p = none := by
  cases q : G' p with
  | none => rfl
  | some u =>
    rcases A.new p u q with z | z
    · exact absurd hg z
    · rw [ho] at z; cases z
/-- behind a call that is handed objects that no slot holds -/
theorem Sim.after_apart {K : PySem.W.Frag} {F : Fr} {G H G' H' : Hp} {σ : St} {δ : Dl} (S : Sim K F G H σ δ) {ps : List Addr} {outs : List D} (A : After K G H ps outs G' H') (hp : ∀ p, p ∈ ps → Apart σ δ p ∧ F.H0 p = none) : Sim K F G' H' σ δ := by
  have keep : ∀ {p : Addr} {d : D}, G p = none → Root K G H p d → p ∉ ps → G' p = none ∧ Root K G' H' p d := fun {p d} hg r hn => by
    obtain ⟨o, ho⟩ := r.there
    refine ⟨A.none hg ho, ?_⟩
    rcases A.fr p o ho hn with z | ⟨_, z, _⟩
    · exact r.mono A.le (z.trans ho.symm)
    · rw [hg] at z; cases z
  refine ⟨S.len, fun j d hd => ?_, fun j d hd => ?_, fun j d hd => ?_, S.inj, A.sub, fun a o ha => ?_, fun a o ha hi => ?_, fun i a ha => ?_, S.g0⟩
  · obtain ⟨v, a, b⟩ := S.fz j d hd
    exact ⟨v, a, b.mono A.le⟩
  · obtain ⟨p, a, b, c, e⟩ := S.own j d hd
    obtain ⟨b', c'⟩ := keep b c (fun hm => (hp p hm).1 j _ d hd rfl a)
    exact ⟨p, a, b', c', e⟩
  · obtain ⟨p, a, b, c, e⟩ := S.inp j d hd
    obtain ⟨b', c'⟩ := keep b c (fun hm => (hp p hm).1 j _ d hd rfl a)
    exact ⟨p, a, b', c', e⟩
  · rcases A.new a o ha with z | z
    · cases q : G a with
      | none => exact absurd q z
      | some u => exact S.new a u q
    · exact .inr (S.fresh z)
  · have hn : a ∉ ps := fun hm => by rw [(hp a hm).2] at ha; cases ha
    rcases S.fr a o ha hi with z | ⟨z1, z2, od, z3⟩
    · rcases A.fr a o z hn with y | ⟨y1, y2, od, y3⟩
      · exact .inl y
      · refine .inr ⟨y1, ?_, od, y3⟩
        rcases S.new a o y2 with w | w
        · cases q : F.G0 a with
          | none => exact absurd q w
          | some u =>
            have := S.g0 a u q
            rw [ha] at this
            cases this
            rfl
        · rw [ha] at w; cases w
    · rcases A.fr a _ z3 hn with y | ⟨y1, _⟩
      · exact .inr ⟨z1, z2, od, y⟩
      · exact absurd y1 (fun q => q)
  · obtain ⟨⟨o, ho⟩, hg, h0⟩ := S.ioh i a ha
    refine ⟨?_, A.none hg ho, h0⟩
    rcases A.fr a o ho (fun hm => h0 (hp a hm).2) with z | ⟨_, z, _⟩
    · exact ⟨o, z⟩
    · rw [hg] at z; cases z
def fMake (C : Addr) (Fd : Fm) (fa : Fa) (ds : List D) : Fn := fun δ => (fa δ).bind fun p => match Fd (.inp (.obj C []) :: (p.1.map .fz ++ ds.map .fz)) with
  | some (.val .non, [d]) => some (.new d, p.2)
  | _ => none
theorem ArgR.fzs {K : PySem.W.Frag} {G H : Hp} : ∀ {vs : List V} {ds : List D}, RepL K G vs ds → ArgR K G H vs (ds.map .fz) []
  | _, _, .nil => .nil
  | _, _, .cons h r => .fz h (ArgR.fzs r)
theorem en_make {k j : Nat} {C : Addr} {Fd : Fm} {ds : List D} {p pos : Pos} (c : Mak X.prog X.w X.K X.mg X.base k x C Fd ds) (hr : Room j X.A) (hk : k + 1 ≤ j) (hg : Gl X x) (ha : Ar X (e :: es) fa)
    (hdb : (x == ("__debug__" : Str)) = false := by decide) (he : starEach (e :: es) X.env = (false, eval e X.env) :: starEach es X.env := by rfl) (hpl : (backTo pos (starEach es X.env)).any (·.1) = false := by rfl) :
    En X (.Call (.Name x p) (e :: es) [] pos) (fMake C Fd fa ds) := by
  obtain ⟨f, fd, ps, us, dvs, M, F, hm, b, d, hd⟩ := c.ex
  refine PE.imp (pe_make M F (hr.mono hk) hg hm b d pass0 ha hdb he hpl) fun σ H Q ⟨F, G, δ, o, δ', S, e, k⟩ => ?_
  obtain ⟨⟨as, δ1⟩, e1, e⟩ := Option.bind_eq_some_iff.mp e
  dsimp only at e
  split at e
  · rename_i dd hF
    cases e
    refine ⟨F, G, δ, as, _, S, e1, fun vs H1 G1 S1 m1 r1 q dx hq hdx ne => ?_⟩
    -- the instance's own dict, then the instance
    have E1 : Ext G1 H1 G1 (upd H1 dx (.own q)) := .own S1.sub hdx
    have hq2 : upd H1 dx (.own q) q = none := (upd_ne (Ne.symm ne)).trans hq
    have E2 : Ext G1 (upd H1 dx (.own q)) G1 (upd (upd H1 dx (.own q)) q (.ins C dx [])) := .own E1.gh hq2
    have E := E1.trans E2
    have gq : G1 q = none := none_of_sub S1.sub hq
    refine ⟨G1, _, [q], _, [dd], E.gh, .inp gq (.obj upd_same .nil) ((ArgR.fzs r1).append hd), by simp, hF, fun v H' G' A rp => ⟨Rep.non_inv (K := X.K) (G := G') rp, ?_⟩⟩
    have S2 := S1.ext E
    have old : ∀ a, H1 a ≠ none → a ≠ q := fun a h z => h (z ▸ hq)
    have ap : Apart σ δ' q := fun i y f hy r hs => by
      obtain ⟨p', a1, a2, a3⟩ := S1.root hy r
      rw [hs] at a1; cases a1
      obtain ⟨u, hu⟩ := a3.there
      rw [hq] at hu; cases hu
    have S' := S2.after_apart A fun p' hp' => by
      have z : p' = q := by simpa using hp'
      subst z
      exact ⟨ap, S1.fresh hq⟩
    cases A.out with
    | cons rt rn =>
      cases rn
      have gq' : G' q = none := A.none gq upd_same
      have mv : Mv σ δ' G1 H1 δ' G' H' := by
        refine ⟨A.le, fun a u hu gu au => ⟨?_, A.none gu (E.hh a u hu), au⟩, fun a ha => ?_⟩
        · rcases A.fr a u (E.hh a u hu) (by simpa using old a (by rw [hu]; exact fun z => nomatch z)) with z | ⟨_, z, _⟩
          · exact z
          · rw [gu] at z; cases z
        · cases z : H1 a with
          | none => rfl
          | some u =>
            rcases A.fr a u (E.hh a u z) (by simpa using old a (by rw [z]; exact fun z => nomatch z)) with y | ⟨_, _, od, y⟩
            · rw [ha] at y; cases y
            · rw [ha] at y; cases y
      exact k _ H' G' S' (m1.trans mv) ⟨q, rfl, gq', rt, m1.dom q hq, ap⟩
  · cases e
end
end L2.Tl

set_option Elab.async false
set_option linter.all false
set_option autoImplicit false
set_option maxRecDepth 100000
namespace L2.Tl
open PySem PySem.Spec PyProof.Rows

/-! ### targets -/
inductive Tg where
  | nm (i : Nat) | tp (is : List Nat)
def tgSet : Tg → D → Dl → Option Dl
  | .nm i, d, δ => some (δ.set i (some (.fz d)))
  | .tp is, .tup ds, δ => setAll is (ds.map .val) δ
  | .tp _, _, _ => none
def Tg.ix : Tg → List Nat
  | .nm i => [i]
  | .tp is => is
def tgG (K : PySem.W.Frag) : Tg → TG
  | .nm i => gName i
  | .tp is => gTup K is.length (gSets is)
theorem wipe_in {j : Nat} : ∀ (ws : List Nat) (τ : St), j ∈ ws → (wipe τ ws)[j]? = if j < τ.length then some none else none
  | [], _, z => by simp at z
  | w :: ws, τ, z => by
    show ((wipe τ ws).set w none)[j]? = _
    by_cases q : j = w
    · subst q
      by_cases hl : j < τ.length
      · rw [List.getElem?_set_self (by rw [wipe_length]; exact hl), if_pos hl]
      · rw [List.getElem?_eq_none (by simp [wipe_length]; omega), if_neg hl]
    · rw [List.getElem?_set_ne (Ne.symm q)]
      exact wipe_in ws τ (by simpa [q] using z)
theorem wipe_wipe (σ : St) (vs : List Nat) : wipe (wipe σ vs) vs = wipe σ vs := List.ext_getElem? fun j => by
  by_cases h : j ∈ vs
  · rw [wipe_in _ _ h, wipe_in _ _ h, wipe_length]
  · rw [wipe_out h]
theorem wipe_set {σ : St} {i : Nat} {x : Option V} : ∀ {vs : List Nat}, i ∈ vs → wipe (σ.set i x) vs = wipe σ vs
  | [], h => by simp at h
  | v :: vs, h => by
    show (wipe (σ.set i x) vs).set v none = (wipe σ vs).set v none
    by_cases hi : i ∈ vs
    · rw [wipe_set hi]
    · have e : i = v := by simpa [hi] using h
      subst e
      refine List.ext_getElem? fun j => ?_
      by_cases n : j = i
      · subst n
        by_cases hl : j < σ.length
        · rw [List.getElem?_set_self (by rw [wipe_length]; simpa using hl), List.getElem?_set_self (by rw [wipe_length]; exact hl)]
        · rw [List.getElem?_eq_none (by simp [wipe_length]; omega), List.getElem?_eq_none (by simp [wipe_length]; omega)]
      · rw [List.getElem?_set_ne (Ne.symm n), List.getElem?_set_ne (Ne.symm n)]
        by_cases hj : j ∈ vs
        · have key : ∀ (τ : St) (ws : List Nat), j ∈ ws → (wipe τ ws)[j]? = if j < τ.length then some none else none := fun τ ws => by
            induction ws with
            | nil => intro z; simp at z
            | cons w ws ih =>
              intro z
              show ((wipe τ ws).set w none)[j]? = _
              by_cases q : j = w
              · subst q
                by_cases hl : j < τ.length
                · rw [List.getElem?_set_self (by rw [wipe_length]; exact hl), if_pos hl]
                · rw [List.getElem?_eq_none (by simp [wipe_length]; omega), if_neg hl]
              · rw [List.getElem?_set_ne (Ne.symm q)]
                exact ih (by simpa [q] using z)
          rw [key _ _ hj, key _ _ hj]
          simp
        · rw [wipe_out hj, wipe_out hj, List.getElem?_set_ne (Ne.symm n)]
theorem wipe_setVs {vs : List Nat} : ∀ {is : List Nat} {xs : List V} {σ : St}, (∀ i ∈ is, i ∈ vs) → wipe (setVs is xs σ) vs = wipe σ vs
  | [], [], _, _ => rfl
  | [], _ :: _, _, _ => rfl
  | _ :: _, [], _, _ => rfl
  | i :: is, x :: xs, σ, h => by
    show wipe (setVs is xs (σ.set i (some x))) vs = _
    rw [wipe_setVs (fun j hj => h j (List.mem_cons_of_mem _ hj)), wipe_set (h i List.mem_cons_self)]
theorem apart_setAll {p : Addr} : ∀ {is : List Nat} {vs : List V} {ds : List D} {σ : St} {δ δ' : Dl}, σ.length = δ.length → vs.length = ds.length → setAll is (ds.map .val) δ = some δ' → Apart σ δ p → Apart (setVs is vs σ) δ' p
  | [], [], [], _, _, _, _, _, e, h => by cases e; exact h
  | [], _, _ :: _, _, _, _, _, _, e, _ => nomatch e
  | _ :: _, _, [], _, _, _, _, _, e, _ => nomatch e
  | [], _ :: _, [], _, _, _, _, l, _, _ => nomatch l
  | _ :: _, [], _ :: _, _, _, _, _, l, _, _ => nomatch l
  | i :: is, v :: vs, d :: ds, σ, δ, δ', hl, l, e, h => apart_setAll (is := is) (σ := σ.set i (some v)) (δ := δ.set i (some (.fz d))) (by simpa using hl) (by simpa using l) e (h.set (x := .fz d) i hl fun _ z => nomatch z)
theorem tg_of {K : PySem.W.Frag} {t : Tg} {x : V} {d : D} {F : Fr} {G H : Hp} {σ : St} {δ δ' : Dl} {Q : St → Hp → Prop} (S : Sim K F G H σ δ) (r : Rep K G x d) (e : tgSet t d δ = some δ')
    (k : ∀ σ', Sim K F G H σ' δ' → (∀ vs : List Nat, (∀ i ∈ t.ix, i ∈ vs) → wipe σ' vs = wipe σ vs) → (∀ p, Apart σ δ p → Apart σ' δ' p) → Q σ' H) : tgG K t x σ H Q := by
  cases t with
  | nm i =>
    cases e
    exact k _ (S.set r i) (fun vs h => wipe_set (h i (by simp [Tg.ix]))) fun p ap => ap.set (x := .fz d) i S.len fun _ z => nomatch z
  | tp is =>
    cases d with
    | tup ds =>
      have e' : setAll is (ds.map .val) δ = some δ' := e
      obtain ⟨a, vs, rfl, h1, h2⟩ := RepK.tup (.inl r) S.sub
      have hl := setAll_length e'
      rw [List.length_map] at hl
      exact ⟨a, vs, rfl, SqT.of h1, by rw [h2.length, ← hl], gSets_of (by rw [h2.length, hl]) (k _ (Sim.setAll (Z := H) (fun a h => S.fresh h) S (RepOs.vals h2) e') (fun ws h => wipe_setVs h) fun p ap => apart_setAll S.len h2.length e' ap)⟩
    | _ => cases e

/-! ### walks -/
structure Yl (K : PySem.W.Frag) (J : It) (G : Hp) (ds : List D) : Prop where
  goes : ∀ i G' H', i < ds.length → Le G G' → Sub G' H' → J.go i H'
  stops : ∀ G' H', Le G G' → Sub G' H' → J.stop ds.length H'
  ylds : ∀ i G' H' x H2, i < ds.length → Le G G' → Sub G' H' → J.yld i H' x H2 → ∃ d G2, ds[i]? = some d ∧ Ext G' H' G2 H2 ∧ Rep K G2 x d
abbrev Fi := Dl → Option (List D × Dl)
def tIt (K : PySem.W.Frag) (f : Fi) : TI := fun σ H R => ∃ F G δ ds δ', Sim K F G H σ δ ∧ f δ = some (ds, δ') ∧ ∀ J H' G', Sim K F G' H' σ δ' → Mv σ δ G H δ' G' H' → Yl K J G' ds → R J H'
/-- what a loop walks -/
def Ii (X : Cx) (tg e : Expr) (f : Fi) : Prop := PI X tg e (tIt X.K f)
theorem PI.imp {X : Cx} {tg e : Expr} {t t' : TI} (h : PI X tg e t) (i : ∀ σ H R, t' σ H R → t σ H R) : PI X tg e t' := ⟨fun pins s σ H R I q => h.run pins s σ H R I (i σ H R q)⟩

/-! ### for -/
def loopM (t : Tg) (body : Fs) : List D → Dl → Option (Fl × Dl)
  | [], δ => some (.next, δ)
  | d :: ds, δ => (tgSet t d δ).bind fun δ1 => (body δ1).bind fun p => match p.1 with
    | .next => loopM t body ds p.2
    | .cnt => loopM t body ds p.2
    | .brk => some (.next, p.2)
    | .ret o => some (.ret o, p.2)
def sFor (t : Tg) (fi : Fi) (body : Fs) : Fs := fun δ => (fi δ).bind fun p => loopM t body p.1 p.2
section
variable {X : Cx} {tg iter e : Expr} {body : List Stmt} {pos : Pos}
theorem sm_for {t : Tg} {fi : Fi} {fb : Fs} (hp : PassesOwn (model X.prog X.w) X.A X.env X.xe) (hc : X.calm = true) (hi : Ii X tg iter fi) (hg : PG X tg (tgG X.K t)) (hb : Ss X body fb)
    (hs : ∀ x, foldedSetIterable iter X.env x = pure x := by intro _; rfl) : Sm X (.For tg iter body [] pos) (sFor t fi fb) := PS.imp (ps_for hp hc hi hg hb hs) fun Z σ H ⟨F, G, δ, fl, δ', S, e, k⟩ => by
  obtain ⟨⟨ds, δ1⟩, e1, e2⟩ := Option.bind_eq_some_iff.mp e
  dsimp only at e2
  refine ⟨F, G, δ, ds, δ1, S, e1, fun J H1 G1 S1 m1 Y => ?_⟩
  refine ⟨fun i m σ H => m = ds.length - i ∧ i ≤ ds.length ∧ ∃ G2 δ2, Sim X.K F G2 H σ δ2 ∧ Le G1 G2 ∧ loopM t fb (ds.drop i) δ2 = some (fl, δ'), ⟨ds.length, rfl, Nat.zero_le _, G1, δ1, S1, .refl _, e2⟩, ?_⟩
  rintro i m σ2 H2 ⟨rfl, hi, G2, δ2, S2, l2, e3⟩
  by_cases hlt : i < ds.length
  · refine .inr ⟨Y.goes i G2 H2 hlt l2 S2.sub, fun σ' H' => ∃ G3 δ3, Sim X.K F G3 H' σ' δ3 ∧ Le G1 G3 ∧ loopM t fb (ds.drop (i + 1)) δ3 = some (fl, δ'), fun σ' H' ⟨G3, δ3, q⟩ => ⟨ds.length - (i + 1), by omega, rfl, hlt, G3, δ3, q⟩, fun x H3 y => ?_⟩
    obtain ⟨d, G3, hd, E, r⟩ := Y.ylds i G2 H2 x H3 hlt l2 S2.sub y
    rw [List.drop_eq_getElem_cons hlt] at e3
    rw [List.getElem?_eq_getElem hlt] at hd
    rw [Option.some.inj hd] at e3
    obtain ⟨δ3, e4, e5⟩ := Option.bind_eq_some_iff.mp e3
    obtain ⟨⟨fl1, δ4⟩, e6, e7⟩ := Option.bind_eq_some_iff.mp e5
    have S3 := S2.ext E
    have l3 : Le G1 G3 := l2.trans E.gg.le
    refine tg_of S3 r e4 fun σ4 S4 _ _ => ⟨F, G3, δ3, fl1, δ4, S4, e6, ?_⟩
    cases fl1 with
    | next => exact fun σ5 H5 G5 S5 l5 => ⟨G5, δ4, S5, l3.trans l5, e7⟩
    | cnt => exact fun σ5 H5 G5 S5 l5 => ⟨G5, δ4, S5, l3.trans l5, e7⟩
    | brk =>
      cases e7
      exact fun σ5 H5 G5 S5 l5 => k σ5 H5 G5 S5 (m1.le.trans (l3.trans l5))
    | ret o =>
      cases e7
      exact fun v σ5 H5 G5 S5 l5 r5 => k v σ5 H5 G5 S5 (m1.le.trans (l3.trans l5)) r5
  · have ei : i = ds.length := by omega
    subst ei
    rw [List.drop_length] at e3
    cases e3
    exact .inl ⟨Y.stops G2 H2 l2 S2.sub, k σ2 H2 G2 S2 (m1.le.trans l2)⟩

/-! ### while -/
def loopW (c : Ft) (body : Fs) : Nat → Dl → Option (Fl × Dl)
  | 0, _ => none
  | n + 1, δ => (c δ).bind fun p => if p.1 = true then (body p.2).bind fun q => match q.1 with
    | .next => loopW c body n q.2
    | .cnt => loopW c body n q.2
    | .brk => some (.next, q.2)
    | .ret o => some (.ret o, q.2)
    else some (.next, p.2)
theorem loopW_up {c : Ft} {body : Fs} : ∀ {n : Nat} {δ : Dl} {r : Fl × Dl}, loopW c body n δ = some r → loopW c body (n + 1) δ = some r
  | 0, _, _, h => by cases h
  | n + 1, δ, r, h => by
    obtain ⟨⟨b, δ1⟩, e1, e2⟩ := Option.bind_eq_some_iff.mp h
    show (c δ).bind _ = _
    rw [e1]
    show (if b = true then _ else _) = _
    dsimp only at e2
    split at e2
    · rename_i hb
      rw [if_pos hb]
      obtain ⟨⟨fl, δ2⟩, e3, e4⟩ := Option.bind_eq_some_iff.mp e2
      rw [e3]
      cases fl with
      | next => exact loopW_up (n := n) e4
      | cnt => exact loopW_up (n := n) e4
      | brk => exact e4
      | ret o => exact e4
    · rename_i hb
      rw [if_neg hb]
      exact e2
theorem loopW_le {c : Ft} {body : Fs} {n m : Nat} {δ : Dl} {r : Fl × Dl} (h : n ≤ m) (e : loopW c body n δ = some r) : loopW c body m δ = some r := by
  induction h with
  | refl => exact e
  | step _ ih => exact loopW_up ih
open Classical in
/-- some number of turns will do -/
noncomputable def sWhile (c : Ft) (body : Fs) : Fs := fun δ => if h : ∃ r n, loopW c body n δ = some r then some h.choose else none
theorem sWhile_of {c : Ft} {body : Fs} {n : Nat} {δ : Dl} {r : Fl × Dl} (h : loopW c body n δ = some r) : sWhile c body δ = some r := by
  have h' : ∃ r n, loopW c body n δ = some r := ⟨r, n, h⟩
  unfold sWhile
  rw [dif_pos h']
  obtain ⟨m, hm⟩ := h'.choose_spec
  have a := loopW_le (Nat.le_max_left n m) h
  have b := loopW_le (Nat.le_max_right n m) hm
  rw [a] at b
  exact b.symm
theorem of_sWhile {c : Ft} {body : Fs} {δ : Dl} {r : Fl × Dl} (h : sWhile c body δ = some r) : ∃ n, loopW c body n δ = some r := by
  unfold sWhile at h
  split at h
  · rename_i h'
    cases h
    exact h'.choose_spec
  · cases h
theorem sm_while {c : Expr} {fc : Ft} {fb : Fs} (hp : PassesOwn (model X.prog X.w) X.A X.env X.xe) (hc : Ts X c fc) (hb : Ss X body fb) : Sm X (.While c body [] pos) (sWhile fc fb) := PS.imp (ps_while hp hc hb) fun Z σ H ⟨F, G, δ, fl, δ', S, e, k⟩ => by
  obtain ⟨n, e⟩ := of_sWhile e
  refine ⟨fun m σ H => ∃ G2 δ2, Sim X.K F G2 H σ δ2 ∧ Le G G2 ∧ loopW fc fb m δ2 = some (fl, δ'), ⟨n, G, δ, S, .refl _, e⟩, ?_⟩
  rintro m σ2 H2 ⟨G2, δ2, S2, l2, e3⟩
  cases m with
  | zero => cases e3
  | succ m =>
    obtain ⟨⟨b, δ3⟩, e4, e5⟩ := Option.bind_eq_some_iff.mp e3
    refine ⟨F, G2, δ2, b, δ3, S2, e4, fun H3 G3 S3 m3 => ?_⟩
    have l3 := l2.trans m3.le
    dsimp only at e5
    split at e5
    · rename_i hb
      show if b = true then _ else _
      rw [if_pos hb]
      obtain ⟨⟨fl1, δ4⟩, e6, e7⟩ := Option.bind_eq_some_iff.mp e5
      refine ⟨fun σ' H' => ∃ G2 δ2, Sim X.K F G2 H' σ' δ2 ∧ Le G G2 ∧ loopW fc fb m δ2 = some (fl, δ'), fun σ' H' q => ⟨m, Nat.lt_succ_self _, q⟩, F, G3, δ3, fl1, δ4, S3, e6, ?_⟩
      cases fl1 with
      | next => exact fun σ5 H5 G5 S5 l5 => ⟨G5, δ4, S5, l3.trans l5, e7⟩
      | cnt => exact fun σ5 H5 G5 S5 l5 => ⟨G5, δ4, S5, l3.trans l5, e7⟩
      | brk =>
        cases e7
        exact fun σ5 H5 G5 S5 l5 => k σ5 H5 G5 S5 (l3.trans l5)
      | ret o =>
        cases e7
        exact fun v σ5 H5 G5 S5 l5 r5 => k v σ5 H5 G5 S5 (l3.trans l5) r5
    · rename_i hb
      show if b = true then _ else _
      rw [if_neg hb]
      cases e5
      exact k σ2 H3 G3 S3 l3
end
end L2.Tl

set_option Elab.async false
set_option linter.all false
set_option autoImplicit false
set_option maxRecDepth 100000
namespace L2.Tl
open PySem PySem.Spec PyProof.Rows

/-! ### a dict is locked while a loop walks it: nobody changes it, so for good -/
theorem Sim.lock {K : PySem.W.Frag} {F : Fr} {G H : Hp} {σ : St} {δ : Dl} {d : Addr} {u : HO} {od : Obj} (S : Sim K F G H σ δ) (h : G d = some u) (mu : Mut (some u)) (nt : ∀ C dx fs, u ≠ .ins C dx fs) :
    Sim K F (upd G d (.frz od u)) (upd H d (.frz od u)) σ δ ∧ Mv σ δ G H δ (upd G d (.frz od u)) (upd H d (.frz od u)) := by
  have nz : ∀ o' u', u ≠ .frz o' u' := fun o' u' z => by rw [z] at mu; exact mu
  have hH : H d = some u := S.sub d u h
  have l : Le G (upd G d (.frz od u)) := by
    refine ⟨fun a w hw => ?_, fun a vs hv => ?_, fun a C dx fs hv => ?_, fun a o w hv => ?_⟩
    · by_cases z : a = d
      · subst z
        rcases hw with hw | ⟨o, hw⟩
        · rw [h] at hw; cases hw
          exact .inr ⟨od, upd_same⟩
        · rw [h] at hw; exact absurd (Option.some.inj hw) (nz o w)
      · rcases hw with hw | ⟨o, hw⟩
        · exact .inl ((upd_ne z).trans hw)
        · exact .inr ⟨o, (upd_ne z).trans hw⟩
    · rw [upd_ne (fun z => by rw [z, h] at hv; cases hv; exact mu)]; exact hv
    · rw [upd_ne (fun z => by rw [z, h] at hv; exact nt _ _ _ (Option.some.inj hv))]; exact hv
    · rw [upd_ne (fun z => by rw [z, h] at hv; exact nz _ _ (Option.some.inj hv))]; exact hv
  have ne : ∀ {p : Addr}, G p = none → p ≠ d := fun {p} g z => by rw [z, h] at g; cases g
  refine ⟨⟨S.len, fun i e he => ?_, fun i e he => ?_, fun i e he => ?_, S.inj, fun a o ha => ?_, fun a o ha => ?_, fun a o ha hi => ?_, fun i a ha => ?_, S.g0⟩, l, fun a o ho g ap => ⟨(upd_ne (ne g)).trans ho, (upd_ne (ne g)).trans g, ap⟩, fun a ha => ?_⟩
  · obtain ⟨v, a, b⟩ := S.fz i e he
    exact ⟨v, a, b.mono l⟩
  · obtain ⟨p, a, b, c, q⟩ := S.own i e he
    exact ⟨p, a, (upd_ne (ne b)).trans b, c.mono l (upd_ne (ne b)), q⟩
  · obtain ⟨p, a, b, c, q⟩ := S.inp i e he
    exact ⟨p, a, (upd_ne (ne b)).trans b, c.mono l (upd_ne (ne b)), q⟩
  · by_cases z : a = d
    · subst z; rw [upd_same] at ha ⊢; exact ha
    · rw [upd_ne z] at ha ⊢; exact S.sub a o ha
  · by_cases z : a = d
    · subst z; exact S.new a u h
    · rw [upd_ne z] at ha; exact S.new a o ha
  · by_cases z : a = d
    · subst z
      rcases S.fr a o ha hi with q | ⟨q1, q2, od', q3⟩
      · rw [hH] at q; cases q
        refine .inr ⟨mu, ?_, od, upd_same⟩
        rcases S.new a u h with w | w
        · cases e : F.G0 a with
          | none => exact absurd e w
          | some x =>
            have := S.g0 a x e
            rw [ha] at this
            rw [this]
        · rw [ha] at w; cases w
      · rw [hH] at q3
        exact absurd (Option.some.inj q3) (nz _ _)
    · rw [upd_ne z]; exact S.fr a o ha hi
  · obtain ⟨⟨o, ho⟩, g, h0⟩ := S.ioh i a ha
    exact ⟨⟨o, (upd_ne (ne g)).trans ho⟩, (upd_ne (ne g)).trans g, h0⟩
  · by_cases z : a = d
    · subst z; rw [upd_same] at ha; cases ha
    · rw [upd_ne z] at ha; exact ha
def lkT (t : TE) : TE := fun σ H Q => t σ H fun x H1 => ∃ d kvs, x = .ref d ∧ ((H1 d = some (.dK kvs) ∧ ∀ od, Q x (upd H1 d (.frz od (.dK kvs)))) ∨ ∃ od, H1 d = some (.frz od (.dK kvs)) ∧ Q x H1)
theorem pe_lk {X : Cx} {e : Expr} {t : TE} (h : PE X e t) : PE X e (lkT t) := ⟨fun pins s σ H Q I q => by
  refine thn (h.run pins s σ H _ I q) fun u s1 ⟨x, H1, I1, r1, d, kvs, ex, q1⟩ => ?_
  subst ex
  rcases q1 with ⟨hd, q1⟩ | ⟨od, hd, q1⟩
  · obtain ⟨od, I2⟩ := I1.lock hd trivial
    exact ⟨_, _, I2, r1, q1 od⟩
  · exact ⟨_, _, I1, r1, q1⟩⟩
/-- the locked dict at hand -/
theorem lk_of {K : PySem.W.Frag} {f : Fe} {σ : St} {H : Hp} {Q : VK} {F : Fr} {G : Hp} {δ δ1 δ2 : Dl} {r : RV} {kvs : List (D × D)} (S : Sim K F G H σ δ) (e1 : f δ = some (r, δ1)) (e2 : esc r δ1 = some (.dct false kvs, δ2))
    (k : ∀ d od kvs' H' G', Sim K F G' H' σ δ2 → Mv σ δ G H δ2 G' H' → G' d = some (.frz od (.dK kvs')) → RepD K G' kvs' kvs → Q (.ref d) H') : lkT (tEv K f) σ H Q := by
  refine ⟨F, G, δ, r, δ1, S, e1, fun v H1 G1 S1 m1 r1 => ?_⟩
  obtain ⟨G2, S2, m2, r2⟩ := S1.esc r1 e2
  cases r2 with
  | dK hd rd =>
    rename_i a kvs'
    refine ⟨a, kvs', rfl, ?_⟩
    rcases hd with hd | ⟨od, hd⟩
    · refine .inl ⟨S2.sub _ _ hd, fun od => ?_⟩
      obtain ⟨S3, m3⟩ := S2.lock (od := od) hd trivial (fun _ _ _ z => nomatch z)
      exact k a od kvs' _ _ S3 (m1.trans (m2.trans m3)) upd_same (rd.mono m3.le)
    · exact .inr ⟨od, S2.sub _ _ hd, k a od kvs' _ _ S2 (m1.trans m2) hd rd⟩

/-! ### what loops walk -/
theorem RepD.getk {K : PySem.W.Frag} {G : Hp} : ∀ {vs : List (Key × V)} {ds : List (D × D)} {i : Nat} {k : Key} {v : V}, RepD K G vs ds → vs[i]? = some (k, v) → ∃ d, ds[i]? = some (kD k, d) ∧ Rep K G v d
  | _, _, _, _, _, .nil, e => by simp at e
  | _, _, 0, _, _, .cons h _, e => by simp at e; obtain ⟨rfl, rfl⟩ := e; exact ⟨_, rfl, h⟩
  | _, _, i + 1, k, v, .cons _ r, e => by
    obtain ⟨d, h1, h2⟩ := RepD.getk (i := i) (k := k) (v := v) r (by simpa using e)
    exact ⟨d, by simpa using h1, h2⟩
theorem RepD.len {K : PySem.W.Frag} {G : Hp} : ∀ {vs : List (Key × V)} {ds : List (D × D)}, RepD K G vs ds → vs.length = ds.length
  | _, _, .nil => rfl
  | _, _, .cons _ r => by simp [r.len]
theorem Rep.kV {K : PySem.W.Frag} {G : Hp} (k : Key) : Rep K G (L2.kV k) (kD k) := by
  cases k with
  | inl i => exact .int i
  | inr x => exact .str x
def chars (z : Str) : List D := z.cps.toList.map fun c => .str ⟨#[c]⟩
def seqOf : D → Option (List D)
  | .lst ds => some ds
  | .tup ds => some ds
  | .str z => some (chars z)
  | .dct false kvs => some (kvs.map (·.1))
  | _ => none
section
variable {K : PySem.W.Frag} {G : Hp}
theorem yl_list {a : Addr} {vs : List V} {ds : List D} (h : Rd G a (.lst vs)) (r : RepL K G vs ds) : Yl K (Itl K a) G ds := by
  have sq : ∀ G' H', Le G G' → Sub G' H' → SqL K H' a vs := fun G' H' l s => .inl (s.le.rd _ _ (l.rd _ _ h))
  have w := walk_list (K := K) (a := a) (xs := vs)
  refine ⟨fun i G' H' hi l s => w.goes i H' (by rw [r.length]; exact hi) (sq G' H' l s), fun G' H' l s => by rw [← r.length]; exact w.stops H' (sq G' H' l s), fun i G' H' x H2 hi l s y => ?_⟩
  obtain ⟨e1, e2⟩ := w.yields i H' x H2 (by rw [r.length]; exact hi) (sq G' H' l s) y
  subst e1
  obtain ⟨d, h1, h2⟩ := r.getv e2
  exact ⟨d, G', h1, .refl s, h2.mono l⟩
theorem yl_tup {a : Addr} {vs : List V} {ds : List D} (h : G a = some (.tup vs)) (r : RepL K G vs ds) : Yl K (Itt K a) G ds := by
  have sq : ∀ G' H', Le G G' → Sub G' H' → SqT K H' a vs := fun G' H' l s => .inl (.inl (s _ _ (l.tup _ _ h)))
  have w := walk_tup (K := K) (a := a) (xs := vs)
  refine ⟨fun i G' H' hi l s => w.goes i H' (by rw [r.length]; exact hi) (sq G' H' l s), fun G' H' l s => by rw [← r.length]; exact w.stops H' (sq G' H' l s), fun i G' H' x H2 hi l s y => ?_⟩
  obtain ⟨e1, e2⟩ := w.yields i H' x H2 (by rw [r.length]; exact hi) (sq G' H' l s) y
  subst e1
  obtain ⟨d, h1, h2⟩ := r.getv e2
  exact ⟨d, G', h1, .refl s, h2.mono l⟩
theorem yl_str {z : Str} : Yl K (Its z) G (chars z) := by
  have hl : (chars z).length = z.cps.size := by simp [chars]
  refine ⟨fun i G' H' hi l s => by show i < z.cps.size; omega, fun G' H' l s => by show z.cps.size ≤ _; omega, fun i G' H' x H2 hi l s y => ?_⟩
  obtain ⟨e1, c, e2, rfl⟩ := y
  subst e1
  refine ⟨.str ⟨#[c]⟩, G', ?_, .refl s, .str _⟩
  have : z.cps.toList[i]? = some c := by simpa using e2
  simp only [chars, List.getElem?_map, this, Option.map_some]
theorem yl_keys {a : Addr} {od : Obj} {vs : List (Key × V)} {ds : List (D × D)} (h : G a = some (.frz od (.dK vs))) (r : RepD K G vs ds) : Yl K (Itk a od vs) G (ds.map (·.1)) := by
  have sq : ∀ G' H', Le G G' → Sub G' H' → H' a = some (.frz od (.dK vs)) := fun G' H' l s => s _ _ (l.frz _ _ _ h)
  have w := walk_keys (d := a) (o := od) (kvs := vs)
  have hl : vs.length = (ds.map (·.1)).length := by rw [r.len]; simp
  refine ⟨fun i G' H' hi l s => w.goes i H' (by rw [hl]; exact hi) (sq G' H' l s), fun G' H' l s => by rw [← hl]; exact w.stops H' (sq G' H' l s), fun i G' H' x H2 hi l s y => ?_⟩
  obtain ⟨e1, k, v, e2, rfl⟩ := w.yields i H' x H2 (by rw [hl]; exact hi) (sq G' H' l s) y
  subst e1
  obtain ⟨d, h1, h2⟩ := r.getk e2
  exact ⟨kD k, G', by simp [h1], .refl s, .kV k⟩
theorem yl_values {a : Addr} {od : Obj} {vs : List (Key × V)} {ds : List (D × D)} (h : G a = some (.frz od (.dK vs))) (r : RepD K G vs ds) : Yl K (Itd a od vs) G (ds.map (·.2)) := by
  have sq : ∀ G' H', Le G G' → Sub G' H' → H' a = some (.frz od (.dK vs)) := fun G' H' l s => s _ _ (l.frz _ _ _ h)
  have w := walk_values (d := a) (o := od) (kvs := vs)
  have hl : vs.length = (ds.map (·.2)).length := by rw [r.len]; simp
  refine ⟨fun i G' H' hi l s => w.goes i H' (by rw [hl]; exact hi) (sq G' H' l s), fun G' H' l s => by rw [← hl]; exact w.stops H' (sq G' H' l s), fun i G' H' x H2 hi l s y => ?_⟩
  obtain ⟨e1, k, e2⟩ := w.yields i H' x H2 (by rw [hl]; exact hi) (sq G' H' l s) y
  subst e1
  obtain ⟨d, h1, h2⟩ := r.getk e2
  exact ⟨d, G', by simp [h1], .refl s, h2.mono l⟩
/-- pairs, each a new tuple -/
theorem yl_pair {J : It} {ds : List D} {n : Nat} {C : Hp → Prop} {xs ys : Nat → Option V} (w : Walk J n C (YPair xs ys)) (hn : ds.length = n) (hc : ∀ G' H', Le G G' → Sub G' H' → C H')
    (hx : ∀ i x y, i < n → xs i = some x → ys i = some y → ∃ d e, ds[i]? = some (.tup [d, e]) ∧ Rep K G x d ∧ Rep K G y e) : Yl K J G ds := by
  subst hn
  refine ⟨fun i G' H' hi l s => w.goes i H' hi (hc G' H' l s), fun G' H' l s => w.stops H' (hc G' H' l s), fun i G' H' v H2 hi l s yy => ?_⟩
  obtain ⟨T, x, y, rfl, hT, rfl, e1, e2⟩ := w.yields i H' v H2 hi (hc G' H' l s) yy
  obtain ⟨d, e, h1, h2, h3⟩ := hx i x y hi e1 e2
  have E : Tl.Ext G' H' (upd G' T (.tup [x, y])) (upd H' T (.tup [x, y])) := .add s hT
  exact ⟨_, _, h1, E, .tup upd_same (.cons ((h2.mono l).mono E.gg.le) (.cons ((h3.mono l).mono E.gg.le) .nil))⟩
def pairD (p : D × D) : D := .tup [p.1, p.2]
theorem yl_items {a : Addr} {od : Obj} {vs : List (Key × V)} {ds : List (D × D)} (h : G a = some (.frz od (.dK vs))) (r : RepD K G vs ds) : Yl K (Iti a od vs) G (ds.map pairD) :=
  yl_pair (walk_items (d := a) (o := od) (kvs := vs)) (by rw [r.len]; simp) (fun G' H' l s => s _ _ (l.frz _ _ _ h)) fun i x y hi e1 e2 => by
    obtain ⟨⟨k, v⟩, e3, rfl⟩ := Option.map_eq_some_iff.mp e1
    rw [e3] at e2
    cases e2
    obtain ⟨d, h1, h2⟩ := r.getk e3
    exact ⟨kD k, d, by simp [h1, pairD], .kV k, h2⟩
def enumD (n : Nat) : List D → List D
  | [] => []
  | d :: ds => .tup [.int n, d] :: enumD (n + 1) ds
theorem enumD_length : ∀ (ds : List D) (n : Nat), (enumD n ds).length = ds.length
  | [], _ => rfl
  | _ :: ds, n => by simp [enumD, enumD_length ds]
theorem enumD_get : ∀ (ds : List D) (n i : Nat), (enumD n ds)[i]? = ds[i]?.map fun d => .tup [.int (n + i : Nat), d]
  | [], _, _ => by simp [enumD]
  | d :: ds, n, 0 => by simp [enumD]
  | d :: ds, n, i + 1 => by
    simp only [enumD, List.getElem?_cons_succ, enumD_get ds (n + 1) i]
    congr 2
    rw [Nat.add_right_comm, Nat.add_assoc]
theorem yl_enum {a : Addr} {vs : List V} {ds : List D} (h : Rd G a (.lst vs)) (r : RepL K G vs ds) : Yl K (Ite K a) G (enumD 0 ds) :=
  yl_pair (walk_enum (K := K) (a := a) (xs := vs)) (by rw [enumD_length, r.length]) (fun G' H' l s => .inl (s.le.rd _ _ (l.rd _ _ h))) fun i x y hi e1 e2 => by
    cases e1
    obtain ⟨d, h1, h2⟩ := r.getv e2
    exact ⟨.int i, d, by rw [enumD_get, h1]; simp, .int _, h2⟩
def zipD : List D → List D → List D
  | d :: ds, e :: es => .tup [d, e] :: zipD ds es
  | _, _ => []
theorem zipD_length : ∀ (ds es : List D), (zipD ds es).length = min ds.length es.length
  | [], _ => by simp [zipD]
  | _ :: _, [] => by simp [zipD]
  | _ :: ds, _ :: es => by simp [zipD, zipD_length ds es]
theorem zipD_get : ∀ (ds es : List D) (i : Nat) (d e : D), ds[i]? = some d → es[i]? = some e → (zipD ds es)[i]? = some (.tup [d, e])
  | [], _, _, _, _, h, _ => by simp at h
  | _ :: _, [], _, _, _, _, h => by simp at h
  | _ :: ds, _ :: es, 0, _, _, h, h' => by simp at h h'; subst h; subst h'; rfl
  | _ :: ds, _ :: es, i + 1, d, e, h, h' => zipD_get ds es i d e (by simpa using h) (by simpa using h')
theorem yl_zip {a b : Addr} {vs ws : List V} {ds es : List D} (h : Rd G a (.lst vs)) (h' : Rd G b (.lst ws)) (r : RepL K G vs ds) (r' : RepL K G ws es) : Yl K (Itz K a b) G (zipD ds es) :=
  yl_pair (walk_zip (K := K) (a := a) (b := b) rfl) (by rw [zipD_length, r.length, r'.length]) (fun G' H' l s => ⟨.inl (s.le.rd _ _ (l.rd _ _ h)), .inl (s.le.rd _ _ (l.rd _ _ h'))⟩) fun i x y hi e1 e2 => by
    obtain ⟨d, h1, h2⟩ := r.getv e1
    obtain ⟨e, h3, h4⟩ := r'.getv e2
    exact ⟨d, e, zipD_get _ _ _ _ _ h1 h3, h2, h4⟩
theorem yl_rev {a : Addr} {vs : List V} {ds : List D} (h : Rd G a (.lst vs)) (r : RepL K G vs ds) : Yl K (Itv K a vs.length) G ds.reverse := by
  have sq : ∀ G' H', Le G G' → Sub G' H' → SqL K H' a vs := fun G' H' l s => .inl (s.le.rd _ _ (l.rd _ _ h))
  have w := walk_rev (K := K) (a := a) (xs := vs)
  have hl : ds.reverse.length = vs.length := by rw [List.length_reverse, r.length]
  refine ⟨fun i G' H' hi l s => w.goes i H' (by rw [← hl]; exact hi) (sq G' H' l s), fun G' H' l s => by rw [hl]; exact w.stops H' (sq G' H' l s), fun i G' H' x H2 hi l s y => ?_⟩
  obtain ⟨e1, e2⟩ := w.yields i H' x H2 (by rw [← hl]; exact hi) (sq G' H' l s) y
  subst e1
  obtain ⟨d, h1, h2⟩ := r.getv e2
  refine ⟨d, G', ?_, .refl s, h2.mono l⟩
  rw [List.getElem?_reverse (by simpa using hi), ← h1, r.length]
def rngD (lo c : Int) (n : Nat) : List D := (List.range n).map fun i => .int (lo + (i : Nat) * c)
theorem yl_range {lo : Int} {n : Nat} : Yl K (Itr lo n) G (rngD lo 1 n) := by
  refine ⟨fun i G' H' hi l s => (by have h : i < n := (by simpa [rngD] using hi); exact h), fun G' H' l s => by simp [Itr, rngD], fun i G' H' x H2 hi l s y => ?_⟩
  have hi' : i < n := by simpa [rngD] using hi
  obtain ⟨e1, e2⟩ := (walk_range (lo := lo) (n := n)).yields i H' x H2 hi' trivial y
  subst e1
  subst e2
  exact ⟨.int (lo + (i : Nat) * 1), G', by simp only [rngD, List.getElem?_map, List.getElem?_range hi', Option.map_some], .refl s, by rw [Int.mul_one]; exact .int _⟩
theorem yl_rangeC {lo c : Int} {n : Nat} : Yl K (Itc lo c n) G (rngD lo c n) := by
  refine ⟨fun i G' H' hi l s => (by have h : i < n := (by simpa [rngD] using hi); exact h), fun G' H' l s => by simp [Itc, rngD], fun i G' H' x H2 hi l s y => ?_⟩
  have hi' : i < n := by simpa [rngD] using hi
  obtain ⟨e1, e2⟩ := (walk_rangeC (lo := lo) (c := c) (n := n)).yields i H' x H2 hi' trivial y
  subst e1
  subst e2
  exact ⟨_, G', by simp only [rngD, List.getElem?_map, List.getElem?_range hi', Option.map_some], .refl s, .int _⟩
end

/-! ### the walks by their expressions -/
def lkA (t : TE) : TE := fun σ H Q => t σ H fun x H1 => (∃ d kvs, x = .ref d ∧ ((H1 d = some (.dK kvs) ∧ ∀ od, Q x (upd H1 d (.frz od (.dK kvs)))) ∨ ∃ od, H1 d = some (.frz od (.dK kvs)) ∧ Q x H1)) ∨ ((∀ d, x = .ref d → (∃ vs, Rd H1 d (.lst vs)) ∨ ∃ vs, Rd H1 d (.tup vs)) ∧ Q x H1)
theorem pe_lkA {X : Cx} {e : Expr} {t : TE} (h : PE X e t) : PE X e (lkA t) := ⟨fun pins s σ H Q I q => by
  refine thn (h.run pins s σ H _ I q) fun u s1 ⟨x, H1, I1, r1, q1⟩ => ?_
  rcases q1 with ⟨d, kvs, ex, q1⟩ | ⟨_, q1⟩
  · subst ex
    rcases q1 with ⟨hd, q1⟩ | ⟨od, hd, q1⟩
    · obtain ⟨od, I2⟩ := I1.lock hd trivial
      exact ⟨_, _, I2, r1, q1 od⟩
    · exact ⟨_, _, I1, r1, q1⟩
  · exact ⟨_, _, I1, r1, q1⟩⟩
def iAny (K : PySem.W.Frag) (te : TE) : TI := fun σ H R => te σ H fun x H1 => (∃ a xs, x = .ref a ∧ SqL K H1 a xs ∧ R (Itl K a) H1) ∨ (∃ a xs, x = .ref a ∧ SqT K H1 a xs ∧ R (Itt K a) H1) ∨ (∃ z, x = .str z ∧ R (Its z) H1) ∨ ∃ d od kvs, x = .ref d ∧ H1 d = some (.frz od (.dK kvs)) ∧ R (Itk d od kvs) H1
theorem pi_any {X : Cx} {tg e : Expr} {te : TE} (he : PE X e te) : PI X tg e (iAny X.K te) := by
  refine ⟨fun pins s σ H R I h => ?_⟩
  refine thn (he.run pins s σ H _ I h) fun u s1 ⟨x, H1, I1, r1, q1⟩ => ?_
  rcases q1 with ⟨a, xs, e, hq, q⟩ | ⟨a, xs, e, hq, q⟩ | ⟨z, e, q⟩ | ⟨d, od, kvs, e, hd, q⟩
  · subst e
    cases r1
    obtain ⟨its, rv, p, hz⟩ := I1.list hq
    refine wpAny_pyIter_list p.isList ?_
    refine ⟨s1.heap.objs.size, [s1.heap.objs.size], _, _, H1, rfl, I1.kept (t' := s1.toks) fun b o e => Heap.get?_push_of_some _ e, turn_list a _, ⟨_, Heap.get?_push_size _ rfl, rfl, rfl⟩, fun b hb => ?_, q⟩
    have e : b = s1.heap.objs.size := by simpa using hb
    subst e
    exact I1.fpOk (Nat.le_refl _) (I1.hok.fresh (Nat.le_refl _))
  · subst e
    cases r1
    obtain ⟨its, rv, p, hz⟩ := I1.tuple hq
    refine wpAny_pyIter_tuple (show s1.heap.IsTuple a its.toArray from p) ?_
    refine ⟨s1.heap.objs.size, [s1.heap.objs.size], _, _, H1, rfl, I1.kept (t' := s1.toks) fun b o e => Heap.get?_push_of_some _ e, turn_tuple a _, ⟨_, Heap.get?_push_size _ rfl, rfl, rfl⟩, fun b hb => ?_, q⟩
    have e : b = s1.heap.objs.size := by simpa using hb
    subst e
    exact I1.fpOk (Nat.le_refl _) (I1.hok.fresh (Nat.le_refl _))
  · subst e
    obtain ⟨t, rfl⟩ := r1
    cases ha : z.cps.all (· < 128)
    · exact wpAny_pyIter_wide ha (pi_one (tk := s1.toks) I1 _ (turn_str _ z t "str_iterator" (.inr rfl)) ⟨_, Heap.get?_push_size _ rfl, rfl, rfl⟩ q)
    · exact wpAny_pyIter_ascii ha (pi_one (tk := s1.toks) I1 _ (turn_str _ z t "str_ascii_iterator" (.inl rfl)) ⟨_, Heap.get?_push_size _ rfl, rfl, rfl⟩ q)
  · subst e
    obtain rfl : u = Value.ref d := r1
    obtain ⟨hs, hgd, hx, es, ep, vs, hdt, hsz, kv, hm⟩ := I1.frzK hd
    refine iter_keys hs hgd hx hdt (pi_one (tk := s1.toks) I1 _ (turn_keys _ hdt) ⟨_, Heap.get?_push_size _ rfl, rfl, ?_⟩ q)
    rw [hsz] <;> rfl
def fiOf (g : D → Option (List D)) (f : Fe) : Fi := fun δ => (f δ).bind fun p => (esc p.1 p.2).bind fun q => (g q.1).map fun ds => (ds, q.2)
section
variable {X : Cx} {tg e : Expr} {f : Fe} {pos apos cpos p tpos : Pos} {elts : List Expr} {kk : Nat}
/-- a list, a tuple, a text, the keys of a dict -/
theorem ii_any (h : Ev X e f) : Ii X tg e (fiOf seqOf f) := PI.imp (pi_any (pe_lkA h)) fun σ H R ⟨F, G, δ, ds, δ', S, e, k⟩ => by
  obtain ⟨⟨r, δ1⟩, e1, e⟩ := Option.bind_eq_some_iff.mp e
  obtain ⟨⟨d, δ2⟩, e2, e⟩ := Option.bind_eq_some_iff.mp e
  obtain ⟨ds', e3, e4⟩ := Option.map_eq_some_iff.mp e
  cases e4
  refine ⟨F, G, δ, r, δ1, S, e1, fun v H1 G1 S1 m1 r1 => ?_⟩
  obtain ⟨G2, S2, m2, r2⟩ := S1.esc r1 e2
  have m := m1.trans m2
  dsimp only at e3
  unfold seqOf at e3
  split at e3
  · cases e3
    cases r2 with
    | lst hq rl =>
      rename_i a vs
      have hq' := S2.sub.le.rd _ _ hq
      exact .inr ⟨fun d e => (by cases e; exact .inl ⟨_, hq'⟩), .inl ⟨a, vs, rfl, .inl hq', k _ H1 G2 S2 m (yl_list hq rl)⟩⟩
  · cases e3
    cases r2 with
    | tup hq rl =>
      rename_i a vs
      have hq' := S2.sub _ _ hq
      exact .inr ⟨fun d e => (by cases e; exact .inr ⟨_, .inl hq'⟩), .inr (.inl ⟨a, vs, rfl, .inl (.inl hq'), k _ H1 G2 S2 m (yl_tup hq rl)⟩)⟩
  · cases e3
    cases r2
    exact .inr ⟨fun d e => (nomatch e), .inr (.inr (.inl ⟨_, rfl, k _ H1 G2 S2 m yl_str⟩))⟩
  · cases e3
    cases r2 with
    | dK hd rd =>
      rename_i a kvs'
      refine .inl ⟨a, kvs', rfl, ?_⟩
      rcases hd with hd | ⟨od, hd⟩
      · refine .inl ⟨S2.sub _ _ hd, fun od => .inr (.inr (.inr ?_))⟩
        obtain ⟨S3, m3⟩ := S2.lock (od := od) hd trivial (fun _ _ _ z => nomatch z)
        exact ⟨a, od, kvs', rfl, upd_same, k _ _ _ S3 (m.trans m3) (yl_keys upd_same (rd.mono m3.le))⟩
      · exact .inr ⟨od, S2.sub _ _ hd, .inr (.inr (.inr ⟨a, od, kvs', rfl, S2.sub _ _ hd, k _ _ _ S2 m (yl_keys hd rd)⟩))⟩
  · cases e3
def valsOf : D → Option (List D)
  | .dct false kvs => some (kvs.map (·.2))
  | _ => none
def itemsOf : D → Option (List D)
  | .dct false kvs => some (kvs.map pairD)
  | _ => none
def keysOf : D → Option (List D)
  | .dct false kvs => some (kvs.map (·.1))
  | _ => none
theorem ii_values (h : Ev X e f) (hbase : attributeBase e "values" X.env (eval e X.env) = eval e X.env := by rfl) (hline : (apos.endLine == cpos.line) = true := by rfl) : Ii X tg (.Call (.Attribute e "values" apos) [] [] cpos) (fiOf valsOf f) := PI.imp (pi_values (pe_lk h) hbase hline) fun σ H R ⟨F, G, δ, ds, δ', S, e, k⟩ => by
  obtain ⟨⟨r, δ1⟩, e1, e⟩ := Option.bind_eq_some_iff.mp e
  obtain ⟨⟨d, δ2⟩, e2, e⟩ := Option.bind_eq_some_iff.mp e
  obtain ⟨ds', e3, e4⟩ := Option.map_eq_some_iff.mp e
  cases e4
  dsimp only at e3
  unfold valsOf at e3
  split at e3
  · cases e3
    exact lk_of S e1 e2 fun d od kvs' H' G' S' m' hd rd => ⟨d, od, kvs', rfl, S'.sub _ _ hd, k _ H' G' S' m' (yl_values hd rd)⟩
  · cases e3
theorem ii_items (h : Ev X e f) (hbase : attributeBase e "items" X.env (eval e X.env) = eval e X.env := by rfl) (hline : (apos.endLine == cpos.line) = true := by rfl) : Ii X (.Tuple elts kk tpos) (.Call (.Attribute e "items" apos) [] [] cpos) (fiOf itemsOf f) := PI.imp (pi_items (pe_lk h) hbase hline) fun σ H R ⟨F, G, δ, ds, δ', S, e, k⟩ => by
  obtain ⟨⟨r, δ1⟩, e1, e⟩ := Option.bind_eq_some_iff.mp e
  obtain ⟨⟨d, δ2⟩, e2, e⟩ := Option.bind_eq_some_iff.mp e
  obtain ⟨ds', e3, e4⟩ := Option.map_eq_some_iff.mp e
  cases e4
  dsimp only at e3
  unfold itemsOf at e3
  split at e3
  · cases e3
    exact lk_of S e1 e2 fun d od kvs' H' G' S' m' hd rd => ⟨d, od, kvs', rfl, S'.sub _ _ hd, k _ H' G' S' m' (yl_items hd rd)⟩
  · cases e3
theorem ii_keys (h : Ev X e f) (hbase : attributeBase e "keys" X.env (eval e X.env) = eval e X.env := by rfl) (hline : (apos.endLine == cpos.line) = true := by rfl) : Ii X tg (.Call (.Attribute e "keys" apos) [] [] cpos) (fiOf keysOf f) := PI.imp (pi_keysM (pe_lk h) hbase hline) fun σ H R ⟨F, G, δ, ds, δ', S, e, k⟩ => by
  obtain ⟨⟨r, δ1⟩, e1, e⟩ := Option.bind_eq_some_iff.mp e
  obtain ⟨⟨d, δ2⟩, e2, e⟩ := Option.bind_eq_some_iff.mp e
  obtain ⟨ds', e3, e4⟩ := Option.map_eq_some_iff.mp e
  cases e4
  dsimp only at e3
  unfold keysOf at e3
  split at e3
  · cases e3
    exact lk_of S e1 e2 fun d od kvs' H' G' S' m' hd rd => ⟨d, od, kvs', rfl, S'.sub _ _ hd, k _ H' G' S' m' (yl_keys hd rd)⟩
  · cases e3
/-! by a builtin's arguments -/
def fiA (g : List D → Option (List D)) (f : Fa) : Fi := fun δ => (f δ).bind fun p => (g p.1).map fun ds => (ds, p.2)
theorem fiA_imp {K : PySem.W.Frag} {g : List D → Option (List D)} {fa : Fa} {σ : St} {H : Hp} {R : It → Hp → Prop} {Q : List V → Hp → Prop} (h : tIt K (fiA g fa) σ H R)
    (k : ∀ vs ds ds' H1 G1, Sub G1 H1 → RepL K G1 vs ds → g ds = some ds' → (∀ J, Yl K J G1 ds' → R J H1) → Q vs H1) : tAr K fa σ H Q := by
  obtain ⟨F, G, δ, ds, δ', S, e, k'⟩ := h
  obtain ⟨⟨as, δ1⟩, e1, e⟩ := Option.bind_eq_some_iff.mp e
  obtain ⟨ds', e3, e4⟩ := Option.map_eq_some_iff.mp e
  cases e4
  exact ⟨F, G, δ, as, _, S, e1, fun vs H1 G1 S1 m1 r1 => k vs as ds H1 G1 S1.sub r1 e3 fun J y => k' J H1 G1 S1 m1 y⟩
def b62 (i : Int) : Bool := decide (-(2 ^ 62) ≤ i ∧ i < 2 ^ 62)
def gRng1 : List D → Option (List D)
  | [.int j] => if b62 j = true then some (rngD 0 1 j.toNat) else none
  | _ => none
def gRng2 : List D → Option (List D)
  | [.int i, .int j] => if b62 i = true ∧ b62 j = true then some (rngD i 1 (j - i).toNat) else none
  | _ => none
/-- range(i, j, -1) -/
def gRng3 : List D → Option (List D)
  | [.int i, .int j, .int (-1)] => if b62 i = true ∧ b62 j = true then some (rngD i (-1) (i - j).toNat) else none
  | _ => none
def gEnum : List D → Option (List D)
  | [.lst ds] => some (enumD 0 ds)
  | _ => none
def gZip : List D → Option (List D)
  | [.lst ds, .lst es] => some (zipD ds es)
  | _ => none
def gRev : List D → Option (List D)
  | [.lst ds] => some ds.reverse
  | _ => none
variable {a b c : Expr} {fa : Fa}
theorem ii_range1 (hg : Gl X "range") (hm : X.mg "range" = none) (ha : Ar X [a] fa) (hs : starEach [a] X.env = [(false, eval a X.env)] := by rfl) : Ii X tg (.Call (.Name "range" p) [a] [] pos) (fiA gRng1 fa) := PI.imp (pi_range1 hg hm ha hs) fun σ H R h => by
  refine fiA_imp h fun vs ds ds' H1 G1 sb r e k => ?_
  unfold gRng1 at e
  split at e
  · split at e
    · rename_i j hb
      cases e
      cases r with
      | cons r rr =>
        cases rr
        cases r
        simp only [b62, decide_eq_true_eq] at hb
        exact ⟨j, rfl, hb.1, hb.2, k _ yl_range⟩
    · cases e
  · cases e
theorem ii_range2 (hg : Gl X "range") (hm : X.mg "range" = none) (ha : Ar X [a, b] fa) (hs : starEach [a, b] X.env = [(false, eval a X.env), (false, eval b X.env)] := by rfl) (hs2 : starEach [b] X.env = [(false, eval b X.env)] := by rfl) : Ii X tg (.Call (.Name "range" p) [a, b] [] pos) (fiA gRng2 fa) := PI.imp (pi_range2 hg hm ha hs hs2) fun σ H R h => by
  refine fiA_imp h fun vs ds ds' H1 G1 sb r e k => ?_
  unfold gRng2 at e
  split at e
  · split at e
    · rename_i i j hb
      cases e
      cases r with
      | cons r rr =>
        cases rr with
        | cons r2 rr =>
          cases rr
          cases r
          cases r2
          simp only [b62, decide_eq_true_eq] at hb
          exact ⟨i, j, rfl, ⟨hb.1.1, hb.1.2, hb.2.1, hb.2.2⟩, k _ yl_range⟩
    · cases e
  · cases e
theorem ii_range3 (hg : Gl X "range") (hm : X.mg "range" = none) (ha : Ar X [a, b, c] fa) (hs : starEach [a, b, c] X.env = (false, eval a X.env) :: starEach [b, c] X.env := by rfl) (hpl : (backTo pos (starEach [b, c] X.env)).any (·.1) = false := by rfl) : Ii X tg (.Call (.Name "range" p) [a, b, c] [] pos) (fiA gRng3 fa) := PI.imp (pi_range3 hg hm ha hs hpl) fun σ H R h => by
  refine fiA_imp h fun vs ds ds' H1 G1 sb r e k => ?_
  unfold gRng3 at e
  split at e
  · split at e
    · rename_i i j hb
      cases e
      cases r with
      | cons r rr =>
        cases rr with
        | cons r2 rr =>
          cases rr with
          | cons r3 rr =>
            cases rr
            cases r
            cases r2
            cases r3
            simp only [b62, decide_eq_true_eq] at hb
            exact ⟨i, j, -1, _, rfl, RgC.neg hb.1.1 hb.1.2 hb.2.1 hb.2.2, k _ yl_rangeC⟩
    · cases e
  · cases e
theorem ii_enum (hg : Gl X "enumerate") (hm : X.mg "enumerate" = none) (ha : Ar X [a] fa) (hs : starEach [a] X.env = [(false, eval a X.env)] := by rfl) : Ii X (.Tuple elts kk tpos) (.Call (.Name "enumerate" p) [a] [] pos) (fiA gEnum fa) := PI.imp (pi_enum hg hm ha hs) fun σ H R h => by
  refine fiA_imp h fun vs ds ds' H1 G1 sb r e k => ?_
  unfold gEnum at e
  split at e
  · cases e
    cases r with
    | cons r rr =>
      cases rr
      cases r with
      | lst hq rl => exact ⟨_, _, rfl, .inl (sb.le.rd _ _ hq), k _ (yl_enum hq rl)⟩
  · cases e
theorem ii_zip (hg : Gl X "zip") (hm : X.mg "zip" = none) (ha : Ar X [a, b] fa) (hs : starEach [a, b] X.env = (false, eval a X.env) :: starEach [b] X.env := by rfl) (hpl : (backTo pos (starEach [b] X.env)).any (·.1) = false := by rfl) : Ii X (.Tuple elts kk tpos) (.Call (.Name "zip" p) [a, b] [] pos) (fiA gZip fa) := PI.imp (pi_zip hg hm ha hs hpl) fun σ H R h => by
  refine fiA_imp h fun vs ds ds' H1 G1 sb r e k => ?_
  unfold gZip at e
  split at e
  · cases e
    cases r with
    | cons r rr =>
      cases rr with
      | cons r2 rr =>
        cases rr
        cases r with
        | lst hq rl =>
          cases r2 with
          | lst hq2 rl2 => exact ⟨_, _, _, _, rfl, .inl (sb.le.rd _ _ hq), .inl (sb.le.rd _ _ hq2), k _ (yl_zip hq hq2 rl rl2)⟩
  · cases e
theorem ii_rev (hg : Gl X "reversed") (hm : X.mg "reversed" = none) (ha : Ar X [a] fa) (hs : starEach [a] X.env = [(false, eval a X.env)] := by rfl) : Ii X tg (.Call (.Name "reversed" p) [a] [] pos) (fiA gRev fa) := PI.imp (pi_reversed hg hm ha hs) fun σ H R h => by
  refine fiA_imp h fun vs ds ds' H1 G1 sb r e k => ?_
  unfold gRev at e
  split at e
  · cases e
    cases r with
    | cons r rr =>
      cases rr
      cases r with
      | lst hq rl => exact ⟨_, _, rfl, .inl (sb.le.rd _ _ hq), k _ (yl_rev hq rl)⟩
  · cases e
end
end L2.Tl

set_option Elab.async false
set_option linter.all false
set_option autoImplicit false
set_option maxRecDepth 100000
namespace L2.Tl
open PySem PySem.Spec PyProof.Rows

/-! ### comprehensions -/
def wipeD (vs : List Nat) (δ : Dl) : Dl := vs.foldl (fun δ v => δ.set v none) δ
/-- the slots vs of the one, the others of the other -/
def mixD : List Nat → Dl → Dl → Dl
  | [], _, δ => δ
  | v :: vs, δ1, δ => mixD vs δ1 (δ.set v (δ1[v]?.getD none))
theorem wipeD_length (vs : List Nat) : ∀ δ : Dl, (wipeD vs δ).length = δ.length := by
  induction vs with
  | nil => intro δ; rfl
  | cons v vs ih => intro δ; exact (ih _).trans (by simp)
theorem wipeD_at (vs : List Nat) : ∀ (δ : Dl) (i : Nat) (x : SV), (wipeD vs δ)[i]? = some (some x) → δ[i]? = some (some x) ∧ i ∉ vs := by
  induction vs with
  | nil => intro δ i x h; exact ⟨h, by simp⟩
  | cons v vs ih =>
    intro δ i x h
    obtain ⟨h1, h2⟩ := ih _ i x h
    by_cases n : i = v
    · subst n
      by_cases hl : i < δ.length
      · rw [List.getElem?_set_self hl] at h1; cases h1
      · rw [List.getElem?_eq_none (by simpa using hl)] at h1; cases h1
    · rw [List.getElem?_set_ne (Ne.symm n)] at h1
      exact ⟨h1, by simp [n, h2]⟩
theorem mixD_length (δ1 : Dl) : ∀ (vs : List Nat) (δ : Dl), (mixD vs δ1 δ).length = δ.length
  | [], _ => rfl
  | v :: vs, δ => (mixD_length δ1 vs _).trans (by simp)
theorem mixD_at (δ1 : Dl) : ∀ (vs : List Nat) (δ : Dl) (i : Nat), δ1.length = δ.length → ((mixD vs δ1 δ)[i]? = δ[i]? ∧ i ∉ vs) ∨ ((mixD vs δ1 δ)[i]? = δ1[i]? ∧ i ∈ vs)
  | [], δ, i, _ => .inl ⟨rfl, by simp⟩
  | v :: vs, δ, i, hl => by
    show ((mixD vs δ1 (δ.set v (δ1[v]?.getD none)))[i]? = _ ∧ _) ∨ ((mixD vs δ1 (δ.set v (δ1[v]?.getD none)))[i]? = _ ∧ _)
    rcases mixD_at δ1 vs (δ.set v (δ1[v]?.getD none)) i (by simpa using hl) with ⟨a, b⟩ | ⟨a, b⟩
    · by_cases n : i = v
      · subst n
        refine .inr ⟨?_, by simp⟩
        rw [a]
        by_cases h : i < δ1.length
        · rw [List.getElem?_set_self (by omega), List.getElem?_eq_getElem h]; rfl
        · rw [List.getElem?_eq_none (by simp; omega), List.getElem?_eq_none (by omega)]
      · refine .inl ⟨?_, by simp [n, b]⟩
        rw [a, List.getElem?_set_ne (Ne.symm n)]
    · exact .inr ⟨a, by simp [b]⟩
def plainAt (vs : List Nat) (δ : Dl) : Bool := vs.all fun v => match δ[v]? with
  | some (some (.own _)) => false
  | some (some (.inp _)) => false
  | _ => true
section
variable {K : PySem.W.Frag} {F : Fr} {G H G1 H1 : Hp} {σ τ : St} {δ δ1 : Dl}
theorem Sim.wipe (S : Sim K F G H σ δ) (vs : List Nat) : Sim K F G H (wipe σ vs) (wipeD vs δ) := by
  have key : ∀ {i : Nat} {x : SV}, (wipeD vs δ)[i]? = some (some x) → δ[i]? = some (some x) ∧ (L2.wipe σ vs)[i]? = σ[i]? := fun {i x} h => by
    obtain ⟨a, b⟩ := wipeD_at vs δ i x h
    exact ⟨a, wipe_out b⟩
  refine ⟨by rw [wipe_length, wipeD_length]; exact S.len, fun i d h => ?_, fun i d h => ?_, fun i d h => ?_, fun i j x y d e p h1 r1 h2 r2 h3 h4 => ?_, S.sub, S.new, S.fr, S.ioh, S.g0⟩
  · obtain ⟨a, b⟩ := key h
    rw [b]; exact S.fz i d a
  · obtain ⟨a, b⟩ := key h
    rw [b]; exact S.own i d a
  · obtain ⟨a, b⟩ := key h
    rw [b]; exact S.inp i d a
  · obtain ⟨a, b⟩ := key h1
    obtain ⟨a', b'⟩ := key h2
    rw [b] at h3
    rw [b'] at h4
    exact S.inj i j x y d e p a r1 a' r2 h3 h4
/-- behind a comprehension: its own names as they were -/
theorem Sim.mix (S1 : Sim K F G1 H1 σ δ1) {vs : List Nat} (S : Sim K F G H (L2.wipe σ vs) δ) (l : Le G1 G) (hp : plainAt vs δ1 = true) : Sim K F G H σ (mixD vs δ1 δ) := by
  have hlen : δ1.length = δ.length := by rw [← S1.len, ← S.len, wipe_length]
  have key : ∀ {i : Nat} {x : SV}, (mixD vs δ1 δ)[i]? = some (some x) → (δ[i]? = some (some x) ∧ (L2.wipe σ vs)[i]? = σ[i]?) ∨ (δ1[i]? = some (some x) ∧ SV.root x = none) := fun {i x} h => by
    rcases mixD_at δ1 vs δ i hlen with ⟨a, b⟩ | ⟨a, b⟩
    · exact .inl ⟨a ▸ h, wipe_out b⟩
    · refine .inr ⟨a ▸ h, ?_⟩
      have := (List.all_eq_true.mp hp) i b
      rw [← a, h] at this
      cases x with
      | fz _ => rfl
      | own _ => cases this
      | inp _ => cases this
  have keyr : ∀ {i : Nat} {x : SV} {d : D}, (mixD vs δ1 δ)[i]? = some (some x) → SV.root x = some d → δ[i]? = some (some x) ∧ (L2.wipe σ vs)[i]? = σ[i]? := fun {i x d} h r => by
    rcases key h with z | ⟨_, z⟩
    · exact z
    · rw [r] at z; cases z
  refine ⟨by rw [mixD_length, ← S.len, wipe_length], fun i d h => ?_, fun i d h => ?_, fun i d h => ?_, fun i j x y d e p h1 r1 h2 r2 h3 h4 => ?_, S.sub, S.new, S.fr, S.ioh, S.g0⟩
  · rcases key h with ⟨a, b⟩ | ⟨a, _⟩
    · rw [← b]; exact S.fz i d a
    · obtain ⟨v, x, y⟩ := S1.fz i d a
      exact ⟨v, x, y.mono l⟩
  · obtain ⟨a, b⟩ := keyr h rfl
    rw [← b]; exact S.own i d a
  · obtain ⟨a, b⟩ := keyr h rfl
    rw [← b]; exact S.inp i d a
  · obtain ⟨a, b⟩ := keyr h1 r1
    obtain ⟨a', b'⟩ := keyr h2 r2
    rw [← b] at h3
    rw [← b'] at h4
    exact S.inj i j x y d e p a r1 a' r2 h3 h4
/-- an object that no slot holds is changed -/
theorem Sim.away (S : Sim K F G H σ δ) {p : Addr} {o : HO} (hg : G p = none) (ap : Apart σ δ p) (h0 : F.H0 p = none) : Sim K F G (upd H p o) σ δ := by
  refine ⟨S.len, S.fz, fun i d h => ?_, fun i d h => ?_, S.inj, fun a u h => ?_, S.new, fun a u h hi => ?_, fun i a h => ?_, S.g0⟩
  · obtain ⟨q, a, b, c, e⟩ := S.own i d h
    exact ⟨q, a, b, c.mono (.refl _) (upd_ne fun z => ap i _ _ h rfl (z ▸ a)), e⟩
  · obtain ⟨q, a, b, c, e⟩ := S.inp i d h
    exact ⟨q, a, b, c.mono (.refl _) (upd_ne fun z => ap i _ _ h rfl (z ▸ a)), e⟩
  · rw [upd_ne (fun z => by rw [z, hg] at h; cases h)]
    exact S.sub a u h
  · rw [upd_ne (fun z => by rw [z, h0] at h; cases h)]
    exact S.fr a u h hi
  · obtain ⟨⟨u, hu⟩, g, z⟩ := S.ioh i a h
    exact ⟨⟨u, (upd_ne (fun y => z (by rw [y]; exact h0))).trans hu⟩, g, z⟩
theorem apart_wipe (vs : List Nat) {p : Addr} (h : Apart σ δ p) : Apart (wipe σ vs) (wipeD vs δ) p := fun i x d hx r hs => by
  obtain ⟨a, b⟩ := wipeD_at vs δ i x hx
  rw [wipe_out b] at hs
  exact h i x d a r hs
theorem apart_mix {vs : List Nat} {p : Addr} (hl : δ1.length = δ.length) (h : Apart (wipe σ vs) δ p) (hp : plainAt vs δ1 = true) : Apart σ (mixD vs δ1 δ) p := fun i x d hx r hs => by
  rcases mixD_at δ1 vs δ i hl with ⟨a, b⟩ | ⟨a, b⟩
  · rw [a] at hx
    exact h i x d hx r ((wipe_out b).trans hs)
  · have := (List.all_eq_true.mp hp) i b
    rw [← a, hx] at this
    cases x with
    | fz _ => cases r
    | own _ => cases this
    | inp _ => cases this
end
def PTsT (X : Cx) (ifs : List Expr) (f : Ft) : Prop := PTs X ifs (tTs X.K f)
def fYes : Ft := fun δ => some (true, δ)
theorem PTs.imp {X : Cx} {ifs : List Expr} {t t' : TT} (h : PTs X ifs t) (i : ∀ σ H Q, t' σ H Q → t σ H Q) : PTs X ifs t' := ⟨fun pins s σ H Q I q => h.run pins s σ H Q I (i σ H Q q)⟩
theorem ptsT_nil {X : Cx} : PTsT X [] fYes := PTs.imp pts_nil fun σ H Q ⟨F, G, δ, b, δ', S, e, k⟩ => by
  cases e
  exact k H G S .refl
theorem ptsT_one {X : Cx} {c : Expr} {f : Ft} (h : Ts X c f) : PTsT X [c] f := pts_one h
/-- the turns of [e for t in .. if c] -/
def lcM (vs : List Nat) (t : Tg) (c : Ft) (f : Fe) : List D → Dl → Option (List D × Dl)
  | [], δ => some ([], δ)
  | d :: ds, δ => (tgSet t d δ).bind fun δ1 => (c δ1).bind fun p => if p.1 = true then
      (f p.2).bind fun q => (esc q.1 q.2).bind fun r => (lcM vs t c f ds (wipeD vs r.2)).map fun s => (r.1 :: s.1, s.2)
    else lcM vs t c f ds (wipeD vs p.2)
def fLc (vs : List Nat) (fi : Fi) (t : Tg) (c : Ft) (f : Fe) : Fn := fun δ => (fi δ).bind fun p => if p.1.length ≤ sizeLine ∧ plainAt vs p.2 = true then
    (lcM vs t c f p.1 (wipeD vs p.2)).map fun q => (.new (.lst q.1), mixD vs p.2 q.2) else none
theorem lcM_length {vs : List Nat} {t : Tg} {c : Ft} {f : Fe} : ∀ {ds : List D} {δ : Dl} {r : List D × Dl}, lcM vs t c f ds δ = some r → r.1.length ≤ ds.length
  | [], _, _, h => by cases h; simp
  | d :: ds, δ, r, h => by
    obtain ⟨δ1, e1, h⟩ := Option.bind_eq_some_iff.mp h
    obtain ⟨⟨b, δ2⟩, e2, h⟩ := Option.bind_eq_some_iff.mp h
    dsimp only at h
    split at h
    · obtain ⟨q, e3, h⟩ := Option.bind_eq_some_iff.mp h
      obtain ⟨r', e4, h⟩ := Option.bind_eq_some_iff.mp h
      obtain ⟨s, e5, h⟩ := Option.map_eq_some_iff.mp h
      subst h
      have := lcM_length e5
      simp only [List.length_cons]
      omega
    · have := lcM_length h
      simp only [List.length_cons]
      omega
/-- the wiped slots are named by the target alone, or by nothing -/
theorem lc_imp {K : PySem.W.Frag} {vs : List Nat} {fi : Fi} {t : Tg} {c : Ft} {f : Fe} {σ : St} {H : Hp} {Q : VK} (ht : ∀ i ∈ t.ix, i ∈ vs) (h : tEn K (fLc vs fi t c f) σ H Q) : tLc (tIt K fi) (tgG K t) (tTs K c) (tEv K f) vs σ H Q := by
  obtain ⟨F, G, δ, o, δ', S, e, k⟩ := h
  obtain ⟨⟨ds, δ1⟩, e1, e⟩ := Option.bind_eq_some_iff.mp e
  dsimp only at e
  split at e
  · rename_i hz
    obtain ⟨hz, hpl⟩ := hz
    obtain ⟨⟨xs, δ2⟩, e2, e3⟩ := Option.map_eq_some_iff.mp e
    cases e3
    refine ⟨F, G, δ, ds, δ1, S, e1, fun J H1 G1 S1 m1 Y D hD => ?_⟩
    have hg1 : G1 D = none := none_of_sub S1.sub hD
    have apD : Apart σ δ1 D := fun i x d hx r hs => by
      obtain ⟨p, a1, _, a3⟩ := S1.root hx r
      rw [hs] at a1; cases a1
      obtain ⟨u, hu⟩ := a3.there
      rw [hD] at hu; cases hu
    have E1 : Tl.Ext G1 H1 G1 (upd H1 D (.lst [])) := .own S1.sub hD
    -- the state ahead of a turn
    let St (i : Nat) (H : Hp) : Prop := ∃ G2 δ3 acc accD rest, Sim K F G2 H (wipe σ vs) δ3 ∧ Le G1 G2 ∧ H D = some (.lst acc) ∧ RepL K G2 acc accD ∧ G2 D = none ∧ Apart (wipe σ vs) δ3 D ∧ xs = accD ++ rest ∧ accD.length ≤ i ∧
      lcM vs t c f (ds.drop i) δ3 = some (rest, δ2) ∧ (∀ a o, H1 a = some o → G1 a = none → Apart σ δ1 a → H a = some o ∧ G2 a = none ∧ Apart (wipe σ vs) δ3 a) ∧ ∀ a, H a = none → H1 a = none
    have ne : ∀ {a : Addr} {o : HO}, H1 a = some o → a ≠ D := fun {a o} h z => by rw [z, hD] at h; cases h
    have st0 : St 0 (upd H1 D (.lst [])) := ⟨G1, wipeD vs δ1, [], [], xs, (S1.ext E1).wipe vs, .refl _, upd_same, .nil, hg1, apart_wipe vs apD, rfl, Nat.le_refl _, e2,
      fun a o h g ap => ⟨(upd_ne (ne h)).trans h, g, apart_wipe vs ap⟩, fun a h => by
        by_cases z : a = D
        · subst z; exact hD
        · rw [upd_ne z] at h; exact h⟩
    refine ⟨fun i m H => m = ds.length - i ∧ i ≤ ds.length ∧ St i H, ⟨ds.length, rfl, Nat.zero_le _, st0⟩, ?_⟩
    rintro i m H2 ⟨rfl, hi, G2, δ3, acc, accD, rest, S2, l2, hacc, racc, gD, aD, exs, hla, e4, stay, dom⟩
    by_cases hlt : i < ds.length
    · refine .inr ⟨Y.goes i G2 H2 hlt l2 S2.sub, St (i + 1), fun H' q => ⟨ds.length - (i + 1), by omega, rfl, hlt, q⟩, fun x H3 y => ?_⟩
      obtain ⟨d, G3, hd, E, r⟩ := Y.ylds i G2 H2 x H3 hlt l2 S2.sub y
      rw [List.drop_eq_getElem_cons hlt] at e4
      rw [List.getElem?_eq_getElem hlt] at hd
      rw [Option.some.inj hd] at e4
      obtain ⟨δ4, e5, e6⟩ := Option.bind_eq_some_iff.mp e4
      obtain ⟨⟨b, δ5⟩, e7, e8⟩ := Option.bind_eq_some_iff.mp e6
      have S3 := S2.ext E
      have kp3 : ∀ a o, H2 a = some o → G2 a = none → Apart (wipe σ vs) δ3 a → H3 a = some o ∧ G3 a = none ∧ Apart (wipe σ vs) δ3 a := fun a o h g ap => E.mv.stay a o h g ap
      refine tg_of S3 r e5 fun σ4 S4 hw hap => ⟨(hw vs ht).trans (wipe_wipe σ vs) |>.trans rfl, ?_⟩
      have hw' : wipe σ4 vs = wipe σ vs := (hw vs ht).trans (wipe_wipe σ vs)
      refine ⟨F, G3, δ4, b, δ5, S4, e7, fun H5 G5 S5 m5 => ?_⟩
      dsimp only at e8
      split at e8
      · rename_i hb
        rw [if_pos hb]
        obtain ⟨⟨rv, δ6⟩, e9, e10⟩ := Option.bind_eq_some_iff.mp e8
        obtain ⟨⟨yd, δ7⟩, e11, e12⟩ := Option.bind_eq_some_iff.mp e10
        obtain ⟨⟨rest', δ8⟩, e13, e14⟩ := Option.map_eq_some_iff.mp e12
        cases e14
        refine ⟨F, G5, δ5, rv, δ6, S5, e9, fun y H6 G6 S6 m6 r6 => ?_⟩
        obtain ⟨G7, S7, m7, r7⟩ := S6.esc r6 e11
        have m := m5.trans (m6.trans m7)
        have kp : ∀ a o, H2 a = some o → G2 a = none → Apart (wipe σ vs) δ3 a → H6 a = some o ∧ G7 a = none ∧ Apart (wipe σ vs) (wipeD vs δ7) a := fun a o h g ap => by
          obtain ⟨h1, g1, ap1⟩ := kp3 a o h g ap
          obtain ⟨h2, g2, ap2⟩ := m.stay a o h1 g1 (hap a ap1)
          exact ⟨h2, g2, hw' ▸ apart_wipe vs ap2⟩
        obtain ⟨hD6, gD7, aD7⟩ := kp D _ hacc gD aD
        have lle : Le G1 G7 := l2.trans (E.gg.le.trans m.le)
        have l27 : Le G2 G7 := E.gg.le.trans m.le
        refine ⟨acc, hD6, ?_, G7, wipeD vs δ7, acc ++ [y], accD ++ [yd], rest', ?_, lle, upd_same, (racc.mono l27).append (.cons r7 .nil), gD7, aD7, by rw [exs]; simp, ?_, e13, fun a o h g ap => ?_, fun a ha => ?_⟩
        · rw [racc.length]
          have : ds.length ≤ sizeLine := hz
          omega
        · have S8 := S7.wipe vs
          rw [hw'] at S8
          exact S8.away gD7 aD7 (S1.fresh hD)
        · simp; exact hla
        · obtain ⟨h1, g1, ap1⟩ := stay a o h g ap
          obtain ⟨h2, g2, ap2⟩ := kp a o h1 g1 ap1
          exact ⟨(upd_ne (ne h)).trans h2, g2, ap2⟩
        · by_cases z : a = D
          · subst z; exact hD
          · rw [upd_ne z] at ha
            exact dom a (E.mv (σ := σ4) (δ := δ4).dom a (m.dom a ha))
      · rename_i hb
        rw [if_neg hb]
        have kp : ∀ a o, H2 a = some o → G2 a = none → Apart (wipe σ vs) δ3 a → H5 a = some o ∧ G5 a = none ∧ Apart (wipe σ vs) (wipeD vs δ5) a := fun a o h g ap => by
          obtain ⟨h1, g1, ap1⟩ := kp3 a o h g ap
          obtain ⟨h2, g2, ap2⟩ := m5.stay a o h1 g1 (hap a ap1)
          exact ⟨h2, g2, hw' ▸ apart_wipe vs ap2⟩
        obtain ⟨hD6, gD7, aD7⟩ := kp D _ hacc gD aD
        have l25 : Le G2 G5 := E.gg.le.trans m5.le
        refine ⟨G5, wipeD vs δ5, acc, accD, rest, ?_, l2.trans l25, hD6, racc.mono l25, gD7, aD7, exs, by omega, e8, fun a o h g ap => ?_, fun a ha => dom a (E.mv (σ := σ4) (δ := δ4).dom a (m5.dom a ha))⟩
        · have S8 := S5.wipe vs
          rw [hw'] at S8
          exact S8
        · obtain ⟨h1, g1, ap1⟩ := stay a o h g ap
          exact kp a o h1 g1 ap1
    · have ei : i = ds.length := by omega
      subst ei
      rw [List.drop_length] at e4
      cases e4
      rw [List.append_nil] at exs
      subst exs
      have lw : δ1.length = δ2.length := by rw [← S1.len, ← S2.len, wipe_length]
      refine .inl ⟨Y.stops G2 H2 l2 S2.sub, k _ H2 G2 (S1.mix S2 l2 hpl) (m1.trans ⟨l2, fun a o h g ap => ?_, dom⟩) ⟨D, rfl, gD, .lst hacc racc, m1.dom D hD, apart_mix lw aD hpl⟩⟩
      obtain ⟨h1, g1, ap1⟩ := stay a o h g ap
      exact ⟨h1, g1, apart_mix lw ap1 hpl⟩
  · cases e
/-- the turns of {k: v for t in .. if c} -/
def dcM (vs : List Nat) (t : Tg) (c : Ft) (fk fv : Fe) : List D → List (D × D) → Dl → Option (List (D × D) × Dl)
  | [], acc, δ => some (acc, δ)
  | d :: ds, acc, δ => (tgSet t d δ).bind fun δ1 => (c δ1).bind fun p => if p.1 = true then
      (fk p.2).bind fun q => (esc q.1 q.2).bind fun r => if isKey1 r.1 = true then (fv r.2).bind fun q2 => (esc q2.1 q2.2).bind fun r2 => dcM vs t c fk fv ds (kvPut acc r.1 r2.1) (wipeD vs r2.2) else none
    else dcM vs t c fk fv ds acc (wipeD vs p.2)
def fDc (vs : List Nat) (fi : Fi) (t : Tg) (c : Ft) (fk fv : Fe) : Fn := fun δ => (fi δ).bind fun p => if p.1.length ≤ sizeLine ∧ plainAt vs p.2 = true then
    (dcM vs t c fk fv p.1 [] (wipeD vs p.2)).map fun q => (.new (.dct false q.1), mixD vs p.2 q.2) else none
theorem kvPut_length (acc : List (D × D)) (k v : D) : (kvPut acc k v).length ≤ acc.length + 1 := by
  unfold kvPut
  split <;> simp
theorem dc_imp {K : PySem.W.Frag} {vs : List Nat} {fi : Fi} {t : Tg} {c : Ft} {fk fv : Fe} {σ : St} {H : Hp} {Q : VK} (ht : ∀ i ∈ t.ix, i ∈ vs) (h : tEn K (fDc vs fi t c fk fv) σ H Q) : tDc (tIt K fi) (tgG K t) (tTs K c) (tEv K fk) (tEv K fv) vs σ H Q := by
  obtain ⟨F, G, δ, o, δ', S, e, k⟩ := h
  obtain ⟨⟨ds, δ1⟩, e1, e⟩ := Option.bind_eq_some_iff.mp e
  dsimp only at e
  split at e
  · rename_i hz
    obtain ⟨hz, hpl⟩ := hz
    obtain ⟨⟨xs, δ2⟩, e2, e3⟩ := Option.map_eq_some_iff.mp e
    cases e3
    refine ⟨F, G, δ, ds, δ1, S, e1, fun J H1 G1 S1 m1 Y D hD => ?_⟩
    have hg1 : G1 D = none := none_of_sub S1.sub hD
    have apD : Apart σ δ1 D := fun i x d hx r hs => by
      obtain ⟨p, a1, _, a3⟩ := S1.root hx r
      rw [hs] at a1; cases a1
      obtain ⟨u, hu⟩ := a3.there
      rw [hD] at hu; cases hu
    have E1 : Tl.Ext G1 H1 G1 (upd H1 D (.dK [])) := .own S1.sub hD
    -- the state ahead of a turn
    let St (i : Nat) (H : Hp) : Prop := ∃ G2 δ3 acc accD, Sim K F G2 H (wipe σ vs) δ3 ∧ Le G1 G2 ∧ H D = some (.dK acc) ∧ RepD K G2 acc accD ∧ G2 D = none ∧ Apart (wipe σ vs) δ3 D ∧ accD.length ≤ i ∧
      dcM vs t c fk fv (ds.drop i) accD δ3 = some (xs, δ2) ∧ (∀ a o, H1 a = some o → G1 a = none → Apart σ δ1 a → H a = some o ∧ G2 a = none ∧ Apart (wipe σ vs) δ3 a) ∧ ∀ a, H a = none → H1 a = none
    have ne : ∀ {a : Addr} {o : HO}, H1 a = some o → a ≠ D := fun {a o} h z => by rw [z, hD] at h; cases h
    have st0 : St 0 (upd H1 D (.dK [])) := ⟨G1, wipeD vs δ1, [], [], (S1.ext E1).wipe vs, .refl _, upd_same, .nil, hg1, apart_wipe vs apD, Nat.le_refl _, e2,
      fun a o h g ap => ⟨(upd_ne (ne h)).trans h, g, apart_wipe vs ap⟩, fun a h => by
        by_cases z : a = D
        · subst z; exact hD
        · rw [upd_ne z] at h; exact h⟩
    refine ⟨fun i m H => m = ds.length - i ∧ i ≤ ds.length ∧ St i H, ⟨ds.length, rfl, Nat.zero_le _, st0⟩, ?_⟩
    rintro i m H2 ⟨rfl, hi, G2, δ3, acc, accD, S2, l2, hacc, racc, gD, aD, hla, e4, stay, dom⟩
    by_cases hlt : i < ds.length
    · refine .inr ⟨Y.goes i G2 H2 hlt l2 S2.sub, St (i + 1), fun H' q => ⟨ds.length - (i + 1), by omega, rfl, hlt, q⟩, fun x H3 y => ?_⟩
      obtain ⟨d, G3, hd, E, r⟩ := Y.ylds i G2 H2 x H3 hlt l2 S2.sub y
      rw [List.drop_eq_getElem_cons hlt] at e4
      rw [List.getElem?_eq_getElem hlt] at hd
      rw [Option.some.inj hd] at e4
      obtain ⟨δ4, e5, e6⟩ := Option.bind_eq_some_iff.mp e4
      obtain ⟨⟨b, δ5⟩, e7, e8⟩ := Option.bind_eq_some_iff.mp e6
      have S3 := S2.ext E
      have kp3 : ∀ a o, H2 a = some o → G2 a = none → Apart (wipe σ vs) δ3 a → H3 a = some o ∧ G3 a = none ∧ Apart (wipe σ vs) δ3 a := fun a o h g ap => E.mv.stay a o h g ap
      refine tg_of S3 r e5 fun σ4 S4 hw hap => ⟨(hw vs ht).trans (wipe_wipe σ vs) |>.trans rfl, ?_⟩
      have hw' : wipe σ4 vs = wipe σ vs := (hw vs ht).trans (wipe_wipe σ vs)
      refine ⟨F, G3, δ4, b, δ5, S4, e7, fun H5 G5 S5 m5 => ?_⟩
      dsimp only at e8
      split at e8
      · rename_i hb
        rw [if_pos hb]
        obtain ⟨⟨rv, δ6⟩, e9, e10⟩ := Option.bind_eq_some_iff.mp e8
        obtain ⟨⟨kd, δ7⟩, e11, e12⟩ := Option.bind_eq_some_iff.mp e10
        dsimp only at e12
        split at e12
        case isFalse => cases e12
        rename_i hk
        obtain ⟨key, rfl⟩ := isKey1_kD hk
        obtain ⟨⟨rw', δ6'⟩, e9', e10'⟩ := Option.bind_eq_some_iff.mp e12
        obtain ⟨⟨yd, δ7'⟩, e11', e13⟩ := Option.bind_eq_some_iff.mp e10'
        refine ⟨F, G5, δ5, rv, δ6, S5, e9, fun y0 H6 G6 S6 m6 r6 => ?_⟩
        obtain ⟨G7, S7, m7, r7⟩ := S6.esc r6 e11
        refine ⟨F, G7, δ7, rw', δ6', S7, e9', fun y H8 G8 S8 m8 r8 => ?_⟩
        obtain ⟨G9, S9, m9, r9⟩ := S8.esc r8 e11'
        have m := m5.trans (m6.trans (m7.trans (m8.trans m9)))
        have kp : ∀ a o, H2 a = some o → G2 a = none → Apart (wipe σ vs) δ3 a → H8 a = some o ∧ G9 a = none ∧ Apart (wipe σ vs) (wipeD vs δ7') a := fun a o h g ap => by
          obtain ⟨h1, g1, ap1⟩ := kp3 a o h g ap
          obtain ⟨h2, g2, ap2⟩ := m.stay a o h1 g1 (hap a ap1)
          exact ⟨h2, g2, hw' ▸ apart_wipe vs ap2⟩
        obtain ⟨hD6, gD7, aD7⟩ := kp D _ hacc gD aD
        have lle : Le G1 G9 := l2.trans (E.gg.le.trans m.le)
        have l27 : Le G2 G9 := E.gg.le.trans m.le
        refine ⟨acc, key, RepK.kV (K := K) (G := G7) (H := G7) (.inl r7), hD6, ?_, G9, wipeD vs δ7', putK acc key y, kvPut accD (kD key) yd, ?_, lle, upd_same, (racc.mono l27).put r9, gD7, aD7, ?_, e13, fun a o h g ap => ?_, fun a ha => ?_⟩
        · rw [racc.len]
          have : ds.length ≤ sizeLine := hz
          omega
        · have S8 := S9.wipe vs
          rw [hw'] at S8
          exact S8.away gD7 aD7 (S1.fresh hD)
        · exact Nat.le_trans (kvPut_length _ _ _) (Nat.succ_le_succ hla)
        · obtain ⟨h1, g1, ap1⟩ := stay a o h g ap
          obtain ⟨h2, g2, ap2⟩ := kp a o h1 g1 ap1
          exact ⟨(upd_ne (ne h)).trans h2, g2, ap2⟩
        · by_cases z : a = D
          · subst z; exact hD
          · rw [upd_ne z] at ha
            exact dom a (E.mv (σ := σ4) (δ := δ4).dom a (m.dom a ha))
      · rename_i hb
        rw [if_neg hb]
        have kp : ∀ a o, H2 a = some o → G2 a = none → Apart (wipe σ vs) δ3 a → H5 a = some o ∧ G5 a = none ∧ Apart (wipe σ vs) (wipeD vs δ5) a := fun a o h g ap => by
          obtain ⟨h1, g1, ap1⟩ := kp3 a o h g ap
          obtain ⟨h2, g2, ap2⟩ := m5.stay a o h1 g1 (hap a ap1)
          exact ⟨h2, g2, hw' ▸ apart_wipe vs ap2⟩
        obtain ⟨hD6, gD7, aD7⟩ := kp D _ hacc gD aD
        have l25 : Le G2 G5 := E.gg.le.trans m5.le
        refine ⟨G5, wipeD vs δ5, acc, accD, ?_, l2.trans l25, hD6, racc.mono l25, gD7, aD7, by omega, e8, fun a o h g ap => ?_, fun a ha => dom a (E.mv (σ := σ4) (δ := δ4).dom a (m5.dom a ha))⟩
        · have S8 := S5.wipe vs
          rw [hw'] at S8
          exact S8
        · obtain ⟨h1, g1, ap1⟩ := stay a o h g ap
          exact kp a o h1 g1 ap1
    · have ei : i = ds.length := by omega
      subst ei
      rw [List.drop_length] at e4
      cases e4
      have lw : δ1.length = δ2.length := by rw [← S1.len, ← S2.len, wipe_length]
      refine .inl ⟨Y.stops G2 H2 l2 S2.sub, k _ H2 G2 (S1.mix S2 l2 hpl) (m1.trans ⟨l2, fun a o h g ap => ?_, dom⟩) ⟨D, rfl, gD, .dK hacc racc, m1.dom D hD, apart_mix lw aD hpl⟩⟩
      obtain ⟨h1, g1, ap1⟩ := stay a o h g ap
      exact ⟨h1, g1, apart_mix lw ap1 hpl⟩
  · cases e
section
variable {X : Cx} {elt tg iter kx : Expr} {ifs : List Expr} {scope : Scope} {own : List (Str × Nat)} {pos spos py : Pos}
theorem en_lc {fi : Fi} {t : Tg} {c : Ft} {f : Fe} (hc : X.calm = true) (hN : X.N.Nodup) (hi : Ii X tg iter fi) (ok : BlkOk X.N X.env.scope scope own)
    (hg : ∀ (s : Shared) (H : Hp) (C : Addr) (cl : List (Str × Addr)) (fp : List Addr), PG (X.blk s H scope (compEnvC scope cl C X.env) fp) tg (tgG X.K t))
    (ht : ∀ (s : Shared) (H : Hp) (C : Addr) (cl : List (Str × Addr)) (fp : List Addr), PTsT (X.blk s H scope (compEnvC scope cl C X.env) fp) ifs c)
    (he : ∀ (s : Shared) (H : Hp) (C : Addr) (cl : List (Str × Addr)) (fp : List Addr), Ev (X.blk s H scope (compEnvC scope cl C X.env) fp) elt f)
    (hix : ∀ i ∈ t.ix, i ∈ own.map (·.2) := by decide) (hs : ∀ x, foldedSetIterable iter X.env x = pure x := by intro _; rfl) :
    En X (.ListComp elt [⟨tg, iter, ifs, 0⟩] scope pos) (fLc (own.map (·.2)) fi t c f) := PE.imp (pe_lc (tt := tTs X.K c) (te := tEv X.K f) hc hN hi ok hg ht he hs) fun σ H Q h => lc_imp hix h
theorem en_dc {vx : Expr} {fi : Fi} {t : Tg} {c : Ft} {fk fv : Fe} (hc : X.calm = true) (hN : X.N.Nodup) (hi : Ii X tg iter fi) (ok : BlkOk X.N X.env.scope scope own)
    (hg : ∀ (s : Shared) (H : Hp) (C : Addr) (cl : List (Str × Addr)) (fp : List Addr), PG (X.blk s H scope (compEnvC scope cl C X.env) fp) tg (tgG X.K t))
    (ht : ∀ (s : Shared) (H : Hp) (C : Addr) (cl : List (Str × Addr)) (fp : List Addr), PTsT (X.blk s H scope (compEnvC scope cl C X.env) fp) ifs c)
    (hk : ∀ (s : Shared) (H : Hp) (C : Addr) (cl : List (Str × Addr)) (fp : List Addr), Ev (X.blk s H scope (compEnvC scope cl C X.env) fp) kx fk)
    (he : ∀ (s : Shared) (H : Hp) (C : Addr) (cl : List (Str × Addr)) (fp : List Addr), Ev (X.blk s H scope (compEnvC scope cl C X.env) fp) vx fv)
    (hix : ∀ i ∈ t.ix, i ∈ own.map (·.2) := by decide) (hs : ∀ x, foldedSetIterable iter X.env x = pure x := by intro _; rfl) :
    En X (.DictComp kx vx [⟨tg, iter, ifs, 0⟩] scope pos) (fDc (own.map (·.2)) fi t c fk fv) := PE.imp (pe_dc (tt := tTs X.K c) (tk := tEv X.K fk) (tv := tEv X.K fv) hc hN hi ok hg ht hk he hs) fun σ H Q h => dc_imp hix h
/-- y = [..] on one line, y a local: let go, or the frame's own -/
theorem sm_setLc {fi : Fi} {t : Tg} {c : Ft} {f : Fe} {i : Nat} {y : Str} (hc : X.calm = true) (hN : X.N.Nodup) (hy : X.N[i]? = some y) (hyl : X.env.scope.names.lookup y = some .local)
    (hsw : swapsWith (.ListComp elt [⟨tg, iter, ifs, 0⟩] scope pos) (some (.Name y py)) spos.line X.env = pure true) (hi : Ii X tg iter fi) (ok : BlkOk X.N X.env.scope scope own)
    (hg : ∀ (s : Shared) (H : Hp) (C : Addr) (cl : List (Str × Addr)) (fp : List Addr), PG (X.blk s H scope (compEnvC scope cl C X.env) fp) tg (tgG X.K t))
    (ht : ∀ (s : Shared) (H : Hp) (C : Addr) (cl : List (Str × Addr)) (fp : List Addr), PTsT (X.blk s H scope (compEnvC scope cl C X.env) fp) ifs c)
    (he : ∀ (s : Shared) (H : Hp) (C : Addr) (cl : List (Str × Addr)) (fp : List Addr), Ev (X.blk s H scope (compEnvC scope cl C X.env) fp) elt f)
    (hix : ∀ i ∈ t.ix, i ∈ own.map (·.2) := by decide) (hs : ∀ x, foldedSetIterable iter X.env x = pure x := by intro _; rfl) :
    Sm X (.Assign [.Name y py] (.ListComp elt [⟨tg, iter, ifs, 0⟩] scope pos) spos) (sSet i (fV (fLc (own.map (·.2)) fi t c f))) := PS.imp (ps_setLc (tt := tTs X.K c) (te := tEv X.K f) hc hN hy hyl hsw hi ok hg ht he hs) fun Z σ H ⟨F, G, δ, fl, δ', S, e, k⟩ => by
  refine lc_imp hix ?_
  obtain ⟨⟨r, δ1⟩, e1, e2⟩ := Option.bind_eq_some_iff.mp e
  obtain ⟨⟨o, δ1'⟩, e3, e4⟩ := Option.map_eq_some_iff.mp e1
  cases e4
  cases e2
  exact ⟨F, G, δ, o, _, S, e3, fun v H1 G1 S1 m r => by
    obtain ⟨G2, S2, m2, r2⟩ := S1.settle r (fun a h => S.fresh h) m
    exact k _ H1 G2 (S2.set r2 i) m2.le⟩
theorem sm_ownLc {fi : Fi} {t : Tg} {c : Ft} {f : Fe} {i : Nat} {y : Str} (hc : X.calm = true) (hN : X.N.Nodup) (hy : X.N[i]? = some y) (hyl : X.env.scope.names.lookup y = some .local)
    (hsw : swapsWith (.ListComp elt [⟨tg, iter, ifs, 0⟩] scope pos) (some (.Name y py)) spos.line X.env = pure true) (hi : Ii X tg iter fi) (ok : BlkOk X.N X.env.scope scope own)
    (hg : ∀ (s : Shared) (H : Hp) (C : Addr) (cl : List (Str × Addr)) (fp : List Addr), PG (X.blk s H scope (compEnvC scope cl C X.env) fp) tg (tgG X.K t))
    (ht : ∀ (s : Shared) (H : Hp) (C : Addr) (cl : List (Str × Addr)) (fp : List Addr), PTsT (X.blk s H scope (compEnvC scope cl C X.env) fp) ifs c)
    (he : ∀ (s : Shared) (H : Hp) (C : Addr) (cl : List (Str × Addr)) (fp : List Addr), Ev (X.blk s H scope (compEnvC scope cl C X.env) fp) elt f)
    (hix : ∀ i ∈ t.ix, i ∈ own.map (·.2) := by decide) (hs : ∀ x, foldedSetIterable iter X.env x = pure x := by intro _; rfl) :
    Sm X (.Assign [.Name y py] (.ListComp elt [⟨tg, iter, ifs, 0⟩] scope pos) spos) (sOwn i (fLc (own.map (·.2)) fi t c f)) := PS.imp (ps_setLc (tt := tTs X.K c) (te := tEv X.K f) hc hN hy hyl hsw hi ok hg ht he hs) fun Z σ H ⟨F, G, δ, fl, δ', S, e, k⟩ => by
  refine lc_imp hix ?_
  obtain ⟨⟨o, δ1⟩, e1, e2⟩ := Option.map_eq_some_iff.mp e
  cases e2
  exact ⟨F, G, δ, o, δ1, S, e1, fun v H1 G1 S1 m r => k _ H1 G1 (S1.setO r (fun a h => S.fresh h) i) m.le⟩
end
end L2.Tl

set_option Elab.async false
set_option linter.all false
set_option autoImplicit false
set_option maxRecDepth 100000
namespace L2.Tl
open PySem PySem.Spec PyProof.Rows

/-! ### arguments that are only read -/
abbrev Fq := Dl → Option (List RV × Dl)
inductive RepQ (K : PySem.W.Frag) (G : Hp) (σ : St) : List V → List RV → Prop
  | nil : RepQ K G σ [] []
  | cons {v : V} {vs : List V} {r : RV} {rs : List RV} : RepR K G σ v r → RepQ K G σ vs rs → RepQ K G σ (v :: vs) (r :: rs)
inductive RepKs (K : PySem.W.Frag) (G H : Hp) : List V → List D → Prop
  | nil : RepKs K G H [] []
  | cons {v : V} {vs : List V} {d : D} {ds : List D} : RepK K G H v d → RepKs K G H vs ds → RepKs K G H (v :: vs) (d :: ds)
theorem RepQ.mono {K : PySem.W.Frag} {G G' : Hp} {σ : St} {vs : List V} {rs : List RV} (h : RepQ K G σ vs rs) (l : Le G G') : RepQ K G' σ vs rs := by
  induction h with
  | nil => exact .nil
  | cons r _ ih => exact .cons (r.mono l) ih
def peeks : List RV → Dl → Option (List D)
  | [], _ => some []
  | r :: rs, δ => (peek r δ).bind fun d => (peeks rs δ).map (d :: ·)
theorem Sim.peeks {K : PySem.W.Frag} {F : Fr} {G H : Hp} {σ : St} {δ : Dl} (S : Sim K F G H σ δ) : ∀ {vs : List V} {rs : List RV} {ds : List D}, RepQ K G σ vs rs → Tl.peeks rs δ = some ds → RepKs K G H vs ds
  | _, _, _, .nil, e => by cases e; exact .nil
  | _, _, _, .cons r t, e => by
    obtain ⟨d, e1, e2⟩ := Option.bind_eq_some_iff.mp e
    obtain ⟨ds, e3, e4⟩ := Option.map_eq_some_iff.mp e2
    cases e4
    exact .cons (S.peek r e1) (S.peeks t e3)
def tAp (K : PySem.W.Frag) (f : Fq) : TA := fun σ H Q => ∃ F G δ rs δ', Sim K F G H σ δ ∧ f δ = some (rs, δ') ∧ ∀ vs H' G', Sim K F G' H' σ δ' → Mv σ δ G H δ' G' H' → RepQ K G' σ vs rs → Q vs H'
def Ap (X : Cx) (es : List Expr) (f : Fq) : Prop := PA X es (tAp X.K f)
def fQ0 : Fq := fun δ => some ([], δ)
def fQ (f : Fe) (g : Fq) : Fq := fun δ => (f δ).bind fun p => (g p.2).map fun q => (p.1 :: q.1, q.2)
section
variable {X : Cx} {e : Expr} {es : List Expr} {f : Fe} {fq : Fq}
theorem ap_nil : Ap X [] fQ0 := PA.imp pa_nil fun σ H Q ⟨F, G, δ, o, δ', S, e, k⟩ => by
  cases e
  exact k [] H G S .refl .nil
theorem ap_cons (h : Ev X e f) (hr : Ap X es fq) (hs : starEach (e :: es) X.env = (false, eval e X.env) :: starEach es X.env := by rfl) : Ap X (e :: es) (fQ f fq) :=
  PA.imp (pa_cons h hr hs) fun σ H Q ⟨F, G, δ, o, δ', S, e, k⟩ => by
    obtain ⟨⟨ra, δ1⟩, e1, e⟩ := Option.bind_eq_some_iff.mp e
    obtain ⟨⟨rs, δ2⟩, e2, e3⟩ := Option.map_eq_some_iff.mp e
    cases e3
    refine ⟨F, G, δ, ra, δ1, S, e1, fun v1 H1 G1 S1 b1 r1 => ⟨F, G1, δ1, rs, _, S1, e2, fun vs H2 G2 S2 b2 r2 => ?_⟩⟩
    exact k _ H2 G2 S2 (b1.trans b2) (.cons (r1.mono b2.le) r2)

/-! ### built-ins -/
abbrev Gb := List D → Option OV
def rCT (K : PySem.W.Frag) (g : Gb) : List V → Hp → VK → Prop := fun vs H Q => ∃ G ds o, Sub G H ∧ RepKs K G H vs ds ∧ g ds = some o ∧ ∀ v G' H', Ext G H G' H' → RepP K H G' H' v o → Q v H'
def fBl (g : Gb) (fq : Fq) : Fn := fun δ => (fq δ).bind fun p => (peeks p.1 p.2).bind fun ds => (g ds).map fun o => (o, p.2)
theorem bl_imp {K : PySem.W.Frag} {g : Gb} {fq : Fq} {σ : St} {H : Hp} {Q : VK} (h : tEn K (fBl g fq) σ H Q) : tCB (rCT K g) (tAp K fq) σ H Q := by
  obtain ⟨F, G, δ, o, δ', S, e, k⟩ := h
  obtain ⟨⟨rs, δ1⟩, e1, e⟩ := Option.bind_eq_some_iff.mp e
  obtain ⟨ds, e2, e⟩ := Option.bind_eq_some_iff.mp e
  obtain ⟨o', e3, e4⟩ := Option.map_eq_some_iff.mp e
  cases e4
  refine ⟨F, G, δ, rs, _, S, e1, fun vs H1 G1 S1 b1 r1 => ⟨G1, ds, o, S1.sub, S1.peeks r1 e2, e3, fun v G2 H2 E r2 => ?_⟩⟩
  exact k v H2 G2 (S1.ext E) (b1.trans E.mv) ((r2.toO S1 E).old b1.dom)
theorem en_bl {id : String} {x : Str} {g : Gb} {p pos : Pos} (hc : CallR X (.builtin id) (rCT X.K g)) (hg : Gl X x) (hm : X.mg x = none) (hv : bootBuiltins x = some (.builtin id)) (ha : Ap X (e :: es) fq) (hn : x ≠ "__name__" := by decide) (hdb : (x == ("__debug__" : Str)) = false := by decide)
    (he : starEach (e :: es) X.env = (false, eval e X.env) :: starEach es X.env := by rfl) (hpl : (backTo pos (starEach es X.env)).any (·.1) = false := by rfl) : En X (.Call (.Name x p) (e :: es) [] pos) (fBl g fq) :=
  PE.imp (pe_callB hc hg hm hv ha hn hdb he hpl) fun σ H Q h => bl_imp h
theorem en_ty {T : String} {x : Str} {g : Gb} {p pos : Pos} (hc : CallR X (.type T) (rCT X.K g)) (hg : Gl X x) (hm : X.mg x = none) (hv : bootBuiltins x = some (.type T)) (ha : Ap X (e :: es) fq) (hn : x ≠ "__name__" := by decide) (hdb : (x == ("__debug__" : Str)) = false := by decide)
    (he : starEach (e :: es) X.env = (false, eval e X.env) :: starEach es X.env := by rfl) (hpl : (backTo pos (starEach es X.env)).any (·.1) = false := by rfl) : En X (.Call (.Name x p) (e :: es) [] pos) (fBl g fq) :=
  PE.imp (pe_callTy hc hg hm hv ha hn hdb he hpl) fun σ H Q h => bl_imp h
end
section
variable {K : PySem.W.Frag} {G H : Hp} {vs : List V} {d e : D}
theorem RepKs.one (h : RepKs K G H vs [d]) : ∃ v, vs = [v] ∧ RepK K G H v d := by
  cases h with
  | cons r t => cases t; exact ⟨_, rfl, r⟩
theorem RepKs.two (h : RepKs K G H vs [d, e]) : ∃ v w, vs = [v, w] ∧ RepK K G H v d ∧ RepK K G H w e := by
  cases h with
  | cons r t =>
    cases t with
    | cons r' t => cases t; exact ⟨_, _, rfl, r, r'⟩
end
/-- a result that is plain -/
theorem ext_val {K : PySem.W.Frag} {G H : Hp} {Q : VK} {d : D} {v : V} (sb : Sub G H) (k : ∀ v G' H', Ext G H G' H' → RepP K H G' H' v (.val d) → Q v H') (r : Rep K G v d) : Q v H := k v G H (.refl sb) r
/-- a new list -/
theorem ext_new {K : PySem.W.Frag} {G H : Hp} {Q : VK} {d : D} {p : Addr} {o : HO} (sb : Sub G H) (k : ∀ v G' H', Ext G H G' H' → RepP K H G' H' v (.new d) → Q v H') (hp : H p = none) (r : Root K G (upd H p o) p d) : Q (.ref p) (upd H p o) :=
  k _ G _ (.own sb hp) ⟨p, rfl, hp, none_of_sub sb hp, r⟩
def intsOf : List D → Option (List Int)
  | [] => some []
  | .int i :: ds => (intsOf ds).map (i :: ·)
  | _ :: _ => none
def blsOf : List D → Option (List Bool)
  | [] => some []
  | .bl b :: ds => (blsOf ds).map (b :: ·)
  | _ :: _ => none
theorem intsOf_some : ∀ {ds : List D} {is : List Int}, intsOf ds = some is → ds = is.map D.int
  | [], _, h => by cases h; rfl
  | .int i :: ds, is, h => by
    obtain ⟨js, h1, h2⟩ := Option.map_eq_some_iff.mp h
    subst h2
    rw [intsOf_some h1]; rfl
  | .bl _ :: _, _, h => nomatch h
  | .non :: _, _, h => nomatch h
  | .str _ :: _, _, h => nomatch h
  | .lst _ :: _, _, h => nomatch h
  | .tup _ :: _, _, h => nomatch h
  | .dct _ _ :: _, _, h => nomatch h
  | .obj _ _ :: _, _, h => nomatch h
  | .kl _ :: _, _, h => nomatch h
theorem blsOf_some : ∀ {ds : List D} {is : List Bool}, blsOf ds = some is → ds = is.map D.bl
  | [], _, h => by cases h; rfl
  | .bl i :: ds, is, h => by
    obtain ⟨js, h1, h2⟩ := Option.map_eq_some_iff.mp h
    subst h2
    rw [blsOf_some h1]; rfl
  | .int _ :: _, _, h => nomatch h
  | .non :: _, _, h => nomatch h
  | .str _ :: _, _, h => nomatch h
  | .lst _ :: _, _, h => nomatch h
  | .tup _ :: _, _, h => nomatch h
  | .dct _ _ :: _, _, h => nomatch h
  | .obj _ _ :: _, _, h => nomatch h
  | .kl _ :: _, _, h => nomatch h
@[simp] theorem intsOf_map (is : List Int) : intsOf (is.map D.int) = some is := by
  induction is with
  | nil => rfl
  | cons i is ih => simp [intsOf, ih]
@[simp] theorem blsOf_map (is : List Bool) : blsOf (is.map D.bl) = some is := by
  induction is with
  | nil => rfl
  | cons i is ih => simp [blsOf, ih]
theorem RepL.bls {K : PySem.W.Frag} {G : Hp} : ∀ {vs : List V} {is : List Bool}, RepL K G vs (is.map D.bl) → vs = is.map V.bl
  | _, [], .nil => rfl
  | _, i :: is, .cons h r => by
    cases h
    simp only [List.map_cons]
    rw [RepL.bls r]
theorem RepK.ints {K : PySem.W.Frag} {G H : Hp} {v : V} {ds : List D} {is : List Int} (h : RepK K G H v (.lst ds)) (s : Sub G H) (e : intsOf ds = some is) : ∃ a, v = .ref a ∧ SqL K H a (is.map V.int) := by
  obtain ⟨a, vs, rfl, h1, h2⟩ := h.lst s
  rw [intsOf_some e] at h2
  rw [h2.ints] at h1
  exact ⟨a, rfl, .inl h1⟩
theorem RepK.bls {K : PySem.W.Frag} {G H : Hp} {v : V} {ds : List D} {is : List Bool} (h : RepK K G H v (.lst ds)) (s : Sub G H) (e : blsOf ds = some is) : ∃ a, v = .ref a ∧ SqL K H a (is.map V.bl) := by
  obtain ⟨a, vs, rfl, h1, h2⟩ := h.lst s
  rw [blsOf_some e] at h2
  rw [h2.bls] at h1
  exact ⟨a, rfl, .inl h1⟩
section
variable {X : Cx}
def gLen : Gb
  | [.lst ds] => some (.val (.int ds.length))
  | [.tup ds] => some (.val (.int ds.length))
  | [.str z] => if z.length ≤ sizeLine then some (.val (.int z.length)) else none
  | [.dct false kvs] => some (.val (.int kvs.length))
  | [.kl ns] => some (.val (.int ns.length))
  | _ => none
theorem bl_len : CallR X (.builtin "len") (rCT X.K gLen) := by
  intro pins s σ H xs us Q I r ⟨G, ds, o, sb, rk, e, k⟩
  unfold gLen at e
  split at e
  · cases e
    obtain ⟨v, rfl, rv⟩ := rk.one
    obtain ⟨a, vs, rfl, h1, h2⟩ := rv.lst sb
    exact call_len pins s σ H _ us Q I r ⟨_, _, rfl, .inl ⟨vs, .inl h1, rfl⟩, ext_val sb k (by rw [h2.length]; exact .int _)⟩
  · cases e
    obtain ⟨v, rfl, rv⟩ := rk.one
    obtain ⟨a, vs, rfl, h1, h2⟩ := rv.tup sb
    exact call_len pins s σ H _ us Q I r ⟨_, _, rfl, .inr ⟨vs, .inl (.inl h1), rfl⟩, ext_val sb k (by rw [h2.length]; exact .int _)⟩
  · split at e
    · rename_i hz
      cases e
      obtain ⟨v, rfl, rv⟩ := rk.one
      have := rv.str
      subst this
      exact call_len pins s σ H _ us Q I r ⟨_, _, rfl, ⟨hz, rfl⟩, ext_val sb k (.int _)⟩
    · cases e
  · cases e
    obtain ⟨v, rfl, rv⟩ := rk.one
    obtain ⟨a, kvs, rfl, h1, h2⟩ := rv.dK sb
    obtain ⟨u, rfl, ru⟩ := vals1 r
    cases ru
    exact d_len I h1 fun t s' I' => ⟨.int kvs.length, H, I', ⟨t, rfl⟩, ext_val sb k (by rw [h2.len]; exact .int _)⟩
  · cases e
    obtain ⟨v, rfl, rv⟩ := rk.one
    obtain ⟨a, rfl, h1⟩ := rv.kl sb
    exact call_len pins s σ H _ us Q I r ⟨_, _, rfl, .inl ⟨_, h1, rfl⟩, ext_val sb k (by rw [List.length_map]; exact .int _)⟩
  · cases e
def gAbs : Gb
  | [.int i] => some (.val (.int (if i < 0 then -i else i)))
  | _ => none
theorem bl_abs : CallR X (.builtin "abs") (rCT X.K gAbs) := by
  intro pins s σ H xs us Q I r ⟨G, ds, o, sb, rk, e, k⟩
  unfold gAbs at e
  split at e
  · cases e
    obtain ⟨v, rfl, rv⟩ := rk.one
    have := rv.int
    subst this
    exact call_abs pins s σ H _ us Q I r ⟨_, rfl, ext_val sb k (.int _)⟩
  · cases e
def gInt : Gb
  | [.int i] => some (.val (.int i))
  | [.bl b] => some (.val (.int (if b then 1 else 0)))
  | _ => none
theorem bl_int : CallR X (.type "int") (rCT X.K gInt) := by
  intro pins s σ H xs us Q I r ⟨G, ds, o, sb, rk, e, k⟩
  unfold gInt at e
  split at e
  · cases e
    obtain ⟨v, rfl, rv⟩ := rk.one
    have := rv.int
    subst this
    exact call_int1 pins s σ H _ us Q I r (.inl ⟨_, rfl, ext_val sb k (.int _)⟩)
  · cases e
    obtain ⟨v, rfl, rv⟩ := rk.one
    have := rv.bl
    subst this
    exact call_int1 pins s σ H _ us Q I r (.inr ⟨_, rfl, ext_val sb k (.int _)⟩)
  · cases e
def gSum : Gb
  | [.lst ds] => (intsOf ds).map fun is => .val (.int is.sum)
  | _ => none
theorem bl_sum (hc : X.calm = true) : CallR X (.builtin "sum") (rCT X.K gSum) := by
  intro pins s σ H xs us Q I r ⟨G, ds, o, sb, rk, e, k⟩
  unfold gSum at e
  split at e
  · obtain ⟨is, e1, e2⟩ := Option.map_eq_some_iff.mp e
    cases e2
    obtain ⟨v, rfl, rv⟩ := rk.one
    obtain ⟨a, rfl, h⟩ := rv.ints sb e1
    exact cr_sum hc pins s σ H _ us Q I r ⟨a, is, rfl, h, ext_val sb k (.int _)⟩
  · cases e
def gMax : Gb
  | [.lst ds] => (intsOf ds).bind fun is => is.max?.map fun m => .val (.int m)
  | [.int i, .int j] => some (.val (.int (max i j)))
  | _ => none
def gMin : Gb
  | [.lst ds] => (intsOf ds).bind fun is => is.min?.map fun m => .val (.int m)
  | [.int i, .int j] => some (.val (.int (min i j)))
  | _ => none
theorem bl_max (hc : X.calm = true) : CallR X (.builtin "max") (rCT X.K gMax) := by
  intro pins s σ H xs us Q I r ⟨G, ds, o, sb, rk, e, k⟩
  unfold gMax at e
  split at e
  · obtain ⟨is, e1, e⟩ := Option.bind_eq_some_iff.mp e
    obtain ⟨m, e2, e3⟩ := Option.map_eq_some_iff.mp e
    cases e3
    obtain ⟨v, rfl, rv⟩ := rk.one
    obtain ⟨a, rfl, h⟩ := rv.ints sb e1
    obtain ⟨h1, h2⟩ := List.max?_eq_some_iff.mp e2
    refine cr_max hc pins s σ H _ us Q I r ⟨a, is, rfl, h, List.length_pos_of_mem h1, fun m' h3 h4 => ?_⟩
    have : m' = m := Int.le_antisymm (h2 m' h3) (h4 m h1)
    subst this
    exact ext_val sb k (.int _)
  · cases e
    rename_i i j
    obtain ⟨v, w, rfl, rv, rw'⟩ := rk.two
    have := rv.int
    have := rw'.int
    subst v w
    refine call_max2 hc pins s σ H _ us Q I r ⟨_, _, rfl, ext_val sb k ?_⟩
    have : (if j > i then j else i) = max i j := by rw [Int.max_def]; split <;> split <;> omega
    rw [this]
    exact .int _
  · cases e
theorem bl_min (hc : X.calm = true) : CallR X (.builtin "min") (rCT X.K gMin) := by
  intro pins s σ H xs us Q I r ⟨G, ds, o, sb, rk, e, k⟩
  unfold gMin at e
  split at e
  · obtain ⟨is, e1, e⟩ := Option.bind_eq_some_iff.mp e
    obtain ⟨m, e2, e3⟩ := Option.map_eq_some_iff.mp e
    cases e3
    obtain ⟨v, rfl, rv⟩ := rk.one
    obtain ⟨a, rfl, h⟩ := rv.ints sb e1
    obtain ⟨h1, h2⟩ := List.min?_eq_some_iff.mp e2
    refine cr_min hc pins s σ H _ us Q I r ⟨a, is, rfl, h, List.length_pos_of_mem h1, fun m' h3 h4 => ?_⟩
    have : m' = m := Int.le_antisymm (h4 m h1) (h2 m' h3)
    subst this
    exact ext_val sb k (.int _)
  · cases e
    rename_i i j
    obtain ⟨v, w, rfl, rv, rw'⟩ := rk.two
    have := rv.int
    have := rw'.int
    subst v w
    refine call_min2 hc pins s σ H _ us Q I r ⟨_, _, rfl, ext_val sb k ?_⟩
    have : (if j < i then j else i) = min i j := by rw [Int.min_def]; split <;> split <;> omega
    rw [this]
    exact .int _
  · cases e
def gAll : Gb
  | [.lst ds] => (blsOf ds).map fun bs => .val (.bl (bs.all id))
  | _ => none
def gAny : Gb
  | [.lst ds] => (blsOf ds).map fun bs => .val (.bl (bs.any id))
  | _ => none
theorem bl_all (hc : X.calm = true) : CallR X (.builtin "all") (rCT X.K gAll) := by
  intro pins s σ H xs us Q I r ⟨G, ds, o, sb, rk, e, k⟩
  unfold gAll at e
  split at e
  · obtain ⟨is, e1, e2⟩ := Option.map_eq_some_iff.mp e
    cases e2
    obtain ⟨v, rfl, rv⟩ := rk.one
    obtain ⟨a, rfl, h⟩ := rv.bls sb e1
    exact cr_all hc pins s σ H _ us Q I r ⟨a, is, rfl, h, ext_val sb k (.bl _)⟩
  · cases e
theorem bl_any (hc : X.calm = true) : CallR X (.builtin "any") (rCT X.K gAny) := by
  intro pins s σ H xs us Q I r ⟨G, ds, o, sb, rk, e, k⟩
  unfold gAny at e
  split at e
  · obtain ⟨is, e1, e2⟩ := Option.map_eq_some_iff.mp e
    cases e2
    obtain ⟨v, rfl, rv⟩ := rk.one
    obtain ⟨a, rfl, h⟩ := rv.bls sb e1
    exact cr_any hc pins s σ H _ us Q I r ⟨a, is, rfl, h, ext_val sb k (.bl _)⟩
  · cases e
def gList : Gb
  | [.lst ds] => some (.new (.lst ds))
  | [.tup ds] => some (.new (.lst ds))
  | [.dct false kvs] => some (.new (.lst (kvs.map (·.1))))
  | _ => none
theorem RepD.keysL {K : PySem.W.Frag} {G : Hp} : ∀ {vs : List (Key × V)} {ds : List (D × D)}, RepD K G vs ds → RepL K G (vs.map fun kv => L2.kV kv.1) (ds.map (·.1))
  | _, _, .nil => .nil
  | _, _, .cons _ r => .cons (.kV _) r.keysL
theorem bl_list (hc : X.calm = true) : CallR X (.type "list") (rCT X.K gList) := by
  intro pins s σ H xs us Q I r ⟨G, ds, o, sb, rk, e, k⟩
  unfold gList at e
  split at e
  · cases e
    obtain ⟨v, rfl, rv⟩ := rk.one
    obtain ⟨a, vs, rfl, h1, h2⟩ := rv.lst sb
    exact call_list_of pins s σ H _ us Q I r ⟨a, vs, rfl, .inl (.inl h1), fun l hl => ext_new sb k hl (.lst upd_same h2)⟩
  · cases e
    obtain ⟨v, rfl, rv⟩ := rk.one
    obtain ⟨a, vs, rfl, h1, h2⟩ := rv.tup sb
    exact call_list_of pins s σ H _ us Q I r ⟨a, vs, rfl, .inr (.inl (.inl h1)), fun l hl => ext_new sb k hl (.lst upd_same h2)⟩
  · cases e
    obtain ⟨v, rfl, rv⟩ := rk.one
    obtain ⟨a, kvs, rfl, h1, h2⟩ := rv.dK sb
    exact call_listD hc pins s σ H _ us Q I r ⟨a, kvs, rfl, h1, fun p hp => ext_new sb k hp (.lst upd_same h2.keysL)⟩
  · cases e
/-- dict(d), dict(pairs) -/
def pairsOf : List D → Option (List (D × D))
  | [] => some []
  | .tup [a, b] :: ds => if isKey1 a = true then (pairsOf ds).map ((a, b) :: ·) else none
  | _ :: _ => none
def kvMerge (acc more : List (D × D)) : List (D × D) := more.foldl (fun acc kv => kvPut acc kv.1 kv.2) acc
def gDict : Gb
  | [.dct false kvs] => some (.new (.dct false kvs))
  | [.lst ds] => (pairsOf ds).map fun ps => .new (.dct false (kvMerge [] ps))
  | _ => none
theorem RepL.pairs {K : PySem.W.Frag} {G : Hp} : ∀ {ds : List D} {vs : List V} {ps : List (D × D)}, RepL K G vs ds → pairsOf ds = some ps →
    ∃ (as : List Addr) (kvs : List (Key × V)), vs = as.map V.ref ∧ Paired (fun p kv => G p = some (.tup [kV kv.1, kv.2])) as kvs ∧ RepD K G kvs ps
  | [], _, _, .nil, e => by cases e; exact ⟨[], [], rfl, .nil, .nil⟩
  | d :: ds, _, ps, .cons h r, e => by
    unfold pairsOf at e
    split at e
    · rename_i q; cases q
    · rename_i a b ds' q
      cases q
      split at e
      · rename_i hk
        obtain ⟨ps', e1, e2⟩ := Option.map_eq_some_iff.mp e
        subst e2
        obtain ⟨as, kvs, rfl, h1, h2⟩ := RepL.pairs r e1
        obtain ⟨key, rfl⟩ := isKey1_kD hk
        cases h with
        | tup hq rl =>
          rename_i p ws
          cases rl with
          | cons ra rl =>
            cases rl with
            | cons rb rl =>
              cases rl
              have : _ = kV key := RepK.kV (K := K) (G := G) (H := G) (.inl ra)
              subst this
              exact ⟨p :: as, (key, _) :: kvs, rfl, .cons hq h1, .cons rb h2⟩
      · cases e
    · cases e
theorem RepD.merge {K : PySem.W.Frag} {G : Hp} : ∀ {vs : List (Key × V)} {ds : List (D × D)} {ws : List (Key × V)} {es : List (D × D)}, RepD K G vs ds → RepD K G ws es → RepD K G (mergeK vs ws) (kvMerge ds es)
  | _, _, _, _, a, .nil => a
  | vs, ds, _, _, a, .cons (k := k) (v := v) (vs := ws) (d := d) (ds := es) h r => RepD.merge (vs := putK vs k v) (ds := kvPut ds (kD k) d) (a.put h) r
theorem bl_dict (hc : X.calm = true) : CallR X (.type "dict") (rCT X.K gDict) := by
  intro pins s σ H xs us Q I r ⟨G, ds, o, sb, rk, e, k⟩
  unfold gDict at e
  split at e
  · cases e
    obtain ⟨v, rfl, rv⟩ := rk.one
    obtain ⟨a, kvs, rfl, h1, h2⟩ := rv.dK sb
    exact call_dictD pins s σ H _ us Q I r ⟨a, kvs, rfl, h1, fun p hp => ext_new sb k hp (.dK upd_same h2)⟩
  · obtain ⟨ps, e1, e2⟩ := Option.map_eq_some_iff.mp e
    cases e2
    obtain ⟨v, rfl, rv⟩ := rk.one
    obtain ⟨a, vs, rfl, h1, h2⟩ := rv.lst sb
    obtain ⟨as, kvs, rfl, h3, h4⟩ := h2.pairs e1
    refine call_dictP hc pins s σ H _ us Q I r ⟨a, as, kvs, rfl, .inl h1, ?_, fun p hp => ext_new sb k hp (.dK upd_same (RepD.merge .nil h4))⟩
    clear e1 h4 h2 h1 r
    induction h3 with
    | nil => exact .nil
    | cons q _ ih => exact .cons (.inl (.inl (sb _ _ q))) ih
  · cases e
def gTuple : Gb
  | [.lst ds] => some (.val (.tup ds))
  | [.tup ds] => some (.val (.tup ds))
  | _ => none
theorem bl_tuple : CallR X (.type "tuple") (rCT X.K gTuple) := by
  intro pins s σ H xs us Q I r ⟨G, ds, o, sb, rk, e, k⟩
  unfold gTuple at e
  split at e
  · cases e
    obtain ⟨v, rfl, rv⟩ := rk.one
    obtain ⟨a, vs, rfl, h1, h2⟩ := rv.lst sb
    refine call_tuple_of pins s σ H _ us Q I r ⟨a, vs, rfl, .inl ⟨.inl h1, fun l hl => ?_⟩⟩
    have E : Ext G H (upd G l (.tup vs)) (upd H l (.tup vs)) := .add sb hl
    exact k _ _ _ E (.tup upd_same (h2.mono E.gg.le))
  · cases e
    obtain ⟨v, rfl, rv⟩ := rk.one
    obtain ⟨a, vs, rfl, h1, h2⟩ := rv.tup sb
    refine call_tuple_of pins s σ H _ us Q I r ⟨a, vs, rfl, .inr ⟨.inl (.inl h1), ?_⟩⟩
    rcases rv with rv | ⟨p, _, rv⟩
    · exact ext_val sb k rv
    · cases rv
  · cases e
/-! sorted -/
def sortI (is : List Int) : List Int := is.mergeSort (fun a b => decide (a ≤ b))
theorem sortI_perm (is : List Int) : (sortI is).Perm is := List.mergeSort_perm _ _
theorem sortI_sorted (is : List Int) : (sortI is).Pairwise (· ≤ ·) := by
  have := List.pairwise_mergeSort (le := fun a b : Int => decide (a ≤ b)) (fun a b c h1 h2 => by simp at *; omega) (fun a b => by simp; omega) is
  exact this.imp fun h => of_decide_eq_true h
theorem sortI_uniq {is js : List Int} (hp : js.Perm is) (hs : js.Pairwise (· ≤ ·)) : js = sortI is :=
  List.Perm.eq_of_pairwise (fun _ _ _ _ h1 h2 => Int.le_antisymm h1 h2) hs (sortI_sorted is) (hp.trans (sortI_perm is).symm)
end
end L2.Tl
namespace L2.Tl
open PySem PySem.Spec PyProof.Rows
section
variable {X : Cx}
/-- sorted of a list of plain data, alike; of a dict with few int keys -/
def pdOf (d : D) : PyData := d.pd.getD .none
def isTupC : PyData → Bool
  | .tuple (_ :: _) => true
  | _ => false
def isFlatS : PyData → Bool
  | .tuple _ => false
  | .none => false
  | _ => true
def sortable (ps : List PyData) : Bool := (ps.all fun p => ps.all fun q => PySem.W.alike p q) && (ps.all isTupC || ps.all isFlatS) && ps.all fun p => decide (p.depth ≤ 60)
def sortD (ds : List D) : List D := ds.mergeSort (PySem.W.dataLe false pdOf)
def gSorted : Gb
  | [.lst ds] => (pdL ds).bind fun ps => if sortable ps = true ∧ ds.length ≤ sizeLine then some (.new (.lst (sortD ds))) else none
  | [.dct false kvs] => (intsOf (kvs.map (·.1))).map fun is => .new (.lst ((sortI is).map .int))
  | _ => none
theorem pdL_map : ∀ {ds : List D} {ps : List PyData}, pdL ds = some ps → ps = ds.map pdOf ∧ ∀ d ∈ ds, d.pd = some (pdOf d)
  | [], _, h => by cases h; exact ⟨rfl, fun d hd => by simp at hd⟩
  | d :: ds, ps, h => by
    simp only [pdL] at h
    cases q1 : d.pd with
    | none => rw [q1] at h; cases h
    | some p =>
      cases q2 : pdL ds with
      | none => rw [q1, q2] at h; cases h
      | some qs =>
        rw [q1, q2] at h
        cases h
        obtain ⟨e, k⟩ := pdL_map q2
        subst e
        refine ⟨by simp [pdOf, q1], fun x hx => ?_⟩
        rcases List.mem_cons.mp hx with rfl | hx
        · simp [pdOf, q1]
        · exact k x hx
theorem pick_each {K : PySem.W.Frag} {G : Hp} {out : List Value} {bs : List D} (h : PySem.W.EachIs (fun v d => ∃ x, RelV x v ∧ Rep K G x d) out bs) : ∃ xs, Vals xs out ∧ RepL K G xs bs := by
  induction h with
  | nil => exact ⟨[], .nil, .nil⟩
  | cons q _ ih =>
    obtain ⟨x, h1, h2⟩ := q
    obtain ⟨xs, h3, h4⟩ := ih
    exact ⟨x :: xs, .cons h1 h3, .cons h2 h4⟩
/-- sorted(d) of a dict, all keys ints, any number of them -/
theorem call_sortedDIA (hcalm : X.calm = true) : CallR X (.builtin "sorted") (fun xs H Q => ∃ (a : Addr) (kvs : List (Key × V)) (ks : List Int), xs = [.ref a] ∧ Rd H a (.dK kvs) ∧ kvs.map (·.1) = ks.map Sum.inl ∧
    ∀ (ys : List Int) (p : Addr), ys.Perm ks → ys.Pairwise (· ≤ ·) → H p = none → Q (.ref p) (upd H p (.lst (ys.map V.int)))) := by
  intro pins s σ H xs us Q I r q
  obtain ⟨a, kvs, ks, ex, hd, hks, q⟩ := q
  subst ex
  obtain ⟨u, eu, rx⟩ := vals1 r
  subst eu
  cases rx
  obtain ⟨z, lo, vs, rel, dd⟩ := dk_rd I.hok hd
  obtain ⟨ep, hat⟩ := dd.dictAt
  have hkeys : vs.map (·.1) = ks.map Sum.inl := rel.keys.symm.trans hks
  have hl : vs.length = ks.length := by
    have e := congrArg List.length hkeys
    rw [List.length_map, List.length_map] at e
    exact e
  have h16 : vs.length ≤ sizeLine := by rw [← rel.length]; exact z
  refine Calls.call_function_entry PyProof.Rows.kind_sorted PyProof.Rows.plain_sorted PyProof.Rows.entry_sorted (PyProof.Rows.args_sorted1 _) ?_
  unfold Builtin.«sorted»
  refine wpAny_bind (m := checkCount "sorted" 1 1 _) (wpAny_pure ?_)
  refine wpAny_bind (PySem.W.kdu_collect (A := X.A.in1) (PySem.W.kdl_dict (knd := mixKind X.prog X.w) (kvs := vs) (ep := ep) lo) (I.ok.hd hcalm) hat h16 fun h' tk acc hk hacc => ?_)
  have hal : acc.toList.length = ks.length := by rw [Array.length_toList, hacc.1, hl]
  have hS : IntsAre acc.toList ks := ints_each hal fun j v e => by
    obtain ⟨k, x, e1, e2⟩ := hacc.2 j v (by rw [← Array.getElem?_toList]; exact e)
    have e3 : (vs.map (·.1))[j]? = some k := by rw [List.getElem?_map, e1]; rfl
    rw [hkeys, List.getElem?_map] at e3
    cases e4 : ks[j]? with
    | none => rw [e4] at e3; cases e3
    | some y =>
      rw [e4] at e3
      have e5 : Sum.inl y = k := Option.some.inj e3
      subst e5
      rcases keyIs_shape (show keyIs (Sum.inl y) v = true from e2) with ⟨i, t, ek, ev⟩ | ⟨z, t, ek, ev⟩
      · cases ek
        exact ⟨y, t, rfl, ev⟩
      · cases ek
  have I1 : Inv X pins σ H { s with heap := h', toks := tk } := I.kept hk
  have hz2 : acc.toList.length ≤ sizeLine := by rw [hal, ← hl]; exact h16
  refine wpAny_bind (wpAny_newList ?_ hz2)
  have hoL : (h'.push (seqObj "list" acc.toList.toArray 0)).get? h'.objs.size = some (seqObj "list" acc.toList.toArray 0) := Heap.get?_push_size _ rfl
  show wpAny _ _ _ _ _ { s with heap := h'.push (seqObj "list" acc.toList.toArray 0), toks := tk }
  refine wpAny_bind (wpAny_holding (wpAny_call_entry PyProof.Rows.slot_list_sort ⟨_, hoL, rfl⟩ PyProof.Rows.entry_list_sort
    (SrtO.list_sort_ord (s := { s with heap := h'.push (seqObj "list" acc.toList.toArray 0), toks := tk }) SrtO.swo_int hoL hz2 (fun h2 => SrtO.ints_sortable hS h2) fun out o1 o2 => ⟨_, rfl, ?_⟩) (PyProof.Rows.args_list_sort _)))
  obtain ⟨k1, k2, k3⟩ := SrtO.ints_out hS o1 o2
  obtain ⟨e', he'⟩ := PyProof.Rows.sortedHeap_at (vs := acc.toList) (out := out.toArray) hoL
  have hlen : ((out.map SrtO.iv).map V.int).length ≤ sizeLine := by
    rw [List.length_map, k2.length_eq, ← hl]
    exact h16
  refine wpAny_pure ⟨_, rfl, .ref h'.objs.size, upd H h'.objs.size (.lst ((out.map SrtO.iv).map V.int)), I1.laid (t' := tk) (fun b u e => ?_) (Nat.le_refl _)
    (show ObjOk X.prog X.w _ _ _ (.lst ((out.map SrtO.iv).map V.int)) from ⟨hlen, out, e', vals_of_ints k1, he'⟩), rfl, q _ _ k2 k3 (I1.hok.fresh (Nat.le_refl _))⟩
  have hb : b < h'.objs.size := Heap.lt_size e
  rw [PyProof.Rows.sortedHeap_old (Nat.ne_of_lt hb) (by rw [size_push']; exact Nat.lt_succ_of_lt hb)]
  exact Heap.get?_push_of_some _ e
theorem each_of {pins : List (Addr × Obj)} {σ : St} {G H : Hp} {s : Shared} (I : Inv X pins σ H s) (sb : Sub G H) : ∀ {vs : List V} {ds : List D} {its : List Value}, RepL X.K G vs ds → Vals vs its → (∀ d ∈ ds, d.pd = some (pdOf d)) →
    PySem.W.EachIs (fun v d => (∃ x, RelV x v ∧ Rep X.K G x d) ∧ ∃ as, Reads s.heap v (pdOf d) as) its ds
  | _, _, _, .nil, rv, _ => by cases rv; exact .nil
  | _, _, _, .cons h t, rv, hp => by
    cases rv with
    | cons q rv => exact .cons ⟨⟨_, q, h⟩, Dp.reads I _ _ _ (Rep.dp _ _ _ (h.mono sb.le) (hp _ (by simp))) q⟩ (each_of I sb t rv fun d hd => hp d (List.mem_cons_of_mem _ hd))
theorem keys_of {K : PySem.W.Frag} {G : Hp} : ∀ {vs : List (Key × V)} {kvs : List (D × D)} {is : List Int}, RepD K G vs kvs → intsOf (kvs.map (·.1)) = some is → vs.map (·.1) = is.map Sum.inl
  | _, _, _, .nil, e => by cases e; rfl
  | _, _, is, .cons (k := kk) (ds := ds) h t, e => by
    cases kk with
    | inl i =>
      obtain ⟨js, e2, e3⟩ := Option.map_eq_some_iff.mp (show (intsOf (ds.map (·.1))).map (i :: ·) = some is from e)
      subst e3
      simp only [List.map_cons, keys_of t e2]
    | inr z => cases (show (none : Option (List Int)) = some is from e)
theorem bl_sorted (hc : X.calm = true) (hu : X.A.units + 64 < cLine) : CallR X (.builtin "sorted") (rCT X.K gSorted) := by
  intro pins s σ H xs us Q I r ⟨G, ds, o, sb, rk, e, k⟩
  unfold gSorted at e
  split at e
  · rename_i ds
    obtain ⟨ps, e1, e⟩ := Option.bind_eq_some_iff.mp e
    split at e
    · rename_i hz
      cases e
      obtain ⟨v, rfl, rv⟩ := rk.one
      obtain ⟨a, vs, rfl, h1, h2⟩ := rv.lst sb
      obtain ⟨its, rv', pl, hz'⟩ := I.list (.inl h1)
      obtain ⟨ep, epd⟩ := pdL_map e1
      obtain ⟨u, rfl, ru⟩ := vals1 r
      cases ru
      have hz1 := hz.1
      unfold sortable at hz1
      simp only [Bool.and_eq_true, List.all_eq_true, Bool.or_eq_true, decide_eq_true_eq] at hz1
      obtain ⟨⟨g1, g2⟩, g3⟩ := hz1
      rw [ep] at g1 g2 g3
      have ea := each_of I sb h2 rv' epd
      refine PySem.W.sorted_data (enc := pdOf) (R := fun v d => ∃ x, RelV x v ∧ Rep X.K G x d) pl.isList (ea.mono fun _ _ q => q.1) (ea.mono fun _ _ q => q.2) g1 ?_ hz.2 (fun b hb => ?_) fun out hl hout => ?_
      · rcases g2 with g2 | g2
        · refine .inl fun d hd => ?_
          have := g2 d hd
          unfold isTupC at this
          split at this
          · exact ⟨_, _, rfl⟩
          · cases this
        · refine .inr fun d hd => ⟨fun z => ?_, fun xs z => ?_⟩
          · have := g2 d hd; rw [z] at this; cases this
          · have := g2 d hd; rw [z] at this; cases this
      · have := g3 (pdOf b) (List.mem_map.mpr ⟨b, hb, rfl⟩)
        omega
      · obtain ⟨xs, o1, o2⟩ := pick_each hout
        obtain ⟨ep', he'⟩ := PyProof.Rows.sortedAll_at s.heap its (List.toArray out)
        have hlen : xs.length ≤ sizeLine := by rw [o1.length, hl]; exact hz.2
        have hn : H (s.heap.objs.size + 1) = none := I.hok.fresh (Nat.le_succ _)
        refine ⟨.ref (s.heap.objs.size + 1), upd H (s.heap.objs.size + 1) (.lst xs), I.laid (t' := s.toks) (fun _ _ => PyProof.Rows.sortedAll_old) (Nat.le_succ _) ⟨hlen, out, ep', o1, he'⟩, rfl, ext_new sb k hn (.lst upd_same o2)⟩
    · cases e
  · rename_i kvs
    obtain ⟨is, e1, e2⟩ := Option.map_eq_some_iff.mp e
    cases e2
    obtain ⟨v, rfl, rv⟩ := rk.one
    obtain ⟨a, vs, rfl, h1, h2⟩ := rv.dK sb
    refine call_sortedDIA hc pins s σ H _ us Q I r ⟨a, vs, is, rfl, h1, keys_of h2 e1, fun ys p hp hs hn => ext_new sb k hn (.lst upd_same ?_)⟩
    rw [sortI_uniq hp hs]
    exact .of_ints _
  · cases e

/-! ### isinstance -/
def tyB (T : String) : D → Option Bool
  | .non => kitB "NoneType" T
  | .bl _ => kitB "bool" T
  | .int _ => kitB "int" T
  | .str _ => kitB "str" T
  | .lst _ => kitB "list" T
  | .tup _ => kitB "tuple" T
  | .dct false _ => kitB "dict" T
  | .dct true _ => none
  | _ => none
/-- its type's name -/
def tyN : D → Option String
  | .non => some "NoneType"
  | .bl _ => some "bool"
  | .int _ => some "int"
  | .str _ => some "str"
  | .lst _ => some "list"
  | .tup _ => some "tuple"
  | .dct false _ => some "dict"
  | _ => none
theorem tyX_of {K : PySem.W.Frag} {G H : Hp} {v : V} {d : D} {n : String} (r : RepK K G H v d) (sb : Sub G H) (h : tyN d = some n) : TyX K H v (.type n) := by
  have r := r.all sb
  cases r with
  | non => cases h; exact .base .non
  | bl x => cases h; exact .base (.bl x)
  | int x => cases h; exact .base (.int x)
  | str x => cases h; exact .base (.str x)
  | lst hq _ =>
    cases h
    rcases hq with hq | ⟨o, hq⟩
    · exact .base (.lst hq)
    · exact .base (.frz hq)
  | tup hq _ => cases h; exact .base (.tup hq)
  | dK hq _ =>
    cases h
    rcases hq with hq | ⟨o, hq⟩
    · exact .base (.dK hq)
    · exact .fDict hq
  | dT hq _ => cases h
  | obj hq _ => cases h
  | kl _ => cases h
def kitTab (T n : String) : Bool := decide (n = T) || (decide (n = "bool") && decide (T = "int"))
/-- the names that the table tells rightly -/
def KitOk (T : String) : Prop := ∀ n ∈ ["NoneType", "bool", "int", "str", "list", "tuple", "dict"], kitB n T = some (kitTab T n)
theorem tyN_in {d : D} {n : String} (h : tyN d = some n) : n ∈ ["NoneType", "bool", "int", "str", "list", "tuple", "dict"] := by
  unfold tyN at h
  split at h <;> cases h <;> decide
def isiD (T : String) (d : D) : Option Bool := (tyN d).map (kitTab T)
def fIsi (T : String) (f : Fe) : Fe := fun δ => (f δ).bind fun p => (peek p.1 p.2).bind fun d => (isiD T d).map fun b => (.val (.bl b), p.2)
variable {pos p p1 p2 : Pos} {e : Expr} {f : Fe} {T : String} {t : Str}
theorem ev_isi (hk : KitOk T) (hg : Gl X "isinstance") (hm : X.mg "isinstance" = none) (hg' : Gl X t) (hm' : X.mg t = none) (hv : bootBuiltins t = some (.type T)) (h : Ev X e f) (hn : t ≠ "__name__" := by decide) (hd : (t == ("__debug__" : Str)) = false := by decide)
    (he : starEach [e, .Name t p1] X.env = (false, eval e X.env) :: starEach [.Name t p1] X.env := by rfl) (hs : starEach [.Name t p1] X.env = (false, eval (.Name t p1) X.env) :: starEach [] X.env := by rfl) (hpl : (backTo pos (starEach [.Name t p1] X.env)).any (·.1) = false := by rfl) :
    Ev X (.Call (.Name "isinstance" p) [e, .Name t p1] [] pos) (fIsi T f) :=
  PE.imp (pe_callB call_isi hg hm PyProof.Rows.boot_isinstance (pa_cons h (pa_cons (pe_bltn (v := .ty T) hg' hm' hv rfl hn hd) pa_nil hs) he) (by decide) (by decide) he hpl) fun σ H Q ⟨F, G, δ, r, δ', S, e, k⟩ => by
    obtain ⟨⟨ra, δ1⟩, e1, e⟩ := Option.bind_eq_some_iff.mp e
    obtain ⟨d, e2, e⟩ := Option.bind_eq_some_iff.mp e
    obtain ⟨b, e3, e4⟩ := Option.map_eq_some_iff.mp e
    cases e4
    obtain ⟨n, e5, e6⟩ := Option.map_eq_some_iff.mp e3
    refine ⟨F, G, δ, ra, _, S, e1, fun v H1 G1 S1 m1 r1 => ?_⟩
    refine ⟨v, .ty T, .type n, .type T, b, rfl, .ty T, tyX_of (S1.peek r1 e2) S1.sub e5, ?_, k _ H1 G1 S1 m1 (.bl _)⟩
    rw [← e6]
    exact kit_ty (hk n (tyN_in e5))
/-- isinstance(x, (T, U)), (T, U, W) -/
def fIsi2 (Ts : List String) (f : Fe) : Fe := fun δ => (f δ).bind fun p => (peek p.1 p.2).bind fun d => (tyN d).map fun n => (.val (.bl (Ts.any fun T => kitTab T n)), p.2)
end
end L2.Tl
namespace L2.Tl
open PySem PySem.Spec PyProof.Rows
section
variable {X : Cx} {pos p p1 p2 : Pos} {e : Expr} {f : Fe} {T : String} {t : Str}
theorem kit_int : KitOk "int" := by unfold KitOk; decide +kernel
theorem kit_bool : KitOk "bool" := by unfold KitOk; decide +kernel
theorem kit_str : KitOk "str" := by unfold KitOk; decide +kernel
theorem kit_list : KitOk "list" := by unfold KitOk; decide +kernel
theorem kit_tuple : KitOk "tuple" := by unfold KitOk; decide +kernel
theorem kit_dict : KitOk "dict" := by unfold KitOk; decide +kernel
def tTys (Ts : List String) : TA := fun _ H Q => Q (Ts.map V.ty) H
inductive Tys (X : Cx) : List Expr → List String → Prop
  | nil : Tys X [] []
  | cons {t : Str} {T : String} {p : Pos} {es : List Expr} {Ts : List String} : KitOk T → Gl X t → X.mg t = none → bootBuiltins t = some (.type T) → t ≠ "__name__" → (t == ("__debug__" : Str)) = false →
      starEach (.Name t p :: es) X.env = (false, eval (.Name t p) X.env) :: starEach es X.env → Tys X es Ts → Tys X (.Name t p :: es) (T :: Ts)
theorem Tys.pa {es : List Expr} {Ts : List String} (h : Tys X es Ts) : PA X es (tTys Ts) := by
  induction h with
  | nil => exact PA.imp pa_nil fun σ H Q h => h
  | cons a b c d e g hs _ ih => exact PA.imp (pa_cons (pe_bltn (v := .ty _) b c d rfl e g) ih hs) fun σ H Q h => h
theorem Tys.ok {es : List Expr} {Ts : List String} (h : Tys X es Ts) : ∀ T ∈ Ts, KitOk T := by
  induction h with
  | nil => intro T h; simp at h
  | cons a _ _ _ _ _ _ _ ih =>
    intro T h
    rcases List.mem_cons.mp h with rfl | h
    · exact a
    · exact ih T h
theorem kitAny_tab {K : PySem.W.Frag} {n : String} (hn : n ∈ ["NoneType", "bool", "int", "str", "list", "tuple", "dict"]) : ∀ {Ts : List String}, (∀ T ∈ Ts, KitOk T) → PySem.W.kitAny K (.type n) (Ts.map Value.type) = some (Ts.any fun T => kitTab T n)
  | [], _ => kitAny_nil
  | T :: Ts, h => by
    have h1 := kit_ty (K := K) (h T (by simp) n hn)
    refine kitAny_cons h1 (fun hb => ?_) (fun hb => by simp [hb])
    rw [kitAny_tab hn fun T' h' => h T' (List.mem_cons_of_mem _ h')]
    simp [hb]
theorem paired_tys : ∀ Ts : List String, Paired ClsV (Ts.map V.ty) (Ts.map Value.type)
  | [] => .nil
  | T :: Ts => .cons (.ty T) (paired_tys Ts)
theorem ev_isiT {ts : List Expr} {kt : Nat} {pt : Pos} {Ts : List String} (hg : Gl X "isinstance") (hm : X.mg "isinstance" = none) (ht : Tys X ts Ts) (h : Ev X e f) (hz : Ts.length ≤ 100 := by decide)
    (he : starEach [e, .Tuple ts kt pt] X.env = (false, eval e X.env) :: starEach [.Tuple ts kt pt] X.env := by rfl) (hs : starEach [.Tuple ts kt pt] X.env = (false, eval (.Tuple ts kt pt) X.env) :: starEach [] X.env := by rfl) (hpl : (backTo pos (starEach [.Tuple ts kt pt] X.env)).any (·.1) = false := by rfl) :
    Ev X (.Call (.Name "isinstance" p) [e, .Tuple ts kt pt] [] pos) (fIsi2 Ts f) :=
  PE.imp (pe_callB call_isiT hg hm PyProof.Rows.boot_isinstance (pa_cons h (pa_cons (pe_tup ht.pa) pa_nil hs) he) (by decide) (by decide) he hpl) fun σ H Q ⟨F, G, δ, r, δ', S, e, k⟩ => by
    obtain ⟨⟨ra, δ1⟩, e1, e⟩ := Option.bind_eq_some_iff.mp e
    obtain ⟨d, e2, e⟩ := Option.bind_eq_some_iff.mp e
    obtain ⟨n, e5, e4⟩ := Option.map_eq_some_iff.mp e
    cases e4
    refine ⟨F, G, δ, ra, _, S, e1, fun v H1 G1 S1 m1 r1 => ?_⟩
    show (Ts.map V.ty).length ≤ sizeLine ∧ _
    refine ⟨by rw [List.length_map]; exact Nat.le_trans hz (by rw [sizeLine_eq]; decide), fun q hq => ?_⟩
    have E : Ext G1 H1 (upd G1 q (.tup (Ts.map V.ty))) (upd H1 q (.tup (Ts.map V.ty))) := .add S1.sub hq
    have S2 := S1.ext E
    refine ⟨v, q, Ts.map V.ty, .type n, Ts.map Value.type, _, rfl, upd_same, ?_, tyX_of (S2.peek (r1.mono E.gg.le) e2) S2.sub e5, kitAny_tab (tyN_in e5) ht.ok, k _ _ _ S2 (m1.trans E.mv) (.bl _)⟩
    exact paired_tys Ts
/-! ### d.get(k), d.get(k, x), i.bit_length() -/
def dGetD (x : D) (y : D) (z : D) : Option D := match x with
  | .dct t kvs => if isKey t y = true then some ((kvGet kvs y).getD z) else none
  | _ => none
def fGet2 (fo fk fx : Fe) : Fn := fun δ => (fo δ).bind fun p => (peek p.1 p.2).bind fun x0 => match x0 with
  | .dct _ _ => (fk p.2).bind fun q => (fx q.2).bind fun r => (esc r.1 r.2).bind fun s => (peek p.1 s.2).bind fun x => (peek q.1 s.2).bind fun y => (dGetD x y s.1).map fun d => (.val d, s.2)
  | _ => none
def fGet1 (fo fk : Fe) : Fn := fun δ => (fo δ).bind fun p => (peek p.1 p.2).bind fun x0 => match x0 with
  | .dct _ _ => (fk p.2).bind fun q => (peek p.1 q.2).bind fun x => (peek q.1 q.2).bind fun y => (dGetD x y .non).map fun d => (.val d, q.2)
  | _ => none
theorem isD_of {K : PySem.W.Frag} {G H : Hp} {v : V} {t : Bool} {kvs : List (D × D)} (r : RepK K G H v (.dct t kvs)) (sb : Sub G H) : ∃ a, v = .ref a ∧ IsD H a := by
  have r := r.all sb
  cases r with
  | dK hq _ => exact ⟨_, rfl, .inl ⟨_, hq⟩⟩
  | dT hq _ => exact ⟨_, rfl, .inr ⟨_, hq⟩⟩
theorem repOpt_or {K : PySem.W.Frag} {G : Hp} {ov : Option V} {od : Option D} {z : V} {d : D} (h : RepOpt K G ov od) (hz : Rep K G z d) : Rep K G (ov.getD z) (od.getD d) := by
  cases ov <;> cases od
  · exact hz
  · exact (show False from h).elim
  · exact (show False from h).elim
  · exact h
variable {o k x : Expr} {fo fk fx : Fe} {apos cpos : Pos}
theorem en_get2 (hu : X.A.units + 64 < cLine) (ho : Ev X o fo) (hk : Ev X k fk) (hx : Ev X x fx) (m : M2 X o "get" apos k x cpos) : En X (.Call (.Attribute o "get" apos) [k, x] [] cpos) (fGet2 fo fk fx) :=
  PE.imp (pe_dget2 (by omega) ho hk hx m) fun σ H Q ⟨F, G, δ, oo, δ', S, e, kk⟩ => by
    obtain ⟨⟨ra, δ1⟩, e1, e⟩ := Option.bind_eq_some_iff.mp e
    obtain ⟨x0, e2, e⟩ := Option.bind_eq_some_iff.mp e
    dsimp only at e
    split at e
    · obtain ⟨⟨rb, δ2⟩, e3, e⟩ := Option.bind_eq_some_iff.mp e
      obtain ⟨⟨rc, δ3⟩, e4, e⟩ := Option.bind_eq_some_iff.mp e
      obtain ⟨⟨z, δ4⟩, e5, e⟩ := Option.bind_eq_some_iff.mp e
      obtain ⟨d, e6, e⟩ := Option.bind_eq_some_iff.mp e
      obtain ⟨y, e7, e⟩ := Option.bind_eq_some_iff.mp e
      obtain ⟨w, e8, e9⟩ := Option.map_eq_some_iff.mp e
      cases e9
      refine ⟨F, G, δ, ra, δ1, S, e1, fun v1 H1 G1 S1 m1 r1 => ?_⟩
      obtain ⟨a, rfl, hd⟩ := isD_of (S1.peek r1 e2) S1.sub
      refine ⟨a, rfl, hd, F, G1, δ1, rb, δ2, S1, e3, fun v2 H2 G2 S2 m2 r2 => ⟨F, G2, δ2, rc, δ3, S2, e4, fun v3 H3 G3 S3 m3 r3 => ?_⟩⟩
      obtain ⟨G4, S4, m4, r4⟩ := S3.esc r3 e5
      have ra4 := S4.peek (r1.mono (m2.le.trans (m3.le.trans m4.le))) e6
      have rb4 := S4.peek (r2.mono (m3.le.trans m4.le)) e7
      unfold dGetD at e8
      split at e8
      · split at e8
        · rename_i hy
          cases e8
          have m := m1.trans (m2.trans (m3.trans m4))
          obtain ⟨aa, ov, q1, q2, q3⟩ := dget_at S4.sub ra4 rb4 hy
          cases q1
          refine ⟨ov, q2, kk _ H3 G4 S4 m ?_⟩
          exact repOpt_or q3 r4
        · cases e8
      · cases e8
    · cases e
def fBits (f : Fe) : Fn := fun δ => (f δ).bind fun p => (peek p.1 p.2).bind fun d => match d with
  | .int i => some (.val (.int (Builtin.Int.intBits i : Nat)), p.2)
  | _ => none
theorem en_bits (ho : Ev X o fo) (hbase : attributeBase o "bit_length" X.env (eval o X.env) = eval o X.env := by rfl) (hline : (apos.endLine == pos.line) = true := by rfl) : En X (.Call (.Attribute o "bit_length" apos) [] [] pos) (fBits fo) :=
  PE.imp (pe_bits ho hbase hline) fun σ H Q ⟨F, G, δ, oo, δ', S, e, kk⟩ => by
    obtain ⟨⟨ra, δ1⟩, e1, e⟩ := Option.bind_eq_some_iff.mp e
    obtain ⟨x0, e2, e⟩ := Option.bind_eq_some_iff.mp e
    dsimp only at e
    split at e
    · cases e
      refine ⟨F, G, δ, ra, _, S, e1, fun v1 H1 G1 S1 m1 r1 => ?_⟩
      have := (S1.peek r1 e2).int
      exact ⟨_, this, kk _ H1 G1 S1 m1 (.int _)⟩
    · cases e
end
end L2.Tl
namespace L2.Tl
open PySem PySem.Spec PyProof.Rows
section
variable {X : Cx}
/-- d.update(d2) -/
def gUpd : D → List D → Option (D × D)
  | .dct false kvs, [.dct false more] => if kvs.length + more.length ≤ sizeLine then some (.non, .dct false (kvMerge kvs more)) else none
  | _, _ => none
theorem kvMerge_len : ∀ (more kvs : List (D × D)), (kvMerge kvs more).length ≤ kvs.length + more.length
  | [], kvs => by simp [kvMerge]
  | p :: more, kvs => by
    have h1 := kvMerge_len more (kvPut kvs p.1 p.2)
    have h2 := kvPut_length kvs p.1 p.2
    show (kvMerge (kvPut kvs p.1 p.2) more).length ≤ _
    simp only [List.length_cons]
    omega
theorem mtT_update : MtR X "dict.update" (rMut X.K gUpd) := by
  intro pins s σ H x xs v us Q I rx rv ⟨G, p, d, ds, r, d', e1, sb, hg, rt, rl, hq, k⟩
  subst e1
  unfold gUpd at hq
  split at hq
  · split at hq
    · rename_i hz
      cases hq
      cases rt with
      | dK a b =>
        rename_i kvs
        cases rl with
        | cons h1 h2 =>
          cases h2
          cases h1 with
          | dK hb rb =>
            rename_i o more
            cases rx
            cases rv with
            | cons r1 r2 =>
              cases r2
              cases r1
              have hne : p ≠ o := fun z => by
                subst z
                rcases hb with hb | ⟨_, hb⟩ <;> (rw [hg] at hb; cases hb)
              obtain ⟨z1, hd1, vs1, rel1, dd1⟩ := dk_of I.hok a
              obtain ⟨z2, hd2, vs2, rel2, dd2⟩ := dk_rd I.hok (sb.le.rd _ _ hb)
              have l1 : vs1.length = kvs.length := rel1.length.symm
              have l2 : vs2.length = more.length := rel2.length.symm
              have hl : (mergeK kvs more).length ≤ sizeLine := by
                have := length_mergeK more kvs
                have := b.len
                have := rb.len
                omega
              refine call_meetsIn F.slot_dict_update dd1.typeIs F.entry_dict_update (F.args_dict_update_2 _ _) (meets_dict_update (mixKind X.prog X.w) p o hne hd2) ⟨vs1, vs2, dd1, dd2, by have := b.len; have := rb.len; omega, fun h' dd' _ hs => ?_⟩
              have he : ∃ q, h'.get? p = some q := let ⟨q, _, _, hq, _⟩ := dd'; ⟨q, hq⟩
              exact ⟨.non, _, d_write I (by rw [a]; exact True.intro) hs he (dk_new hl hd1 (KV.merge rel2 rel1) dd'), rfl, k _ _ .non (.dK upd_same (RepD.merge b rb))⟩
    · cases hq
  · cases hq
end
end L2.Tl

set_option Elab.async false
set_option linter.all false
set_option autoImplicit false
set_option maxRecDepth 100000
namespace L2.TlW
open PySem PySem.W PySem.Spec PyProof.Rows
section
variable {prog : Program} {w : World} {A : Around} {E : Value → Shared → Prop} {s : Shared}
theorem tl_call_max_twoH {a b : Value} {Q : Value → Shared → Prop}
    (h : wpAny (model prog w) A.in1 (pyIter (.ref s.heap.objs.size)) (fun it s₂ => ∃ I fp wr G n P St H bt, it = .ref I ∧ WalksS prog w A.in1 I fp wr G n P St ∧ St 0 s₂ ∧ (∀ b ∈ fp, b < s₂.heap.objs.size) ∧ 0 < n ∧
      (∀ b o, H.get? b = some o → b ∉ wr) ∧ (∀ b o, H.get? b = some o → s₂.heap.get? b = some o) ∧ CmpIn prog w A.in1 .Gt H P bt ∧ ∀ v s', P (argBest bt (n - 1)) v → Moved wr G s₂ s' → Q v s') E { s with heap := s.heap.push { cls := .type "tuple", data := .seq #[a, b] } }) :
    wpAny (model prog w) A (call (.builtin "max") [a, b]) Q E s := by
  have hname : (toString "max" ++ toString ".loop" : String) = "max.loop" := by decide
  refine call_function_tree F.kind_max F.plain_max F.entry_max (F.args_max2 _ _) ?_
  show wpAny _ A.in1 (Builtin.Builtins.bindParams "max" ["key", "default"] 0 ⟨[], []⟩ >>= _) _ _ s
  refine wpAny_bind (wpAny_of_eq (show Builtin.Builtins.bindParams "max" ["key", "default"] 0 ⟨[], []⟩ = pure [none, none] from rfl) ?_)
  show wpAny _ A.in1 (newTuple [a, b] >>= _) _ _ s
  refine wpAny_bind (wpAny_newObj_type ?_)
  refine wpAny_bind (wpAny_mono h (fun it s₂ h₂ => ?_) fun _ _ e => e)
  obtain ⟨I, fp, wr, G, n, P, St, H, bt, rfl, W, hst, hfp, hn, hw, hkeep, hcmp, hQ⟩ := h₂
  refine wpAny_bind (wpAny_newObj_type ?_)
  have hSf : s₂.heap.objs.size ∉ fp := fun hm => Nat.lt_irrefl _ (hfp _ hm)
  rw [hname]
  refine wpAny_pure ⟨plainId_quiet F.plain_max_loop _, codeAny_max_loop_firstH W H hw bt hcmp s₂.heap.objs.size hSf (fresh_in hkeep) _ hn (fun b o e => Heap.get?_push_of_some _ (hkeep b o e)) (W.frame 0 s₂ _ s₂.toks hst (Nat.le_refl _) fun b _ o e => Heap.get?_push_of_some _ e) (Heap.get?_push_size _ rfl) fun v s' hP hm => ?_⟩
  exact hQ v s' hP (Moved.drop_new (tk := s₂.toks) hm (Nat.le_refl _))
theorem tl_max_two {a b : Value} {x y : PyData} {as bs : List Addr} {Q : Value → Shared → Prop} (hh : A.handled = none) (ra : Reads s.heap a x as) (rb : Reads s.heap b y bs) (ha : AlikeAll [x, y]) (hu : A.units + 1 + PyData.depthAll [x, y] < cLine)
    (h : ∀ h' tk, (∀ b o, s.heap.get? b = some o → h'.get? b = some o) → Q (if dataLt x y = true then b else a) { s with heap := h', toks := tk }) : wpAny (model prog w) A (call (.builtin "max") [a, b]) Q E s := by
  have hT : (s.heap.push { cls := .type "tuple", data := .seq #[a, b] }).IsTuple s.heap.objs.size #[a, b] := ⟨_, Heap.get?_push_size _ rfl, rfl, 0, rfl⟩
  refine tl_call_max_twoH (iter_tupleW (A := A.in1) (s := { s with heap := s.heap.push { cls := .type "tuple", data := .seq #[a, b] } }) hh hT fun s₂ e W st hfp hw hk => ?_)
  have hk0 : ∀ b' o, s.heap.get? b' = some o → (s.heap.push { cls := .type "tuple", data := .seq #[a, b] }).get? b' = some o := fun b' o e => Heap.get?_push_of_some _ e
  have hr : ReadsAll (s.heap.push { cls := .type "tuple", data := .seq #[a, b] }) (#[a, b] : Array Value).toList [x, y] (as ++ (bs ++ [])) := .cons (reads_keeps hk0 ra) (.cons (reads_keeps hk0 rb) .nil)
  refine ⟨_, _, _, _, _, _, _, (s.heap.push { cls := .type "tuple", data := .seq #[a, b] }), _, rfl, W, st, hfp, by simp, hw, hk, cmpIn_gt (A := A.in1) (s := { s with heap := s.heap.push { cls := .type "tuple", data := .seq #[a, b] } }) hr ha (by show A.units + 1 + _ < _; exact hu), fun v s' hP m => ?_⟩
  obtain ⟨h', tk, rfl, hk'⟩ := moved_old e rfl m
  have ev : v = if dataLt x y = true then b else a := by
    have hP' : (#[a, b] : Array Value)[argBest (fun i j => dataLt (([x, y] : List PyData).getD j .none) (([x, y] : List PyData).getD i .none)) 1]? = some v := hP
    unfold argBest at hP'
    simp only [argBest] at hP'
    by_cases hd : dataLt x y = true
    · rw [if_pos hd]
      have : (dataLt (([x, y] : List PyData).getD 0 .none) (([x, y] : List PyData).getD 1 .none)) = true := hd
      simp [hd] at hP'
      exact hP'.symm
    · rw [if_neg hd]
      simp [hd] at hP'
      exact hP'.symm
  subst ev
  exact h h' tk fun b' o e => hk' b' o (hk0 b' o e)
end
end L2.TlW

namespace L2.Tl
open PySem PySem.Spec PyProof.Rows
section
variable {X : Cx} {pos : Pos}
/-- max(a, b), two tuples of plain data, alike -/
def gMax2 : Gb
  | [.tup ds, .tup es] => (pdL ds).bind fun ps => (pdL es).bind fun qs => if PySem.W.alike (.tuple ps) (.tuple qs) = true ∧ PySem.W.alike (.tuple ps) (.tuple ps) = true ∧ PySem.W.alike (.tuple qs) (.tuple qs) = true ∧ PySem.PyData.depthAll [.tuple ps, .tuple qs] ≤ 60 then
      some (.val (if PySem.W.dataLt (.tuple ps) (.tuple qs) = true then .tup es else .tup ds)) else none
  | _ => none
theorem bl_max2 (hc : X.calm = true) (hu : X.A.units + 64 < cLine) : CallR X (.builtin "max") (rCT X.K gMax2) := by
  intro pins s σ H xs us Q I r ⟨G, ds, o, sb, rk, e, k⟩
  unfold gMax2 at e
  split at e
  · rename_i ds es
    obtain ⟨ps, e1, e⟩ := Option.bind_eq_some_iff.mp e
    obtain ⟨qs, e2, e⟩ := Option.bind_eq_some_iff.mp e
    split at e
    · rename_i hz
      cases e
      obtain ⟨v, w, rfl, rv, rw'⟩ := rk.two
      obtain ⟨u1, u2, rfl, q1, q2⟩ := vals2 r
      obtain ⟨as, r1⟩ := Dp.reads I _ v u1 (Rep.dp (.tup ds) v (.tuple ps) (rv.all sb) (by simp [D.pd, e1])) q1
      obtain ⟨bs, r2⟩ := Dp.reads I _ w u2 (Rep.dp (.tup es) w (.tuple qs) (rw'.all sb) (by simp [D.pd, e2])) q2
      refine TlW.tl_max_two (I.ok.hd hc) r1 r2 ⟨fun x hx y hy => ?_, fun x hx => ?_⟩ (by omega) fun h' tk hk => ?_
      · have c := hz.1
        rw [PySem.W.alike_comm] at c
        rcases List.mem_cons.mp hx with rfl | hx
        · rcases List.mem_cons.mp hy with rfl | hy
          · exact hz.2.1
          · rw [List.mem_singleton.mp hy]; exact hz.1
        · rw [List.mem_singleton.mp hx]
          rcases List.mem_cons.mp hy with rfl | hy
          · exact c
          · rw [List.mem_singleton.mp hy]; exact hz.2.2.1
      · rcases List.mem_cons.mp hx with rfl | hx
        · exact fun z => nomatch z
        · rw [List.mem_singleton.mp hx]; exact fun z => nomatch z
      · have fin : ∀ {v : V} {d : List D}, RepK X.K G H v (.tup d) → Rep X.K G v (.tup d) := fun h => by
          rcases h with h | ⟨_, _, h⟩
          · exact h
          · cases h
        split
        · rename_i hl
          rw [if_pos hl] at k
          exact ⟨w, H, I.kept hk, q2, ext_val sb k (fin rw')⟩
        · rename_i hl
          rw [if_neg hl] at k
          exact ⟨v, H, I.kept hk, q1, ext_val sb k (fin rv)⟩
    · cases e
  · cases e

/-! ### [x, *y] -/
def fAS (f : Fe) (r : Fa) : Fa := fun δ => (f δ).bind fun p => (esc p.1 p.2).bind fun q => match q.1 with
  | .lst xs => (r q.2).map fun s => (xs ++ s.1, s.2)
  | .tup xs => (r q.2).map fun s => (xs ++ s.1, s.2)
  | _ => none
theorem ar_star {e : Expr} {es : List Expr} {f : Fe} {r : Fa} {p : Pos} (h : Ev X e f) (hr : Ar X es r) (hs : starEach (.Starred e p :: es) X.env = (true, eval e X.env) :: starEach es X.env := by rfl) : Ar X (.Starred e p :: es) (fAS f r) :=
  PA.imp (StX.pa_star h hr hs) fun σ H Q ⟨F, G, δ, o, δ', S, e, k⟩ => by
    obtain ⟨⟨ra, δ1⟩, e1, e⟩ := Option.bind_eq_some_iff.mp e
    obtain ⟨⟨d, δ2⟩, e2, e⟩ := Option.bind_eq_some_iff.mp e
    refine ⟨F, G, δ, ra, δ1, S, e1, fun v1 H1 G1 S1 b1 r1 => ?_⟩
    obtain ⟨G2, S2, b2, r2⟩ := S1.esc r1 e2
    dsimp only at e
    split at e
    · obtain ⟨⟨ds, δ3⟩, e3, e4⟩ := Option.map_eq_some_iff.mp e
      cases e4
      cases r2 with
      | lst hq rl =>
        refine ⟨_, _, rfl, .inr (.inl (S2.sub.le.rd _ _ hq)), F, G2, δ2, ds, _, S2, e3, fun vs H3 G3 S3 b3 r3 => ?_⟩
        exact k _ H3 G3 S3 (b1.trans (b2.trans b3)) ((rl.mono b3.le).append r3)
    · obtain ⟨⟨ds, δ3⟩, e3, e4⟩ := Option.map_eq_some_iff.mp e
      cases e4
      cases r2 with
      | tup hq rl =>
        refine ⟨_, _, rfl, .inl (.inl (.inl (S2.sub _ _ hq))), F, G2, δ2, ds, _, S2, e3, fun vs H3 G3 S3 b3 r3 => ?_⟩
        exact k _ H3 G3 S3 (b1.trans (b2.trans b3)) ((rl.mono b3.le).append r3)
    · cases e

/-! ### {k: v, ..} -/
abbrev Fd := Dl → Option (List (D × D) × Dl)
def fD0 : Fd := fun δ => some ([], δ)
def fDk (fk fv : Fe) (r : Fd) : Fd := fun δ => (fk δ).bind fun p => (esc p.1 p.2).bind fun q => if isKey1 q.1 = true then (fv q.2).bind fun p2 => (esc p2.1 p2.2).bind fun q2 => (r q2.2).map fun s => ((q.1, q2.1) :: s.1, s.2) else none
def tPs (K : PySem.W.Frag) (f : Fd) (trs : List (TE × TE)) : Prop := ∀ (σ : L2.St) (H : Hp) (Q : List (V × V) → Hp → Prop) (F : Fr) (G : Hp) (δ : Dl) (ds : List (D × D)) (δ' : Dl), Sim K F G H σ δ → f δ = some (ds, δ') →
  (∀ kvs H' G', Sim K F G' H' σ δ' → Mv σ δ G H δ' G' H' → RepD K G' kvs ds → Q (kvs.map fun kv => (kV kv.1, kv.2)) H') → tPairs trs σ H Q
theorem tPs_nil {K : PySem.W.Frag} : tPs K fD0 [] := fun σ H Q F G δ ds δ' S e k => by
  cases e
  exact k [] H G S .refl .nil
theorem tPs_cons {K : PySem.W.Frag} {fk fv : Fe} {r : Fd} {trs : List (TE × TE)} (h : tPs K r trs) : tPs K (fDk fk fv r) ((tEv K fk, tEv K fv) :: trs) := fun σ H Q F G δ ds δ' S e k => by
  obtain ⟨⟨ra, δ1⟩, e1, e⟩ := Option.bind_eq_some_iff.mp e
  obtain ⟨⟨d, δ2⟩, e2, e⟩ := Option.bind_eq_some_iff.mp e
  dsimp only at e
  split at e
  · rename_i hk
    obtain ⟨key, rfl⟩ := isKey1_kD hk
    obtain ⟨⟨rb, δ3⟩, e3, e⟩ := Option.bind_eq_some_iff.mp e
    obtain ⟨⟨y, δ4⟩, e4, e⟩ := Option.bind_eq_some_iff.mp e
    obtain ⟨⟨es, δ5⟩, e5, e6⟩ := Option.map_eq_some_iff.mp e
    cases e6
    refine ⟨F, G, δ, ra, δ1, S, e1, fun v1 H1 G1 S1 b1 r1 => ?_⟩
    obtain ⟨G2, S2, b2, r2⟩ := S1.esc r1 e2
    refine ⟨F, G2, δ2, rb, δ3, S2, e3, fun v3 H3 G3 S3 b3 r3 => ?_⟩
    obtain ⟨G4, S4, b4, r4⟩ := S3.esc r3 e4
    refine h σ H3 _ F G4 δ4 es _ S4 e5 fun kvs H5 G5 S5 b5 r5 => ?_
    have e7 : v1 = kV key := RepK.kV (K := K) (G := G2) (H := G2) (.inl r2)
    subst e7
    exact k ((key, v3) :: kvs) H5 G5 S5 (b1.trans (b2.trans (b3.trans (b4.trans b5)))) (.cons (r4.mono b5.le) r5)
  · cases e
def fDisp (f : Fd) : Fn := fun δ => (f δ).bind fun p => if p.1.length ≤ 15 then some (.new (.dct false (kvMerge [] p.1)), p.2) else none
theorem en_disp {keys : List (Option Expr)} {values : List Expr} {trs : List (TE × TE)} {f : Fd} (h : PPs X pos keys values trs) (ht : tPs X.K f trs) (hall : keys.all (·.isSome) = true := by rfl) (hl : keys.length = values.length := by rfl) (h0 : keys ≠ [] := by exact fun z => nomatch z)
    (h15 : keys.length ≤ 15 := by decide) : En X (.Dict keys values pos) (fDisp f) := PE.imp (pe_disp h hall hl h0 h15) fun σ H Q ⟨F, G, δ, o, δ', S, e, k⟩ p hp => by
  obtain ⟨⟨ds, δ1⟩, e1, e⟩ := Option.bind_eq_some_iff.mp e
  dsimp only at e
  split at e
  · rename_i hz
    cases e
    have E : Ext G H G (upd H p (.dK [])) := .own S.sub hp
    have hg := none_of_sub S.sub hp
    have ap : Apart σ δ p := fun i x d hx r hs => by
      obtain ⟨q, a1, _, a3⟩ := S.root hx r
      rw [hs] at a1; cases a1
      obtain ⟨u, hu⟩ := a3.there
      rw [hp] at hu; cases hu
    refine ht σ _ _ F G δ ds _ (S.ext E) e1 fun kvs H1 G1 S1 m1 r1 => ?_
    obtain ⟨h1, g1, ap1⟩ := m1.stay p _ upd_same hg ap
    refine ⟨h1, kvs, rfl, by rw [r1.len]; exact hz, ?_⟩
    have m := E.mv (σ := σ) (δ := δ) |>.trans m1
    have ne : ∀ {a : Addr} {o : HO}, H a = some o → a ≠ p := fun {a o} h z => by rw [z, hp] at h; cases h
    refine k _ _ G1 (S1.away g1 ap1 (S.fresh hp)) ⟨m.le, fun a o h g apa => ?_, fun a h => ?_⟩ ⟨p, rfl, g1, .dK upd_same (RepD.merge .nil r1), hp, ap1⟩
    · obtain ⟨q1, q2, q3⟩ := m.stay a o h g apa
      exact ⟨(upd_ne (ne h)).trans q1, q2, q3⟩
    · by_cases z : a = p
      · subst z; exact hp
      · rw [upd_ne z] at h; exact m.dom a h
  · cases e

/-! ### a, b, c = x, y, z straight -/
def tPar3 (i j l : Nat) (ta : TA) : TS := fun D σ H => ta σ H fun vs H1 => ∃ v w x, vs = [v, w, x] ∧ D.nx (((σ.set i (some v)).set j (some w)).set l (some x)) H1
theorem ps_par3 {i j l : Nat} {x y z : Str} {a b c : Expr} {ta : TA} {px py pz pt : Pos} {kt k2 pt2} (hc : X.calm = true) (hN : X.N.Nodup) (hi : X.N[i]? = some x) (hj : X.N[j]? = some y) (hl : X.N[l]? = some z) (hij : i ≠ j) (hil : i ≠ l) (hjl : j ≠ l)
    (hx : X.env.scope.names.lookup x = some .local) (hy : X.env.scope.names.lookup y = some .local) (hz : X.env.scope.names.lookup z = some .local) (ha : PA X [a, b, c] ta)
    (hw : swappedStores [.Tuple [.Name x px, .Name y py, .Name z pz] kt pt] (.Tuple [a, b, c] k2 pt2) X.env = pure (some [x, y, z]))
    (hs : swapsWithSole [.Tuple [.Name x px, .Name y py, .Name z pz] kt pt] (.Tuple [a, b, c] k2 pt2) pos.line X.env = pure false := by rfl) :
    PS X (.Assign [.Tuple [.Name x px, .Name y py, .Name z pz] kt pt] (.Tuple [a, b, c] k2 pt2) pos) (tPar3 i j l ta) := by
  refine ⟨fun pins s σ H D I h => ?_⟩
  rw [exec_Assign_arm]
  refine wpAny_bind (wpAny_standAt ?_)
  rw [hs]
  refine wpAny_bind (wpAny_pure ?_)
  rw [if_neg (by decide)]
  refine wpAny_bind (Tuple_ (thn (ha.run _ pins s σ H _ I h) fun us s1 ⟨vs, H1, I1, r1, q1⟩ => ?_))
  obtain ⟨v, w, q, e1, q1⟩ := q1
  subst e1
  obtain ⟨u1, u2, u3, rfl, rv, rw', rq⟩ : ∃ u1 u2 u3, us = [u1, u2, u3] ∧ RelV v u1 ∧ RelV w u2 ∧ RelV q u3 := by
    cases r1 with
    | cons p q =>
      cases q with
      | cons p' q' =>
        cases q' with
        | cons p'' q'' =>
          cases q''
          exact ⟨_, _, _, rfl, p, p', p''⟩
  refine wpAny_newObj_type ?_ (by show 3 ≤ sizeLine; decide)
  have I2 : Inv X pins σ H1 { s1 with heap := s1.heap.push { cls := .type "tuple", data := .seq [u1, u2, u3].toArray } } := I1.kept (t' := s1.toks) fun b o e => Heap.get?_push_of_some _ e
  rw [hw]
  refine wpAny_bind (wpAny_pure ?_)
  show wpAny (model X.prog X.w) X.A (do rule "assign.swapped-stores"; let items ← unpackItems (.ref s1.heap.objs.size) 3 none; assignInOrder [fun v => bindName X.env z v, fun v => bindName X.env y v, fun v => bindName X.env x v] items.reverse; pure Flow.next) _ _ _
  refine wpAny_bind (wpAny_rule (wpAny_bind (unpackItems_tuple (items := #[u1, u2, u3]) (I.ok.hd hc) (IsTup.new s1.heap _) fun h' hx' => ?_)))
  have I3 := I2.kept (h' := h') (t' := s1.toks) fun b o e => hx' b o (Nat.ne_of_lt (Heap.lt_size e)) e
  show wpAny _ _ (assignInOrder [fun v => bindName X.env z v, fun v => bindName X.env y v, fun v => bindName X.env x v] [u3, u2, u1] >>= fun _ => pure Flow.next) _ _ _
  refine wpAny_bind (assignInOrder_cons (wpAny_bindName (store_ok I3 hN hl (.inl hz) rq (fun s2 I4 => ?_) (.inr hz))))
  refine assignInOrder_cons (wpAny_bindName (store_ok I4 hN hj (.inl hy) rw' (fun s3 I5 => ?_) (.inr hy)))
  refine assignInOrder_cons (wpAny_bindName (store_ok I5 hN hi (.inl hx) rv (fun s4 I6 => assignInOrder_nil (wpAny_pure ?_)) (.inr hx)))
  have e : (((σ.set l (some q)).set j (some w)).set i (some v)) = (((σ.set i (some v)).set j (some w)).set l (some q)) := by
    rw [List.set_comm _ _ (Ne.symm hij), List.set_comm _ _ (Ne.symm hil), List.set_comm _ _ (Ne.symm hjl)]
  rw [e] at I6
  exact ⟨_, H1, I6, q1⟩
theorem sm_par3 {i j l : Nat} {x y z : Str} {a b c : Expr} {f : Fp} {px py pz pt : Pos} {kt k2 pt2} (hc : X.calm = true) (hN : X.N.Nodup) (hi : X.N[i]? = some x) (hj : X.N[j]? = some y) (hl : X.N[l]? = some z) (hij : i ≠ j) (hil : i ≠ l) (hjl : j ≠ l)
    (hx : X.env.scope.names.lookup x = some .local) (hy : X.env.scope.names.lookup y = some .local) (hz : X.env.scope.names.lookup z = some .local) (ha : Pn X [a, b, c] f)
    (hw : swappedStores [.Tuple [.Name x px, .Name y py, .Name z pz] kt pt] (.Tuple [a, b, c] k2 pt2) X.env = pure (some [x, y, z]))
    (hs : swapsWithSole [.Tuple [.Name x px, .Name y py, .Name z pz] kt pt] (.Tuple [a, b, c] k2 pt2) pos.line X.env = pure false := by rfl) :
    Sm X (.Assign [.Tuple [.Name x px, .Name y py, .Name z pz] kt pt] (.Tuple [a, b, c] k2 pt2) pos) (sPar [i, j, l] f) := PS.imp (ps_par3 hc hN hi hj hl hij hil hjl hx hy hz ha hw hs) fun D σ H ⟨F, G, δ, fl, δ', S, e, k⟩ => by
  obtain ⟨⟨os, δ1⟩, e1, e2⟩ := Option.bind_eq_some_iff.mp e
  obtain ⟨δ2, e3, e4⟩ := Option.map_eq_some_iff.mp e2
  cases e4
  refine ⟨F, G, δ, os, δ1, S, e1, fun vs ps H1 G1 S1 m1 r1 => ?_⟩
  have hl : vs.length = 3 := by rw [r1.length, ← setAll_length e3]; rfl
  match vs, hl, r1 with
  | [v, w, q], _, r1 => exact ⟨v, w, q, rfl, k _ H1 G1 (Sim.setAll (is := [i, j, l]) (fun a h => S.fresh h) S1 r1 e3) m1.le⟩
end
end L2.Tl

set_option Elab.async false
set_option linter.all false
set_option autoImplicit false
set_option maxRecDepth 100000
namespace L2.Tl
open PySem PySem.Spec PyProof.Rows

/-! ### defs -/
/-- a body, with n further names, as a def of p parameters -/
def runP (p : Nat) (f : Fs) (n : Nat) : Fm := fun args => if args.length = p then runF f n args else none
theorem runP_of {p n : Nat} {f : Fs} {args : List SV} {r : OV × List D} (h : runP p f n args = some r) : args.length = p ∧ runF f n args = some r := by
  unfold runP at h
  split at h
  · exact ⟨by assumption, h⟩
  · cases h
section
variable {P : Program} {w : World} {K : PySem.W.Frag} {mg : Str → Option Value} {base : Heap}
/-- THE RULE for a def: its body computes f -/
theorem def_okM {x qual : Str} {st : Stmt} {a : Addr} {fd : FuncData} {N ps : List Str} {k n : Nat} {f : Fs} {m : Fm} (F : C8.Fun K x qual st a fd) (S : FnScope N ps (C8.fnScope st)) (hn : N.length = ps.length + n)
    (hm : ∀ args r, m args = some r → args.length = ps.length ∧ runF f n args = some r)
    (hbody : ∀ (cdv : Value) (A : Around) (outer : List Env) (s : Shared) (H : Hp) (E : XK), Room k (A.deeper (envOfC qual (C8.fnScope st) s.heap.objs.size a cdv)) →
      Ss (cxOf CX0 P w K mg base N qual (C8.fnScope st) a cdv A outer s H E).nox (C8.fnBody st) f) : FnOk P w K mg base CX0 (k + 1) a fd ps (spT K m) := by
  obtain ⟨oc, od, dV, kV, doc, pm, an, cdv, ct, osl, rfl, lk, hcd⟩ := F.ex
  refine fn_of lk hcd S (fun vs H Q E h => ?_) fun A outer s H vs Q E hr h => ?_
  · obtain ⟨G, args, qs, o, outs, _, hA, _, e, _⟩ := h
    rw [hA.length]
    exact (hm args _ e).1
  · obtain ⟨G, args, qs, o, outs, sb, hA, nd, e, kq⟩ := h
    obtain ⟨hl, e⟩ := hm args _ e
    refine ⟨_, (hbody cdv A outer s H E hr).nox, ?_⟩
    have hst : start N vs = vs.map some ++ List.replicate n none := by
      unfold start
      rw [hA.length, hl, hn, Nat.add_sub_cancel_left]
    rw [hst]
    obtain ⟨⟨fl, δ'⟩, e1, e2⟩ := Option.bind_eq_some_iff.mp e
    refine ⟨⟨H, G, ioOf vs args⟩, G, _, fl, δ', sim_start sb hA nd, e1, ?_⟩
    cases fl with
    | next =>
      obtain ⟨os, e3, e4⟩ := Option.map_eq_some_iff.mp e2
      cases e4
      exact fun σ' H' G' S' l => kq .non H' G' (after_of hA S' l e3) .non
    | brk => cases e2
    | cnt => cases e2
    | ret o' =>
      obtain ⟨os, e3, e4⟩ := Option.map_eq_some_iff.mp e2
      cases e4
      intro v σ' H' G' S' l r
      refine kq v H' G' (after_of hA S' l e3) ?_
      cases o with
      | val d => exact r
      | new d =>
        obtain ⟨p, rfl, a1, a2, a3, _⟩ := r
        exact ⟨p, rfl, a3, a1, a2⟩
theorem def_okP {x qual : Str} {st : Stmt} {a : Addr} {fd : FuncData} {N ps : List Str} {k n : Nat} {f : Fs} (F : C8.Fun K x qual st a fd) (S : FnScope N ps (C8.fnScope st)) (hn : N.length = ps.length + n)
    (hbody : ∀ (cdv : Value) (A : Around) (outer : List Env) (s : Shared) (H : Hp) (E : XK), Room k (A.deeper (envOfC qual (C8.fnScope st) s.heap.objs.size a cdv)) →
      Ss (cxOf CX0 P w K mg base N qual (C8.fnScope st) a cdv A outer s H E).nox (C8.fnBody st) f) : FnOk P w K mg base CX0 (k + 1) a fd ps (spT K (runP ps.length f n)) :=
  def_okM F S hn (fun _ _ h => runP_of h) hbody
theorem Room.hu {k : Nat} {A : Around} (r : Room k A) : A.units + 64 < cLine := by have := r.un; omega
/-- names that the module leaves to the built-ins -/
def NoMg (mg : Str → Option Value) (l : List Str) : Prop := ∀ x ∈ l, mg x = none
end
section
variable {X : Cx} {pos : Pos}
/-- e[::-1] -/
def fRevL (f : Fe) : Fn := fun δ => (f δ).bind fun p => (peek p.1 p.2).bind fun d => match d with
  | .lst ds => some (.new (.lst ds.reverse), p.2)
  | _ => none
theorem en_revL {e : Expr} {f : Fe} {k : Nat} {p1 p2 p3 : Pos} (h : Ev X e f) : En X (.Subscript e (.Slice none none (some (.UnaryOp .USub (.Constant (.int 1) k p1) p2)) p3) pos) (fRevL f) := PE.imp (pe_revL h) fun σ H Q ⟨F, G, δ, o, δ', S, e, kk⟩ => by
  obtain ⟨⟨r, δ1⟩, e1, e⟩ := Option.bind_eq_some_iff.mp e
  obtain ⟨d, e2, e⟩ := Option.bind_eq_some_iff.mp e
  dsimp only at e
  split at e
  · cases e
    refine ⟨F, G, δ, r, _, S, e1, fun v H1 G1 S1 m1 r1 => ?_⟩
    obtain ⟨a, vs, rfl, h1, h2⟩ := (S1.peek r1 e2).lst S1.sub
    refine ⟨a, vs, rfl, .inl h1, fun p hp => ?_⟩
    have E : Ext G1 H1 G1 (upd H1 p (.lst vs.reverse)) := .own S1.sub hp
    exact kk _ _ G1 (S1.ext E) (m1.trans E.mv) ((RepP.toO (o := .new (.lst _)) S1 E ⟨p, rfl, hp, none_of_sub S1.sub hp, .lst upd_same h2.reverse⟩).old m1.dom)
  · cases e
/-! targets of loops -/
theorem tg_nm {i : Nat} {x : Str} (hN : X.N.Nodup) (hi : X.N[i]? = some x) (hx : Loc X.env.scope x) (hf : X.fn x = true ∨ X.env.scope.names.lookup x = some .local := by first | exact .inl rfl | exact .inr rfl | assumption) : PG X (.Name x pos) (tgG X.K (.nm i)) := pg_name hN hi hx hf
theorem tg_tp {es : List Expr} {k : Nat} {is : List Nat} (hc : X.calm = true) (hN : X.N.Nodup) (hg : GNs X es is) (hn : (assignEach es X.env).length = is.length := by rfl) (hst : (assignEach es X.env).findIdx? (·.1) = none := by rfl) : PG X (.Tuple es k pos) (tgG X.K (.tp is)) := pg_tup hc (hg.pgs hN) hn hst
end
section
variable {P : Program} {w : World} {K : PySem.W.Frag} {mg : Str → Option Value} {base : Heap}
/-- a def of the module as the top has made it; dvs: its defaults -/
structure DefD (K : PySem.W.Frag) (mg : Str → Option Value) (x qual : Str) (st : Stmt) (dvs : List V) (f : Addr) (fd : FuncData) : Prop where
  fn : FunD K qual qual (C8.fnArgs st) (C8.fnBody st) (C8.fnScope st) dvs [] f fd
  mgf : mg x = some (.ref f)
theorem DefD.c8 {x qual : Str} {st : Stmt} {dvs : List V} {f : Addr} {fd : FuncData} (D : DefD K mg x qual st dvs f fd) : C8.Fun K qual qual st f fd := by
  obtain ⟨oc, od, dV, kV, doc, pm, an, cdv, ct, osl, h, l, c, _, _⟩ := D.fn.ex
  exact ⟨oc, od, dV, kV, doc, pm, an, cdv, ct, osl, h, l, c⟩
theorem defD_mk {h : Heap} {x qual : Str} {st : Stmt} (X : K.In h) (G : h.Ns mainGlobals mg) {f : Addr} {oc : Value} {od an : Option Addr} {osl : Array (Option Value)} {kV doc pm cdv ct : Value} (a : PySem.W.nsIn K mainGlobals x = some (some (.ref f)))
    (l : K.lookup f = some ⟨oc, od, .func (PySem.W.fnOf qual qual (C8.fnArgs st) (C8.fnBody st) (C8.fnScope st) .none kV doc pm an cdv ct), osl⟩) (c : PySem.W.codeIn K cdv qual = true) (k : PySem.W.keepIn K (.ref f) = true) : ∃ f fd, DefD K mg x qual st [] f fd :=
  ⟨f, _, ⟨⟨oc, od, _, kV, doc, pm, an, cdv, ct, osl, rfl, l, c, .inl ⟨rfl, rfl⟩, .inl rfl⟩, k⟩, PySem.W.mg_of X G a⟩
theorem defD_mk1 {h : Heap} {x qual : Str} {st : Stmt} {dvs : List V} {its : List Value} (X : K.In h) (G : h.Ns mainGlobals mg) {f T : Addr} {o : Obj} {n : Nat} {oc : Value} {od an : Option Addr} {osl : Array (Option Value)} {kV doc pm cdv ct : Value} (a : PySem.W.nsIn K mainGlobals x = some (some (.ref f)))
    (l : K.lookup f = some ⟨oc, od, .func (PySem.W.fnOf qual qual (C8.fnArgs st) (C8.fnBody st) (C8.fnScope st) (.ref T) kV doc pm an cdv ct), osl⟩) (c : PySem.W.codeIn K cdv qual = true) (k : PySem.W.keepIn K (.ref f) = true)
    (hT : K.lookup T = some o) (oT : o.data = .seq its.toArray n) (rT : Vals dvs its) (hd : dvs ≠ []) : ∃ f fd, DefD K mg x qual st dvs f fd :=
  ⟨f, _, ⟨⟨oc, od, _, kV, doc, pm, an, cdv, ct, osl, rfl, l, c, .inr ⟨hd, T, o, its, n, rfl, hT, oT, rT⟩, .inl rfl⟩, k⟩, PySem.W.mg_of X G a⟩
theorem cal_of {x qual : Str} {st : Stmt} {dvs : List V} {ps : List Str} {f : Addr} {fd : FuncData} {k : Nat} {m : Fm} (D : DefD K mg x qual st dvs f fd) (b : Binds K fd ps []) (h : FnOk P w K mg base CX0 k f fd ps (spT K m)) : Cal P w K mg base k x m [] :=
  ⟨f, fd, ps, [], [], h, D.mgf, D.fn.kp, b, .nil, .nil⟩
theorem cal_d {x qual : Str} {st : Stmt} {dvs ws : List V} {ps : List Str} {f : Addr} {fd : FuncData} {k : Nat} {m : Fm} {ds : List D} (D : DefD K mg x qual st dvs f fd) (b : ∃ us, Vals ws us ∧ Binds K fd ps us) (r : ArgD K ws ds) (h : FnOk P w K mg base CX0 k f fd ps (spT K m)) : Cal P w K mg base k x m ds := by
  obtain ⟨us, r1, b⟩ := b
  exact ⟨f, fd, ps, us, ws, h, D.mgf, D.fn.kp, b, r1, r⟩
/-- under another name -/
theorem cal_as {x y qual : Str} {st : Stmt} {dvs : List V} {ps : List Str} {f : Addr} {fd : FuncData} {k : Nat} {m : Fm} (D : DefD K mg x qual st dvs f fd) (hy : mg y = some (.ref f)) (b : Binds K fd ps []) (h : FnOk P w K mg base CX0 k f fd ps (spT K m)) : Cal P w K mg base k y m [] :=
  ⟨f, fd, ps, [], [], h, hy, D.fn.kp, b, .nil, .nil⟩
/-- a promise of less -/
theorem spT_le {g m : Fm} (h : ∀ args r, g args = some r → m args = some r) (vs : List V) (H : Hp) (Q : VK) (E : XK) (q : spT K g vs H Q E) : spT K m vs H Q E := by
  obtain ⟨G, args, ps, o, outs, a, b, c, e, k⟩ := q
  exact ⟨G, args, ps, o, outs, a, b, c, h _ _ e, k⟩
theorem alias_mk {h : Heap} {x y qual : Str} {st : Stmt} {dvs : List V} {f0 : Addr} (X : K.In h) (G : h.Ns mainGlobals mg) (a1 : PySem.W.nsIn K mainGlobals x = some (some (.ref f0))) (a2 : PySem.W.nsIn K mainGlobals y = some (some (.ref f0))) :
    ∀ f fd, DefD K mg x qual st dvs f fd → mg y = some (.ref f) := fun f fd D => by
  have h1 := D.mgf.symm.trans (PySem.W.mg_of X G a1)
  cases h1
  exact PySem.W.mg_of X G a2
theorem noMg_nil : NoMg mg [] := fun x h => by simp at h
theorem noMg_cons {x : Str} {l : List Str} (h : mg x = none) (t : NoMg mg l) : NoMg mg (x :: l) := fun y hy => by
  rcases List.mem_cons.mp hy with rfl | hy
  · exact h
  · exact t y hy
/-- what is never called with arguments that it takes -/
theorem fnOk_none {f : Addr} {fd : FuncData} {ps : List Str} {k : Nat} {m : Fm} (h : ∀ args, m args = none) : FnOk P w K mg base CX0 k f fd ps (spT K m) :=
  ⟨fun vs H Q E ⟨G, args, qs, o, outs, _, _, _, e, _⟩ => (by rw [h args] at e; cases e), fun A outer s H ar us vs Q E hr e0 hb hv ⟨G, args, qs, o, outs, _, _, _, e, _⟩ => (by rw [h args] at e; cases e)⟩
end
end L2.Tl

set_option Elab.async false
set_option linter.all false
set_option autoImplicit false
set_option maxRecDepth 100000
namespace L2.Tl
open PySem PySem.Spec PyProof.Rows

/-! ### a new list of one new object of its own -/
abbrev F1 := Dl → Option (D × Dl)
def tE1 (K : PySem.W.Frag) (f : F1) : TE := fun σ H Q => ∃ F G δ d δ', Sim K F G H σ δ ∧ f δ = some (d, δ') ∧ ∀ a p H' G', Sim K F G' H' σ δ' → Mv σ δ G H δ' G' H' → H a = none → G' a = none → H' a = some (.lst [.ref p]) → Apart σ δ' a → a ≠ p →
  H p = none → G' p = none → Root K G' H' p d → Apart σ δ' p → Q (.ref a) H'
/-- .. as what a def returns -/
def spN (K : PySem.W.Frag) (F : List SV → Option D) : Sp := fun vs H Q _ => ∃ G args d, Sub G H ∧ ArgR K G H vs args [] ∧ F args = some d ∧ ∀ a p H' G', After K G H [] [] G' H' → H a = none → G' a = none → H' a = some (.lst [.ref p]) → a ≠ p → H p = none → G' p = none → Root K G' H' p d → Q (.ref a) H'
def runN (p : Nat) (f : F1) (n : Nat) : List SV → Option D := fun args => if args.length = p then (f (args.map some ++ List.replicate n none)).map (·.1) else none
theorem spN_le {K : PySem.W.Frag} {g m : List SV → Option D} (h : ∀ args r, g args = some r → m args = some r) (vs : List V) (H : Hp) (Q : VK) (E : XK) (q : spN K g vs H Q E) : spN K m vs H Q E := by
  obtain ⟨G, args, d, a, b, e, k⟩ := q
  exact ⟨G, args, d, a, b, h _ _ e, k⟩
theorem apart_new {K : PySem.W.Frag} {F : Fr} {G H : Hp} {σ : St} {δ : Dl} (S : Sim K F G H σ δ) {p : Addr} (h : H p = none) : Apart σ δ p := fun i x d hx r hs => by
  obtain ⟨q, a1, _, a3⟩ := S.root hx r
  rw [hs] at a1; cases a1
  obtain ⟨u, hu⟩ := a3.there
  rw [h] at hu; cases hu
section
variable {P : Program} {w : World} {K : PySem.W.Frag} {mg : Str → Option Value} {base : Heap}
theorem def_okN {x qual : Str} {st : Stmt} {a : Addr} {fd : FuncData} {N ps : List Str} {k n : Nat} {f : F1} (F : C8.Fun K x qual st a fd) (S : FnScope N ps (C8.fnScope st)) (hn : N.length = ps.length + n)
    (hbody : ∀ (cdv : Value) (A : Around) (outer : List Env) (s : Shared) (H : Hp) (E : XK), Room k (A.deeper (envOfC qual (C8.fnScope st) s.heap.objs.size a cdv)) →
      PSs (cxOf CX0 P w K mg base N qual (C8.fnScope st) a cdv A outer s H E).nox (C8.fnBody st) (fun D σ H => tE1 K f σ H D.rt)) : FnOk P w K mg base CX0 (k + 1) a fd ps (spN K (runN ps.length f n)) := by
  obtain ⟨oc, od, dV, kV, doc, pm, an, cdv, ct, osl, rfl, lk, hcd⟩ := F.ex
  refine fn_of lk hcd S (fun vs H Q E h => ?_) fun A outer s H vs Q E hr h => ?_
  · obtain ⟨G, args, d, _, hA, e, _⟩ := h
    rw [hA.length]
    unfold runN at e
    split at e
    · assumption
    · cases e
  · obtain ⟨G, args, d, sb, hA, e, kq⟩ := h
    unfold runN at e
    split at e
    · rename_i hl
      refine ⟨_, (hbody cdv A outer s H E hr).nox, ?_⟩
      have hst : start N vs = vs.map some ++ List.replicate n none := by
        unfold start
        rw [hA.length, hl, hn, Nat.add_sub_cancel_left]
      rw [hst]
      obtain ⟨⟨d', δ'⟩, e1, e2⟩ := Option.map_eq_some_iff.mp e
      cases e2
      refine ⟨⟨H, G, ioOf vs args⟩, G, _, _, δ', sim_start sb hA (by simp), e1, fun b p H' G' S' m h1 h2 h3 _ h4 h5 h6 h7 _ => ?_⟩
      have hout : ∀ {as : List SV} {vs : List V}, ArgR K G H vs as [] → ∀ i q, ioOf vs as i ≠ some q := fun {as vs} hA i q z => by
        have := (hA.io q).mpr ⟨i, z⟩
        simp at this
      exact kq b p H' G' ⟨m.le, S'.sub, S'.new, fun c o hc _ => S'.fr c o hc (fun i => hout hA i c), .nil⟩ h1 h2 h3 h4 h5 h6 h7
    · cases e
/-- a def that makes this promise, called by its name -/
structure CalN (P : Program) (w : World) (K : PySem.W.Frag) (mg : Str → Option Value) (base : Heap) (k : Nat) (x : Str) (Fd : List SV → Option D) : Prop where
  ex : ∃ (f : Addr) (fd : FuncData) (ps : List Str), FnOk P w K mg base CX0 k f fd ps (spN K Fd) ∧ mg x = some (.ref f) ∧ PySem.W.keepIn K (.ref f) = true ∧ Binds K fd ps []
end
section
variable {X : Cx} {k j i : Nat} {x y : Str} {Fd : List SV → Option D} {p pos : Pos} {e : Expr} {es : List Expr} {fa : Fa}
def f1Call (F : List SV → Option D) (fa : Fa) : F1 := fun δ => (fa δ).bind fun p => (F (p.1.map .fz)).map fun d => (d, p.2)
theorem e1_call (c : CalN X.prog X.w X.K X.mg X.base k x Fd) (hr : Room j X.A) (hk : k ≤ j) (hg : Gl X x) (ha : Ar X (e :: es) fa)
    (hdb : (x == ("__debug__" : Str)) = false := by decide) (he : starEach (e :: es) X.env = (false, eval e X.env) :: starEach es X.env := by rfl) (hpl : (backTo pos (starEach es X.env)).any (·.1) = false := by rfl) :
    PE X (.Call (.Name x p) (e :: es) [] pos) (tE1 X.K (f1Call Fd fa)) := by
  obtain ⟨f, fd, ps, F, hm, kp, b⟩ := c.ex
  refine PE.imp (pe_call F (hr.mono hk) hg hm kp b .nil pass0 ha hdb he hpl) fun σ H Q ⟨F, G, δ, d, δ', S, e, k⟩ => ?_
  obtain ⟨⟨as, δ1⟩, e1, e2⟩ := Option.bind_eq_some_iff.mp e
  obtain ⟨d', e3, e4⟩ := Option.map_eq_some_iff.mp e2
  cases e4
  refine ⟨F, G, δ, as, _, S, e1, fun vs H1 G1 S1 m1 r1 => ⟨G1, as.map .fz, d, S1.sub, by rw [List.append_nil]; exact ArgR.fzs r1, e3, fun a q H' G' A h1 h2 h3 h4 h5 h6 h7 => ?_⟩⟩
  have S2 := S1.after_apart A (fun p hp => by simp at hp)
  have mv : Mv σ δ1 G1 H1 δ1 G' H' := by
    refine ⟨A.le, fun c u hu gu au => ⟨?_, A.none gu hu, au⟩, fun c hc => ?_⟩
    · rcases A.fr c u hu (by simp) with z | ⟨_, z, _⟩
      · exact z
      · rw [gu] at z; cases z
    · cases z : H1 c with
      | none => rfl
      | some u =>
        rcases A.fr c u z (by simp) with y | ⟨_, _, od, y⟩
        · rw [hc] at y; cases y
        · rw [hc] at y; cases y
  exact k a q H' G' S2 (m1.trans mv) (m1.dom a h1) h2 h3 (apart_new S1 h1) h4 (m1.dom q h5) h6 h7 (apart_new S1 h5)
/-- for y in e: one turn, with the object as the frame's own -/
def sFor1 (i : Nat) (f : F1) (fb : Fs) : Fs := fun δ => (f δ).bind fun p => (fb (p.2.set i (some (.own p.1)))).bind fun q => match q.1 with
  | .ret o => some (.ret o, q.2)
  | _ => some (.next, q.2)
theorem sm_for1 {f : F1} {fb : Fs} {body : List Stmt} {npos : Pos} (hp : PassesOwn (model X.prog X.w) X.A X.env X.xe) (hc : X.calm = true) (hi : PE X e (tE1 X.K f)) (hg : PG X (.Name y npos) (gName i)) (hb : Ss X body fb)
    (hs : ∀ x, foldedSetIterable e X.env x = pure x := by intro _; rfl) : Sm X (.For (.Name y npos) e body [] pos) (sFor1 i f fb) := PS.imp (ps_for hp hc (pi_list hi) hg hb hs) fun Z σ H ⟨F, G, δ, fl, δ', S, e, k⟩ => by
  obtain ⟨⟨d, δ1⟩, e1, e2⟩ := Option.bind_eq_some_iff.mp e
  obtain ⟨⟨fl1, δ2⟩, e3, e4⟩ := Option.bind_eq_some_iff.mp e2
  refine ⟨F, G, δ, d, δ1, S, e1, fun a q H1 G1 S1 m1 ha ga ha1 apa ne hq gq rq apq => ?_⟩
  have h0a := S.fresh ha
  have S2 := S1.freeze ga ha1 h0a apa
  have l2 : Sub G1 (upd G1 a (.lst [.ref q])) := sub_upd ga
  have gq2 : upd G1 a (.lst [.ref q]) q = none := (upd_ne (Ne.symm ne)).trans gq
  have S3 := S2.setOwn gq2 (rq.mono l2.le rfl) (S.fresh hq) apq i
  have rd : Rd (upd G1 a (.lst [.ref q])) a (.lst [.ref q]) := .inl upd_same
  have sq : ∀ {G' H'}, Le (upd G1 a (.lst [.ref q])) G' → Sub G' H' → SqL X.K H' a [.ref q] := fun l s => .inl (s.le.rd _ _ (l.rd _ _ rd))
  refine ⟨a, rfl, ⟨_, sq (.refl _) S2.sub⟩, fun i' m σ' H' => (i' = 0 ∧ m = 1 ∧ σ' = σ ∧ H' = H1) ∨ (i' = 1 ∧ m = 0 ∧ SqL X.K H' a [.ref q] ∧ Z.nx σ' H'), ⟨1, .inl ⟨rfl, rfl, rfl, rfl⟩⟩, ?_⟩
  rintro i' m σ' H' (⟨rfl, rfl, rfl, rfl⟩ | ⟨rfl, rfl, sq', nx⟩)
  · refine .inr ⟨⟨[.ref q], .ref q, sq (.refl _) S2.sub, rfl⟩, fun σ' H' => SqL X.K H' a [.ref q] ∧ Z.nx σ' H', fun σ' H' z => ⟨0, by decide, .inr ⟨rfl, rfl, z.1, z.2⟩⟩, fun v H2 yy => ?_⟩
    obtain ⟨e5, e6⟩ := yy
    subst e5
    have ev := e6 _ (sq (.refl _) S2.sub)
    cases ev
    refine ⟨F, _, _, fl1, δ2, S3, e3, ?_⟩
    have lz : Le G (upd G1 a (.lst [.ref q])) := m1.le.trans l2.le
    cases fl1 with
    | next => cases e4; exact fun σ5 H5 G5 S5 l5 => ⟨sq l5 S5.sub, k σ5 H5 G5 S5 (lz.trans l5)⟩
    | cnt => cases e4; exact fun σ5 H5 G5 S5 l5 => ⟨sq l5 S5.sub, k σ5 H5 G5 S5 (lz.trans l5)⟩
    | brk => cases e4; exact fun σ5 H5 G5 S5 l5 => k σ5 H5 G5 S5 (lz.trans l5)
    | ret o => cases e4; exact fun v σ5 H5 G5 S5 l5 r5 => k v σ5 H5 G5 S5 (lz.trans l5) r5
  · exact .inl ⟨⟨_, sq', Nat.le_refl _⟩, nx⟩
/-- [e for t in ..], one turn, e a new object -/
def f1Lc (vs : List Nat) (fi : Fi) (t : Tg) (f : Fn) : F1 := fun δ => (fi δ).bind fun p => if plainAt vs p.2 = true then match p.1 with
  | [d] => (tgSet t d (wipeD vs p.2)).bind fun δ1 => (f δ1).bind fun q => match q.1 with
    | .new r => some (r, mixD vs p.2 (wipeD vs q.2))
    | _ => none
  | _ => none
  else none
theorem lc1_imp {K : PySem.W.Frag} {vs : List Nat} {fi : Fi} {t : Tg} {f : Fn} {σ : St} {H : Hp} {Q : VK} (ht : ∀ i ∈ t.ix, i ∈ vs) (h : tE1 K (f1Lc vs fi t f) σ H Q) : tLc (tIt K fi) (tgG K t) (tTs K fYes) (tEn K f) vs σ H Q := by
  obtain ⟨F, G, δ, d, δ', S, e, k⟩ := h
  obtain ⟨⟨ds, δ1⟩, e1, e⟩ := Option.bind_eq_some_iff.mp e
  dsimp only at e
  split at e
  case isFalse => cases e
  rename_i hpl
  split at e
  case h_2 => cases e
  rename_i d0
  obtain ⟨δ2, e2, e⟩ := Option.bind_eq_some_iff.mp e
  obtain ⟨⟨o, δ3⟩, e3, e⟩ := Option.bind_eq_some_iff.mp e
  dsimp only at e
  split at e
  case h_2 => cases e
  cases e
  refine ⟨F, G, δ, [d0], δ1, S, e1, fun J H1 G1 S1 m1 Y D hD => ?_⟩
  have hg1 : G1 D = none := none_of_sub S1.sub hD
  have apD := apart_new S1 hD
  have E1 : Tl.Ext G1 H1 G1 (upd H1 D (.lst [])) := .own S1.sub hD
  have Sw := (S1.ext E1).wipe vs
  have gD1 : G1 D = none := hg1
  refine ⟨fun i m H => (i = 0 ∧ m = 1 ∧ H = upd H1 D (.lst [])) ∨ (i = 1 ∧ m = 0 ∧ J.stop 1 H ∧ Q (.ref D) H), ⟨1, .inl ⟨rfl, rfl, rfl⟩⟩, ?_⟩
  rintro i m H2 (⟨rfl, rfl, rfl⟩ | ⟨rfl, rfl, st, q⟩)
  · refine .inr ⟨Y.goes 0 G1 _ (by simp) (.refl _) Sw.sub, fun H => J.stop 1 H ∧ Q (.ref D) H, fun H' z => ⟨0, by decide, .inr ⟨rfl, rfl, z.1, z.2⟩⟩, fun x H3 y => ?_⟩
    obtain ⟨d', G3, hd, E, rx⟩ := Y.ylds 0 G1 _ x H3 (by simp) (.refl _) Sw.sub y
    have hd' : d' = d0 := by simpa using hd.symm
    subst hd'
    have S3 := Sw.ext E
    refine tg_of S3 rx e2 fun σ4 S4 hw hap => ⟨(hw vs ht).trans (wipe_wipe σ vs), ?_⟩
    have hw' : wipe σ4 vs = wipe σ vs := (hw vs ht).trans (wipe_wipe σ vs)
    refine ⟨F, G3, δ2, true, δ2, S4, rfl, fun H5 G5 S5 m5 => ?_⟩
    show if true = true then _ else _
    rw [if_pos rfl]
    refine ⟨F, G5, δ2, _, _, S5, e3, fun v H6 G6 S6 m6 r6 => ?_⟩
    obtain ⟨p, rfl, gp, rp, hp, app⟩ := r6
    have mE : Mv (wipe σ vs) (wipeD vs δ1) G1 (upd H1 D (.lst [])) (wipeD vs δ1) G3 H3 := E.mv
    have kp : ∀ a u, (upd H1 D (.lst [])) a = some u → G1 a = none → Apart σ δ1 a → H6 a = some u ∧ G6 a = none ∧ Apart σ4 δ3 a := fun a u h g ap => by
      obtain ⟨h1, g1, ap1⟩ := mE.stay a u h g (apart_wipe vs ap)
      obtain ⟨h2, g2, ap2⟩ := (m5.trans m6).stay a u h1 g1 (hap a ap1)
      exact ⟨h2, g2, ap2⟩
    obtain ⟨hD6, gD6, aD6⟩ := kp D _ upd_same hg1 apD
    have pD : D ≠ p := fun z => by
      subst z
      have h5 : H3 D = some (.lst []) := E.hh D _ upd_same
      have g3 : G3 D = none := E.none hg1 upd_same
      have := (m5.stay D _ h5 g3 (hap D (apart_wipe vs apD))).1
      rw [hp] at this; cases this
    have hp1 : (upd H1 D (.lst [])) p = none := by
      cases z : (upd H1 D (.lst [])) p with
      | none => rfl
      | some u =>
        have h3 := E.hh p u z
        have := m5.dom p hp
        rw [h3] at this; cases this
    have hp1' : H1 p = none := by rw [upd_ne (Ne.symm pD)] at hp1; exact hp1
    have ne : ∀ {a : Addr} {u : HO}, H1 a = some u → a ≠ D := fun {a u} h z => by rw [z, hD] at h; cases h
    have S7 := S6.wipe vs
    rw [hw'] at S7
    have apD7 : Apart (wipe σ vs) (wipeD vs δ3) D := hw' ▸ apart_wipe vs aD6
    have S8 : Sim K F G6 (upd H6 D (.lst [.ref p])) (wipe σ vs) (wipeD vs δ3) := S7.away gD6 apD7 (S1.fresh hD)
    have l16 : Le G1 G6 := E.gg.le.trans (m5.le.trans m6.le)
    have lw : δ1.length = (wipeD vs δ3).length := by rw [← S1.len, ← S7.len, wipe_length]
    have S9 := S1.mix S8 l16 hpl
    refine ⟨[], hD6, by rw [sizeLine_eq]; decide, Y.stops G6 _ l16 S8.sub, ?_⟩
    refine k D p _ G6 S9 (m1.trans ⟨l16, fun a u h g ap => ?_, fun a ha => ?_⟩) (m1.dom D hD) gD6 upd_same (apart_mix lw apD7 hpl) pD (m1.dom p hp1') gp (rp.mono (.refl _) (upd_ne (Ne.symm pD))) (apart_mix lw (hw' ▸ apart_wipe vs app) hpl)
    · obtain ⟨h2, g2, ap2⟩ := kp a u ((upd_ne (ne h)).trans h) g ap
      exact ⟨(upd_ne (ne h)).trans h2, g2, apart_mix lw (hw' ▸ apart_wipe vs ap2) hpl⟩
    · by_cases z : a = D
      · subst z; exact hD
      · rw [upd_ne z] at ha
        have h3 := mE.dom a ((m5.trans m6).dom a ha)
        rw [upd_ne z] at h3
        exact h3
  · exact .inl ⟨st, q⟩
theorem e1_lc {elt tg iter : Expr} {scope : Scope} {own : List (Str × Nat)} {fi : Fi} {t : Tg} {f : Fn} (hc : X.calm = true) (hN : X.N.Nodup) (hi : Ii X tg iter fi) (ok : BlkOk X.N X.env.scope scope own)
    (hg : ∀ (s : Shared) (H : Hp) (C : Addr) (cl : List (Str × Addr)) (fp : List Addr), PG (X.blk s H scope (compEnvC scope cl C X.env) fp) tg (tgG X.K t))
    (he : ∀ (s : Shared) (H : Hp) (C : Addr) (cl : List (Str × Addr)) (fp : List Addr), En (X.blk s H scope (compEnvC scope cl C X.env) fp) elt f)
    (hix : ∀ i ∈ t.ix, i ∈ own.map (·.2) := by decide) (hs : ∀ x, foldedSetIterable iter X.env x = pure x := by intro _; rfl) :
    PE X (.ListComp elt [⟨tg, iter, [], 0⟩] scope pos) (tE1 X.K (f1Lc (own.map (·.2)) fi t f)) := PE.imp (pe_lc (tt := tTs X.K fYes) (te := tEn X.K f) hc hN hi ok hg (fun _ _ _ _ _ => ptsT_nil) he hs) fun σ H Q h => lc1_imp hix h
end
end L2.Tl

set_option Elab.async false
set_option linter.all false
set_option autoImplicit false
set_option maxRecDepth 100000
namespace L2.Tl
open PySem PySem.Spec PyProof.Rows

/-! ### a list of the frame's own whose items the frame may change, too -/
inductive Kid where
  | ex (d : D) | fr (d : D)
def Kid.d : Kid → D
  | .ex d => d
  | .fr d => d
structure Kids (K : PySem.W.Frag) (F : Fr) (G H : Hp) (σ : St) (δ : Dl) (p : Addr) (vs : List V) (κ : List Kid) : Prop where
  len : vs.length = κ.length
  fr : ∀ (j : Nat) (d : D), κ[j]? = some (Kid.fr d) → ∃ v, vs[j]? = some v ∧ Rep K G v d
  ex : ∀ (j : Nat) (d : D), κ[j]? = some (Kid.ex d) → ∃ q, vs[j]? = some (V.ref q) ∧ G q = none ∧ Root K G H q d ∧ F.H0 q = none ∧ Apart σ δ q ∧ q ≠ p
  inj : ∀ (i j : Nat) (d e : D) (q : Addr), κ[i]? = some (Kid.ex d) → κ[j]? = some (Kid.ex e) → vs[i]? = some (V.ref q) → vs[j]? = some (V.ref q) → i = j
structure SimN (K : PySem.W.Frag) (F : Fr) (G H : Hp) (σ : St) (δ : Dl) (r : Nat) (κ : List Kid) : Prop where
  sim : Sim K F G H σ δ
  no : δ[r]? = some none
  ls : ∃ p vs, σ[r]? = some (some (V.ref p)) ∧ H p = some (.lst vs) ∧ G p = none ∧ F.H0 p = none ∧ Apart σ δ p ∧ Kids K F G H σ δ p vs κ
def noAt (r : Nat) (δ : Dl) : Bool := match δ[r]? with
  | some none => true
  | _ => false
theorem noAt_of {r : Nat} {δ : Dl} (h : noAt r δ = true) : δ[r]? = some none := by
  unfold noAt at h
  split at h
  · assumption
  · cases h
section
variable {K : PySem.W.Frag} {F : Fr} {G H G' H' : Hp} {σ σ' : St} {δ δ' : Dl} {p : Addr} {vs : List V} {κ : List Kid} {r : Nat}
theorem Kids.mv (k : Kids K F G H σ δ p vs κ) (m : Mv σ δ G H δ' G' H') : Kids K F G' H' σ δ' p vs κ := by
  refine ⟨k.len, fun j d h => ?_, fun j d h => ?_, k.inj⟩
  · obtain ⟨v, a, b⟩ := k.fr j d h
    exact ⟨v, a, b.mono m.le⟩
  · obtain ⟨q, a, b, c, e, f, g⟩ := k.ex j d h
    obtain ⟨o, ho⟩ := c.there
    obtain ⟨h1, h2, h3⟩ := m.stay q o ho b f
    exact ⟨q, a, h2, c.mono m.le (h1.trans ho.symm), e, h3, g⟩
theorem Kids.re (k : Kids K F G H σ δ p vs κ) (h : ∀ q, Apart σ δ q → Apart σ' δ' q) : Kids K F G H σ' δ' p vs κ := by
  refine ⟨k.len, k.fr, fun j d hj => ?_, k.inj⟩
  obtain ⟨q, a, b, c, e, f, g⟩ := k.ex j d hj
  exact ⟨q, a, b, c, e, h q f, g⟩
theorem Kids.upd (k : Kids K F G H σ δ p vs κ) (o : HO) : Kids K F G (upd H p o) σ δ p vs κ := by
  refine ⟨k.len, k.fr, fun j d hj => ?_, k.inj⟩
  obtain ⟨q, a, b, c, e, f, g⟩ := k.ex j d hj
  exact ⟨q, a, b, c.mono (.refl _) (upd_ne g), e, f, g⟩
theorem SimN.mv (S : SimN K F G H σ δ r κ) (S' : Sim K F G' H' σ δ') (m : Mv σ δ G H δ' G' H') (h : noAt r δ' = true) : SimN K F G' H' σ δ' r κ := by
  obtain ⟨p, vs, a, b, c, e, f, g⟩ := S.ls
  obtain ⟨h1, h2, h3⟩ := m.stay p _ b c f
  exact ⟨S', noAt_of h, p, vs, a, h1, h2, e, h3, g.mv m⟩
/-- targets that are not the list's own name -/
theorem SimN.tg {t : Tg} {x : V} {d : D} {Q : St → Hp → Prop} (S : SimN K F G H σ δ r κ) (rx : Rep K G x d) (e : tgSet t d δ = some δ') (hr : r ∉ t.ix) (h : noAt r δ' = true) (k : ∀ σ', SimN K F G H σ' δ' r κ → Q σ' H) : tgG K t x σ H Q :=
  tg_of S.sim rx e fun σ' S' hw hap => by
    obtain ⟨p, vs, a, b, c, e, f, g⟩ := S.ls
    refine k σ' ⟨S', noAt_of h, p, vs, ?_, b, c, e, hap p f, g.re hap⟩
    rw [← a, ← wipe_out (σ := σ') hr, ← wipe_out (σ := σ) hr, hw t.ix fun i hi => hi]
/-- an item let go -/
theorem SimN.give (S : SimN K F G H σ δ r κ) {j : Nat} {kid : Kid} (hj : κ[j]? = some kid) : ∃ G', SimN K F G' H σ δ r (κ.set j (.fr kid.d)) ∧ Le G G' ∧ ∀ p vs v, σ[r]? = some (some (V.ref p)) → H p = some (.lst vs) → vs[j]? = some v → Rep K G' v kid.d := by
  obtain ⟨p, vs, a, b, c, e, f, g⟩ := S.ls
  have hl : j < κ.length := (List.getElem?_eq_some_iff.mp hj).1
  have same : ∀ {i : Nat} {x : Kid}, (κ.set j (.fr kid.d))[i]? = some x → (i = j ∧ x = .fr kid.d) ∨ (i ≠ j ∧ κ[i]? = some x) := fun {i x} h => by
    by_cases n : i = j
    · subst n
      rw [List.getElem?_set_self hl] at h
      exact .inl ⟨rfl, (Option.some.inj h).symm⟩
    · rw [List.getElem?_set_ne (Ne.symm n)] at h
      exact .inr ⟨n, h⟩
  cases kid with
  | fr d =>
    refine ⟨G, ?_, .refl _, fun p' vs' v h1 h2 h3 => ?_⟩
    · have : κ.set j (.fr d) = κ := List.ext_getElem? fun i => by
        by_cases n : i = j
        · subst n; rw [List.getElem?_set_self hl, hj]
        · rw [List.getElem?_set_ne (Ne.symm n)]
      rw [show (Kid.fr d).d = d from rfl, this]; exact S
    · rw [a] at h1; cases h1
      rw [b] at h2; cases h2
      obtain ⟨w, h4, h5⟩ := g.fr j d hj
      rw [h3] at h4; cases h4
      exact h5
  | ex d =>
    obtain ⟨q, a1, b1, c1, e1, f1, g1⟩ := g.ex j d hj
    obtain ⟨o, ho⟩ := c1.there
    have sg : Sub G (upd G q o) := sub_upd b1
    refine ⟨upd G q o, ⟨S.sim.freeze b1 ho e1 f1, S.no, p, vs, a, b, (upd_ne (Ne.symm g1)).trans c, e, f, by rw [List.length_set]; exact g.len, fun i x h => ?_, fun i x h => ?_, fun i i' x y q' h h' hv hv' => ?_⟩, sg.le, fun p' vs' v h1 h2 h3 => ?_⟩
    · rcases same h with ⟨rfl, hx⟩ | ⟨n, h⟩
      · cases hx
        exact ⟨_, a1, c1.rep sg.le ho upd_same⟩
      · obtain ⟨v, h1, h2⟩ := g.fr i x h
        exact ⟨v, h1, h2.mono sg.le⟩
    · rcases same h with ⟨rfl, hx⟩ | ⟨n, h⟩
      · cases hx
      · obtain ⟨q', a2, b2, c2, e2, f2, g2⟩ := g.ex i x h
        have nq : q' ≠ q := fun z => n (g.inj i j x d q h hj (z ▸ a2) a1)
        exact ⟨q', a2, (upd_ne nq).trans b2, c2.mono sg.le rfl, e2, f2, g2⟩
    · rcases same h with ⟨_, hx⟩ | ⟨_, h⟩
      · cases hx
      · rcases same h' with ⟨_, hx⟩ | ⟨_, h'⟩
        · cases hx
        · exact g.inj i i' x y q' h h' hv hv'
    · rw [a] at h1; cases h1
      rw [b] at h2; cases h2
      rw [a1] at h3; cases h3
      exact c1.rep sg.le ho upd_same
/-- all items let go, then the list -/
theorem SimN.all (S : SimN K F G H σ δ r κ) : ∃ G' p, Sim K F G' H σ δ ∧ Le G G' ∧ σ[r]? = some (some (V.ref p)) ∧ Rep K G' (.ref p) (.lst (κ.map Kid.d)) := by
  have key : ∀ n, n ≤ κ.length → ∃ G' κ', SimN K F G' H σ δ r κ' ∧ Le G G' ∧ κ'.map Kid.d = κ.map Kid.d ∧ κ'.length = κ.length ∧ ∀ j, j < n → ∃ d, κ'[j]? = some (.fr d) := fun n => by
    induction n with
    | zero => exact fun _ => ⟨G, κ, S, .refl _, rfl, rfl, fun j h => absurd h (Nat.not_lt_zero _)⟩
    | succ n ih =>
      intro hn
      obtain ⟨G1, κ1, S1, l1, m1, e1, f1⟩ := ih (Nat.le_of_succ_le hn)
      have hlt : n < κ1.length := by omega
      obtain ⟨G2, S2, l2, _⟩ := S1.give (List.getElem?_eq_getElem hlt)
      refine ⟨G2, _, S2, l1.trans l2, ?_, by rw [List.length_set]; exact e1, fun j hj => ?_⟩
      · rw [← m1]
        refine List.ext_getElem? fun i => ?_
        rw [List.getElem?_map, List.getElem?_map]
        by_cases z : i = n
        · subst z
          rw [List.getElem?_set_self hlt, List.getElem?_eq_getElem hlt]; rfl
        · rw [List.getElem?_set_ne (Ne.symm z)]
      · by_cases z : j = n
        · subst z
          exact ⟨_, List.getElem?_set_self hlt⟩
        · rw [List.getElem?_set_ne (Ne.symm z)]
          exact f1 j (by omega)
  obtain ⟨G1, κ1, S1, l1, m1, e1, f1⟩ := key κ.length (Nat.le_refl _)
  obtain ⟨p, vs, a, b, c, e, f, g⟩ := S1.ls
  have rl : ∀ {vs : List V} {κ : List Kid}, vs.length = κ.length → (∀ j, j < κ.length → ∃ d v, κ[j]? = some (Kid.fr d) ∧ vs[j]? = some v ∧ Rep K G1 v d) → RepL K G1 vs (κ.map Kid.d) := fun {vs} => by
    induction vs with
    | nil => intro κ h _; cases κ with
      | nil => exact .nil
      | cons _ _ => cases h
    | cons v vs ih => intro κ h k; cases κ with
      | nil => cases h
      | cons x κ =>
        obtain ⟨d, w, h1, h2, h3⟩ := k 0 (by simp)
        simp only [List.getElem?_cons_zero, Option.some.injEq] at h1 h2
        subst h1; subst h2
        refine .cons h3 (ih (by simpa using h) fun j hj => ?_)
        obtain ⟨d', w', a1, a2, a3⟩ := k (j + 1) (by simpa using hj)
        exact ⟨d', w', by simpa using a1, by simpa using a2, a3⟩
  have rvs := rl g.len fun j hj => by
    obtain ⟨d, hd⟩ := f1 j (by omega)
    obtain ⟨v, h1, h2⟩ := g.fr j d hd
    exact ⟨d, v, hd, h1, h2⟩
  refine ⟨upd G1 p (.lst vs), p, S1.sim.freeze c b e f, l1.trans (sub_upd c).le, a, ?_⟩
  rw [← m1]
  exact .lst (.inl upd_same) (rvs.mono (sub_upd c).le)
end

/-! ### the judgements -/
abbrev FsN := Dl → List Kid → Option (Fl × Dl × List Kid)
def tStN (K : PySem.W.Frag) (r : Nat) (f : FsN) : TS := fun D σ H => ∃ F G δ κ fl δ' κ', SimN K F G H σ δ r κ ∧ f δ κ = some (fl, δ', κ') ∧ match fl with
  | .next => ∀ σ' H' G', SimN K F G' H' σ' δ' r κ' → Le G G' → D.nx σ' H'
  | .brk => ∀ σ' H' G', SimN K F G' H' σ' δ' r κ' → Le G G' → D.bk σ' H'
  | .cnt => ∀ σ' H' G', SimN K F G' H' σ' δ' r κ' → Le G G' → D.ct σ' H'
  | .ret _ => False
def SmN (X : Cx) (r : Nat) (st : Stmt) (f : FsN) : Prop := PS X st (tStN X.K r f)
def SsN (X : Cx) (r : Nat) (st : List Stmt) (f : FsN) : Prop := PSs X st (tStN X.K r f)
def nNext : FsN := fun δ κ => some (.next, δ, κ)
def nSeq (f g : FsN) : FsN := fun δ κ => (f δ κ).bind fun p => match p.1 with
  | .next => g p.2.1 p.2.2
  | _ => some p
def nIf (c : Ft) (r : Nat) (a b : FsN) : FsN := fun δ κ => (c δ).bind fun p => if noAt r p.2 = true then (if p.1 = true then a p.2 κ else b p.2 κ) else none
/-- x = e, a, b = e -/
def nAsg (r : Nat) (t : Tg) (f : Fe) : FsN := fun δ κ => (f δ).bind fun p => (esc p.1 p.2).bind fun q => if noAt r q.2 = true then (tgSet t q.1 q.2).bind fun δ' => if noAt r δ' = true then some (.next, δ', κ) else none else none
/-- x = rows[e] -/
def nLoad (r i : Nat) (f : Fe) : FsN := fun δ κ => (f δ).bind fun p => if noAt r p.2 = true then (peek p.1 p.2).bind fun z => match z with
  | .int z => (ixN κ.length z).bind fun j => (κ[j]?).map fun kid => (.next, p.2.set i (some (.fz kid.d)), κ.set j (.fr kid.d))
  | _ => none
  else none
/-- rows[e1][e2] = e3 -/
def nSto2 (r : Nat) (f1 f2 f3 : Fe) : FsN := fun δ κ => (f3 δ).bind fun p => (esc p.1 p.2).bind fun q => if noAt r q.2 = true then (f1 q.2).bind fun p1 => if noAt r p1.2 = true then (peek p1.1 p1.2).bind fun z => match z with
    | .int z => (ixN κ.length z).bind fun j => match κ[j]? with
      | some (.ex _) => (f2 p1.2).bind fun p2 => if noAt r p2.2 = true then (peek p2.1 p2.2).bind fun y => match κ[j]? with
        | some (.ex d) => (dSto d y q.1).map fun d' => (.next, p2.2, κ.set j (.ex d'))
        | _ => none
        else none
      | _ => none
    | _ => none
    else none
  else none
/-- rows[e1] = e2 -/
def nSto1 (r : Nat) (f1 f2 : Fe) : FsN := fun δ κ => (f2 δ).bind fun p => (esc p.1 p.2).bind fun q => if noAt r q.2 = true then (f1 q.2).bind fun p1 => if noAt r p1.2 = true then (peek p1.1 p1.2).bind fun z => match z with
    | .int z => (ixN κ.length z).map fun j => (.next, p1.2, κ.set j (.fr q.1))
    | _ => none
    else none
  else none
def loopN (r : Nat) (t : Tg) (body : FsN) : List D → Dl → List Kid → Option (Fl × Dl × List Kid)
  | [], δ, κ => some (.next, δ, κ)
  | d :: ds, δ, κ => (tgSet t d δ).bind fun δ1 => if noAt r δ1 = true then (body δ1 κ).bind fun p => match p.1 with
    | .next => loopN r t body ds p.2.1 p.2.2
    | .cnt => loopN r t body ds p.2.1 p.2.2
    | .brk => some (.next, p.2)
    | .ret o => none
    else none
def nFor (r : Nat) (t : Tg) (fi : Fi) (body : FsN) : FsN := fun δ κ => (fi δ).bind fun p => if noAt r p.2 = true then loopN r t body p.1 p.2 κ else none
section
variable {X : Cx} {r i : Nat} {pos pos' npos : Pos} {x y : Str} {e ix : Expr}
theorem ssN_nil : SsN X r [] nNext := PSs.imp pss_nil fun D σ H ⟨F, G, δ, κ, fl, δ', κ', S, e, k⟩ => by
  cases e
  exact k σ H G S (.refl _)
theorem ssN_one {st : Stmt} {f : FsN} (h : SmN X r st f) : SsN X r [st] f := pss_one h
theorem ssN_cons {st : Stmt} {rest : List Stmt} {f g : FsN} (h : SmN X r st f) (hr : SsN X r rest g) : SsN X r (st :: rest) (nSeq f g) := PSs.imp (pss_cons h hr) fun D σ H ⟨F, G, δ, κ, fl, δ', κ', S, e, k⟩ => by
  obtain ⟨⟨fl1, δ1, κ1⟩, e1, e2⟩ := Option.bind_eq_some_iff.mp e
  refine ⟨F, G, δ, κ, fl1, δ1, κ1, S, e1, ?_⟩
  cases fl1 with
  | next =>
    dsimp only at e2
    intro σ1 H1 G1 S1 l1
    refine ⟨F, G1, δ1, κ1, fl, δ', κ', S1, e2, ?_⟩
    cases fl with
    | next => exact fun σ2 H2 G2 S2 l2 => k σ2 H2 G2 S2 (l1.trans l2)
    | brk => exact fun σ2 H2 G2 S2 l2 => k σ2 H2 G2 S2 (l1.trans l2)
    | cnt => exact fun σ2 H2 G2 S2 l2 => k σ2 H2 G2 S2 (l1.trans l2)
    | ret o => exact k
  | brk => cases e2; exact k
  | cnt => cases e2; exact k
  | ret o => cases e2; exact k
theorem smN_if {c : Expr} {a b : List Stmt} {fc : Ft} {fa fb : FsN} (hc : Ts X c fc) (ha : SsN X r a fa) (hb : SsN X r b fb) : SmN X r (.If c a b pos) (nIf fc r fa fb) := PS.imp (ps_if hc ha hb) fun D σ H ⟨F, G, δ, κ, fl, δ', κ', S, e, k⟩ => by
  obtain ⟨⟨b0, δ1⟩, e1, e2⟩ := Option.bind_eq_some_iff.mp e
  dsimp only at e2
  split at e2
  case isFalse => cases e2
  rename_i hn
  refine ⟨F, G, δ, b0, δ1, S.sim, e1, fun H1 G1 S1 m1 => ?_⟩
  have S2 := S.mv S1 m1 hn
  split at e2
  · rename_i hb
    subst hb
    show if true = true then _ else _
    rw [if_pos rfl]
    refine ⟨F, G1, δ1, κ, fl, δ', κ', S2, e2, ?_⟩
    cases fl with
    | next => exact fun σ2 H2 G2 S2 l2 => k σ2 H2 G2 S2 (m1.le.trans l2)
    | brk => exact fun σ2 H2 G2 S2 l2 => k σ2 H2 G2 S2 (m1.le.trans l2)
    | cnt => exact fun σ2 H2 G2 S2 l2 => k σ2 H2 G2 S2 (m1.le.trans l2)
    | ret o => exact k
  · rename_i hb
    have hb := Bool.eq_false_iff.mpr hb
    subst hb
    show if false = true then _ else _
    rw [if_neg Bool.false_ne_true]
    refine ⟨F, G1, δ1, κ, fl, δ', κ', S2, e2, ?_⟩
    cases fl with
    | next => exact fun σ2 H2 G2 S2 l2 => k σ2 H2 G2 S2 (m1.le.trans l2)
    | brk => exact fun σ2 H2 G2 S2 l2 => k σ2 H2 G2 S2 (m1.le.trans l2)
    | cnt => exact fun σ2 H2 G2 S2 l2 => k σ2 H2 G2 S2 (m1.le.trans l2)
    | ret o => exact k
theorem smN_asg {st : Stmt} {t : Tg} {f : Fe} (h : PS X st (tAsg (tEv X.K f) (tgG X.K t))) (hr : r ∉ t.ix := by decide) : SmN X r st (nAsg r t f) := PS.imp h fun D σ H ⟨F, G, δ, κ, fl, δ', κ', S, e, k⟩ => by
  obtain ⟨⟨ra, δ1⟩, e1, e⟩ := Option.bind_eq_some_iff.mp e
  obtain ⟨⟨d, δ2⟩, e2, e⟩ := Option.bind_eq_some_iff.mp e
  dsimp only at e
  split at e
  case isFalse => cases e
  rename_i hn
  obtain ⟨δ3, e3, e⟩ := Option.bind_eq_some_iff.mp e
  split at e
  case isFalse => cases e
  rename_i hn3
  cases e
  refine ⟨F, G, δ, ra, δ1, S.sim, e1, fun v H1 G1 S1 m1 r1 => ?_⟩
  obtain ⟨G2, S2, m2, r2⟩ := S1.esc r1 e2
  have S3 := S.mv S2 (m1.trans m2) hn
  exact S3.tg r2 e3 hr hn3 fun σ' S4 => k σ' H1 G2 S4 (m1.le.trans m2.le)
theorem smN_for {tg iter : Expr} {body : List Stmt} {t : Tg} {fi : Fi} {fb : FsN} (hp : PassesOwn (model X.prog X.w) X.A X.env X.xe) (hc : X.calm = true) (hi : Ii X tg iter fi) (hg : PG X tg (tgG X.K t)) (hb : SsN X r body fb) (hr : r ∉ t.ix := by decide)
    (hs : ∀ x, foldedSetIterable iter X.env x = pure x := by intro _; rfl) : SmN X r (.For tg iter body [] pos) (nFor r t fi fb) := PS.imp (ps_for hp hc hi hg hb hs) fun Z σ H ⟨F, G, δ, κ, fl, δ', κ', S, e, k⟩ => by
  obtain ⟨⟨ds, δ1⟩, e1, e2⟩ := Option.bind_eq_some_iff.mp e
  dsimp only at e2
  split at e2
  case isFalse => cases e2
  rename_i hn
  refine ⟨F, G, δ, ds, δ1, S.sim, e1, fun J H1 G1 S1 m1 Y => ?_⟩
  have S1' := S.mv S1 m1 hn
  have hfl : ∀ {ds : List D} {δ : Dl} {κ : List Kid}, loopN r t fb ds δ κ = some (fl, δ', κ') → fl = .next := fun {ds} => by
    induction ds with
    | nil => intro δ κ h; cases h; rfl
    | cons d ds ih =>
      intro δ κ h
      obtain ⟨δ1, _, h⟩ := Option.bind_eq_some_iff.mp h
      split at h
      case isFalse => cases h
      obtain ⟨⟨f1, δ2, κ2⟩, _, h⟩ := Option.bind_eq_some_iff.mp h
      cases f1 with
      | next => exact ih h
      | cnt => exact ih h
      | brk => cases h; rfl
      | ret o => cases h
  have hfl' := hfl e2
  subst hfl'
  refine ⟨fun i m σ H => m = ds.length - i ∧ i ≤ ds.length ∧ ∃ G2 δ2 κ2, SimN X.K F G2 H σ δ2 r κ2 ∧ Le G1 G2 ∧ loopN r t fb (ds.drop i) δ2 κ2 = some (.next, δ', κ'), ⟨ds.length, rfl, Nat.zero_le _, G1, δ1, κ, S1', .refl _, e2⟩, ?_⟩
  rintro i m σ2 H2 ⟨rfl, hi, G2, δ2, κ2, S2, l2, e3⟩
  by_cases hlt : i < ds.length
  · refine .inr ⟨Y.goes i G2 H2 hlt l2 S2.sim.sub, fun σ' H' => ∃ G3 δ3 κ3, SimN X.K F G3 H' σ' δ3 r κ3 ∧ Le G1 G3 ∧ loopN r t fb (ds.drop (i + 1)) δ3 κ3 = some (.next, δ', κ'), fun σ' H' ⟨G3, δ3, κ3, q⟩ => ⟨ds.length - (i + 1), by omega, rfl, hlt, G3, δ3, κ3, q⟩, fun x H3 y => ?_⟩
    obtain ⟨d, G3, hd, E, rx⟩ := Y.ylds i G2 H2 x H3 hlt l2 S2.sim.sub y
    rw [List.drop_eq_getElem_cons hlt] at e3
    rw [List.getElem?_eq_getElem hlt] at hd
    rw [Option.some.inj hd] at e3
    obtain ⟨δ3, e4, e5⟩ := Option.bind_eq_some_iff.mp e3
    split at e5
    case isFalse => cases e5
    rename_i hn3
    obtain ⟨⟨fl1, δ4, κ4⟩, e6, e7⟩ := Option.bind_eq_some_iff.mp e5
    have S3 : SimN X.K F G3 H3 σ2 δ2 r κ2 := S2.mv (S2.sim.ext E) E.mv (by unfold noAt; rw [S2.no])
    have l3 : Le G1 G3 := l2.trans E.gg.le
    refine S3.tg rx e4 hr hn3 fun σ4 S4 => ⟨F, G3, δ3, κ2, fl1, δ4, κ4, S4, e6, ?_⟩
    cases fl1 with
    | next => exact fun σ5 H5 G5 S5 l5 => ⟨G5, δ4, κ4, S5, l3.trans l5, e7⟩
    | cnt => exact fun σ5 H5 G5 S5 l5 => ⟨G5, δ4, κ4, S5, l3.trans l5, e7⟩
    | brk =>
      cases e7
      exact fun σ5 H5 G5 S5 l5 => k σ5 H5 G5 S5 (m1.le.trans (l3.trans l5))
    | ret o => cases e7
  · have ei : i = ds.length := by omega
    subst ei
    rw [List.drop_length] at e3
    cases e3
    exact .inl ⟨Y.stops G2 H2 l2 S2.sim.sub, k σ2 H2 G2 S2 (m1.le.trans l2)⟩
/-- the list's place -/
theorem SimN.at {K : PySem.W.Frag} {F : Fr} {G H : Hp} {σ : St} {δ : Dl} {κ : List Kid} (S : SimN K F G H σ δ r κ) : ∃ p vs, σ[r]? = some (some (V.ref p)) ∧ H p = some (.lst vs) ∧ vs.length = κ.length := by
  obtain ⟨p, vs, a, b, _, _, _, g⟩ := S.ls
  exact ⟨p, vs, a, b, g.len⟩
/-- y = rows[e] -/
theorem smN_load {f : Fe} {p1 : Pos} (hN : X.N.Nodup) (hy : X.N[i]? = some y) (hl : Loc X.env.scope y) (hx : X.N[r]? = some x) (hv : Vis X.env.scope x) (hne : r ≠ i) (h : Ev X e f) (hpx : PlainIx e := by exact fun _ _ => rfl)
    (hs : swapsWith (.Subscript (.Name x npos) e p1) (some (.Name y pos')) pos.line X.env = pure false := by rfl) (hf : X.fn y = true ∨ X.env.scope.names.lookup y = some .local := by first | exact .inl rfl | exact .inr rfl | assumption)
    (hd : (x == ("__debug__" : Str)) = false := by decide) (hcd : (x == ("__classdict__" : Str)) = false := by decide) :
    SmN X r (.Assign [.Name y pos'] (.Subscript (.Name x npos) e p1) pos) (nLoad r i f) := PS.imp (ps_set hN hy hl (pe_ix ix_list (pe_var hx hv hd hcd) h hpx) hs hf) fun D σ H ⟨F, G, δ, κ, fl, δ', κ', S, e, k⟩ => by
  obtain ⟨⟨ra, δ1⟩, e1, e⟩ := Option.bind_eq_some_iff.mp e
  dsimp only at e
  split at e
  case isFalse => cases e
  rename_i hn
  obtain ⟨z, e2, e⟩ := Option.bind_eq_some_iff.mp e
  split at e
  case h_2 => cases e
  rename_i zi
  obtain ⟨j, e3, e⟩ := Option.bind_eq_some_iff.mp e
  obtain ⟨kid, e4, e5⟩ := Option.map_eq_some_iff.mp e
  cases e5
  obtain ⟨p, vs, a, b, hlen⟩ := S.at
  refine ⟨.ref p, a, F, G, δ, ra, δ1, S.sim, e1, fun v H1 G1 S1 m1 r1 => ?_⟩
  have hz := (S1.peek r1 e2).int
  subst hz
  have S2 := S.mv S1 m1 hn
  obtain ⟨p', vs', a', b', hlen'⟩ := S2.at
  rw [a] at a'; cases a'
  have hj : j < vs'.length := by rw [hlen']; exact (List.getElem?_eq_some_iff.mp e4).1
  obtain ⟨G2, S3, l3, hrep⟩ := S2.give e4
  have rv := hrep p vs' _ a b' (List.getElem?_eq_getElem hj)
  refine ⟨p, vs', _, _, rfl, rfl, .inl (.inl b'), (by unfold atI; rw [hlen', e3]; exact List.getElem?_eq_getElem hj), ?_⟩
  obtain ⟨q1, q2, q3, q4, q5, q6, q7, q8⟩ := S3.ls
  refine k _ H1 G2 ⟨S3.sim.set rv i, ?_, q1, q2, ?_, q4, q5, q6, (q7.set (x := .fz kid.d) i S3.sim.len fun _ z => nomatch z), (q8.re fun q ap => ap.set (x := .fz kid.d) i S3.sim.len fun _ z => nomatch z)⟩ (m1.le.trans l3)
  · rw [List.getElem?_set_ne (Ne.symm hne)]; exact S3.no
  · rw [List.getElem?_set_ne (Ne.symm hne)]; exact q3
/-- rows[e1][e2] = e3 -/
theorem smN_sto2 (hu : X.A.units + 64 < cLine) {e1 e2 e3 : Expr} {f1 f2 f3 : Fe} {p1 p2 : Pos} (hx : X.N[r]? = some x) (hv : Vis X.env.scope x) (h1 : Ev X e1 f1) (h2 : Ev X e2 f2) (h3 : Ev X e3 f3) (hpx : PlainIx e1 := by exact fun _ _ => rfl)
    (hd : (x == ("__debug__" : Str)) = false := by decide) (hcd : (x == ("__classdict__" : Str)) = false := by decide)
    (ha : ∀ v, assign (.Subscript (.Subscript (.Name x npos) e1 p1) e2 p2) X.env v = (do
      let ov ← holding [v] (eval (.Subscript (.Name x npos) e1 p1) X.env)
      let iv ← holding [v, ov] (eval e2 X.env)
      standAt p2
      holding [v, ov, iv] (setItem ov iv v)
      release [v, ov, iv] []) := by intro _; rfl)
    (hs : swapsWithSole [.Subscript (.Subscript (.Name x npos) e1 p1) e2 p2] e3 pos.line X.env = pure false := by rfl) (hw : swappedStores [.Subscript (.Subscript (.Name x npos) e1 p1) e2 p2] e3 X.env = pure none := by rfl)
    (hal : (assignEach [.Subscript (.Subscript (.Name x npos) e1 p1) e2 p2] X.env).map (·.2) = [assign (.Subscript (.Subscript (.Name x npos) e1 p1) e2 p2) X.env] := by rfl) :
    SmN X r (.Assign [.Subscript (.Subscript (.Name x npos) e1 p1) e2 p2] e3 pos) (nSto2 r f1 f2 f3) := PS.imp (ps_asg h3 (pg_sub (pe_ix ix_list (pe_var hx hv hd hcd) h1 hpx) h2 (stoT hu) ha) hs hw hal) fun D σ H ⟨F, G, δ, κ, fl, δ', κ', S, e, k⟩ => by
  obtain ⟨⟨r3, δ1⟩, e1, e⟩ := Option.bind_eq_some_iff.mp e
  obtain ⟨⟨w, δ2⟩, e2, e⟩ := Option.bind_eq_some_iff.mp e
  dsimp only at e
  split at e
  case isFalse => cases e
  rename_i hn2
  obtain ⟨⟨r1, δ3⟩, e3, e⟩ := Option.bind_eq_some_iff.mp e
  dsimp only at e
  split at e
  case isFalse => cases e
  rename_i hn3
  obtain ⟨z, e4, e⟩ := Option.bind_eq_some_iff.mp e
  split at e
  case h_2 => cases e
  rename_i zi
  obtain ⟨j, e5, e⟩ := Option.bind_eq_some_iff.mp e
  split at e
  case h_2 => cases e
  rename_i d0 hk0
  obtain ⟨⟨r2, δ4⟩, e6, e⟩ := Option.bind_eq_some_iff.mp e
  dsimp only at e
  split at e
  case isFalse => cases e
  rename_i hn4
  obtain ⟨y, e7, e⟩ := Option.bind_eq_some_iff.mp e
  obtain ⟨d', e8, e9⟩ := Option.map_eq_some_iff.mp e
  cases e9
  refine ⟨F, G, δ, r3, δ1, S.sim, e1, fun v3 H1 G1 S1 m1 q3 => ?_⟩
  obtain ⟨G2, S2, m2, q3'⟩ := S1.esc q3 e2
  have N2 := S.mv S2 (m1.trans m2) hn2
  obtain ⟨p, vs, a, b, hlen⟩ := N2.at
  refine ⟨.ref p, a, F, G2, δ2, r1, δ3, S2, e3, fun v1 H3 G3 S3 m3 q1 => ?_⟩
  have hz := (S3.peek q1 e4).int
  subst hz
  have N3 := N2.mv S3 m3 hn3
  obtain ⟨p', vs', a', b', hlen'⟩ := N3.at
  rw [a] at a'; cases a'
  obtain ⟨p'', vs'', a'', b'', c3, h03, ap3, kids3⟩ := N3.ls
  rw [a] at a''; cases a''
  rw [b'] at b''; cases b''
  obtain ⟨q, hq, gq, rq, hq0, apq, nqp⟩ := kids3.ex j d0 hk0
  have hj : j < vs'.length := by rw [hlen']; exact (List.getElem?_eq_some_iff.mp hk0).1
  refine ⟨p, vs', _, .ref q, rfl, rfl, .inl (.inl b'), (by unfold atI; rw [hlen', e5]; exact hq), F, G3, δ3, r2, _, S3, e6, fun v2 H4 G4 S4 m4 q2 => ?_⟩
  have N4 := N3.mv S4 m4 hn4
  obtain ⟨p4, vs4, a4, b4, c4, h04, ap4, kids4⟩ := N4.ls
  rw [a] at a4; cases a4
  obtain ⟨hb4, _, _⟩ := m4.stay p _ b' c3 ap3
  rw [hb4] at b4; cases b4
  obtain ⟨q', hq', gq', rq', hq0', apq', nqp'⟩ := kids4.ex j d0 hk0
  rw [hq] at hq'; cases hq'
  refine ⟨G4, q, d0, y, w, d', rfl, S4.sub, gq', rq', S4.peek q2 e7, (q3'.mono m3.le).mono m4.le, e8, fun u ru => ?_⟩
  have hlk : j < κ.length := (List.getElem?_eq_some_iff.mp hk0).1
  have same : ∀ {i : Nat} {x : Kid}, (κ.set j (.ex d'))[i]? = some x → (i = j ∧ x = .ex d') ∨ (i ≠ j ∧ κ[i]? = some x) := fun {i x} h => by
    by_cases n : i = j
    · subst n
      rw [List.getElem?_set_self hlk] at h
      exact .inl ⟨rfl, (Option.some.inj h).symm⟩
    · rw [List.getElem?_set_ne (Ne.symm n)] at h
      exact .inr ⟨n, h⟩
  have back : ∀ {i : Nat} {x : Tl.D}, (κ.set j (.ex d'))[i]? = some (.ex x) → ∃ x', κ[i]? = some (.ex x') := fun {i x} h => by
    rcases same h with ⟨rfl, _⟩ | ⟨_, h⟩
    · exact ⟨d0, hk0⟩
    · exact ⟨x, h⟩
  refine k σ _ G4 ⟨S4.away gq' apq' hq0', noAt_of hn4, p, vs', a, (upd_ne (Ne.symm nqp')).trans hb4, c4, h04, ap4, by rw [List.length_set]; exact kids4.len, fun i x h => ?_, fun i x h => ?_, fun i i' x y' q1 h h' hv hv' => ?_⟩ (m1.le.trans (m2.le.trans (m3.le.trans m4.le)))
  · rcases same h with ⟨_, hx⟩ | ⟨_, h⟩
    · cases hx
    · exact kids4.fr i x h
  · rcases same h with ⟨rfl, hx⟩ | ⟨n, h⟩
    · cases hx
      exact ⟨q, hq, gq', ru, hq0', apq', nqp'⟩
    · obtain ⟨q1, a1, b1, c1, d1, f1, g1⟩ := kids4.ex i x h
      have nq : q1 ≠ q := fun z => n (kids4.inj i j x d0 q h hk0 (z ▸ a1) hq)
      exact ⟨q1, a1, b1, c1.mono (.refl _) (upd_ne nq), d1, f1, g1⟩
  · obtain ⟨x1, h1⟩ := back h
    obtain ⟨x2, h2⟩ := back h'
    exact kids4.inj i i' x1 x2 q1 h1 h2 hv hv'
/-- rows[e1] = e2 -/
theorem smN_sto1 (hu : X.A.units + 64 < cLine) {e1 e2 : Expr} {f1 f2 : Fe} {p2 : Pos} (hx : X.N[r]? = some x) (hv : Vis X.env.scope x) (h1 : Ev X e1 f1) (h2 : Ev X e2 f2)
    (hd : (x == ("__debug__" : Str)) = false := by decide) (hcd : (x == ("__classdict__" : Str)) = false := by decide)
    (ha : ∀ v, assign (.Subscript (.Name x npos) e1 p2) X.env v = (do
      let ov ← holding [v] (eval (.Name x npos) X.env)
      let iv ← holding [v, ov] (eval e1 X.env)
      standAt p2
      holding [v, ov, iv] (setItem ov iv v)
      release [v, ov, iv] []) := by intro _; rfl)
    (hs : swapsWithSole [.Subscript (.Name x npos) e1 p2] e2 pos.line X.env = pure false := by rfl) (hw : swappedStores [.Subscript (.Name x npos) e1 p2] e2 X.env = pure none := by rfl)
    (hal : (assignEach [.Subscript (.Name x npos) e1 p2] X.env).map (·.2) = [assign (.Subscript (.Name x npos) e1 p2) X.env] := by rfl) :
    SmN X r (.Assign [.Subscript (.Name x npos) e1 p2] e2 pos) (nSto1 r f1 f2) := PS.imp (ps_asg h2 (pg_sub (pe_var hx hv hd hcd) h1 set_list ha) hs hw hal) fun D σ H ⟨F, G, δ, κ, fl, δ', κ', S, e, k⟩ => by
  obtain ⟨⟨r3, δ1⟩, e1, e⟩ := Option.bind_eq_some_iff.mp e
  obtain ⟨⟨w, δ2⟩, e2, e⟩ := Option.bind_eq_some_iff.mp e
  dsimp only at e
  split at e
  case isFalse => cases e
  rename_i hn2
  obtain ⟨⟨r1, δ3⟩, e3, e⟩ := Option.bind_eq_some_iff.mp e
  dsimp only at e
  split at e
  case isFalse => cases e
  rename_i hn3
  obtain ⟨z, e4, e⟩ := Option.bind_eq_some_iff.mp e
  split at e
  case h_2 => cases e
  rename_i zi
  obtain ⟨j, e5, e6⟩ := Option.map_eq_some_iff.mp e
  cases e6
  refine ⟨F, G, δ, r3, δ1, S.sim, e1, fun v3 H1 G1 S1 m1 q3 => ?_⟩
  obtain ⟨G2, S2, m2, q3'⟩ := S1.esc q3 e2
  have N2 := S.mv S2 (m1.trans m2) hn2
  obtain ⟨p, vs, a, b, hlen⟩ := N2.at
  refine ⟨.ref p, a, F, G2, δ2, r1, _, S2, e3, fun v1 H3 G3 S3 m3 q1 => ?_⟩
  have hz := (S3.peek q1 e4).int
  subst hz
  have N3 := N2.mv S3 m3 hn3
  obtain ⟨p', vs', a', b', c3, h03, ap3, kids3⟩ := N3.ls
  rw [a] at a'; cases a'
  have rw3 := q3'.mono m3.le
  refine ⟨p, vs', _, j, rfl, rfl, b', (by rw [kids3.len]; exact e5), ?_⟩
  have hlj : j < κ.length := by
    exact (ixN_seq e5).2.1
  have same : ∀ {i : Nat} {x : Kid}, (κ.set j (.fr w))[i]? = some x → (i = j ∧ x = .fr w) ∨ (i ≠ j ∧ κ[i]? = some x) := fun {i x} h => by
    by_cases n : i = j
    · subst n
      rw [List.getElem?_set_self hlj] at h
      exact .inl ⟨rfl, (Option.some.inj h).symm⟩
    · rw [List.getElem?_set_ne (Ne.symm n)] at h
      exact .inr ⟨n, h⟩
  have kk := kids3.upd (.lst (vs'.set j v3))
  refine k σ _ G3 ⟨S3.away c3 ap3 h03, noAt_of hn3, p, vs'.set j v3, a, upd_same, c3, h03, ap3, by rw [List.length_set, List.length_set]; exact kids3.len, fun i x h => ?_, fun i x h => ?_, fun i i' x y' q1 h h' hv hv' => ?_⟩ (m1.le.trans (m2.le.trans m3.le))
  · rcases same h with ⟨rfl, hx⟩ | ⟨n, h⟩
    · cases hx
      exact ⟨v3, List.getElem?_set_self (by rw [kids3.len]; exact hlj), rw3⟩
    · rw [List.getElem?_set_ne (Ne.symm n)]
      exact kk.fr i x h
  · rcases same h with ⟨_, hx⟩ | ⟨n, h⟩
    · cases hx
    · rw [List.getElem?_set_ne (Ne.symm n)]
      exact kk.ex i x h
  · rcases same h with ⟨_, hx⟩ | ⟨n, h⟩
    · cases hx
    · rcases same h' with ⟨_, hx⟩ | ⟨n', h'⟩
      · cases hx
      · rw [List.getElem?_set_ne (Ne.symm n)] at hv
        rw [List.getElem?_set_ne (Ne.symm n')] at hv'
        exact kids3.inj i i' x y' q1 h h' hv hv'
end
end L2.Tl

set_option Elab.async false
set_option linter.all false
set_option autoImplicit false
set_option maxRecDepth 100000
namespace L2.Tl
open PySem PySem.Spec PyProof.Rows

/-! ### rows = [e for t in ..], each e a new object that the frame may change; return rows -/
def kidOf : OV → Kid
  | .val d => .fr d
  | .new d => .ex d
def lcN (vs : List Nat) (t : Tg) (f : Fn) : List D → Dl → Option (List Kid × Dl)
  | [], δ => some ([], δ)
  | d :: ds, δ => (tgSet t d δ).bind fun δ1 => (f δ1).bind fun q => (lcN vs t f ds (wipeD vs q.2)).map fun s => (kidOf q.1 :: s.1, s.2)
def nLc (vs : List Nat) (fi : Fi) (t : Tg) (f : Fn) : Dl → Option (List Kid × Dl) := fun δ => (fi δ).bind fun p => if p.1.length ≤ sizeLine ∧ plainAt vs p.2 = true then
    (lcN vs t f p.1 (wipeD vs p.2)).map fun q => (q.1, mixD vs p.2 q.2) else none
section
variable {K : PySem.W.Frag} {F : Fr} {G H : Hp} {σ : St} {δ : Dl} {p : Addr} {vs : List V} {κ : List Kid}
theorem Kids.snoc (k : Kids K F G H σ δ p vs κ) {v : V} {o : OV} {Z : Hp} (r : RepO K Z G H σ δ v o) (hz : ∀ a, Z a = none → F.H0 a = none) (np : ∀ q, v = .ref q → Z q = none → q ≠ p) (old : ∀ (j : Nat) (d : Tl.D) (q : Addr), κ[j]? = some (Kid.ex d) → vs[j]? = some (V.ref q) → Z q ≠ none) : Kids K F G H σ δ p (vs ++ [v]) (κ ++ [kidOf o]) := by
  have at' : ∀ {j : Nat} {x : Kid}, (κ ++ [kidOf o])[j]? = some x → (j < κ.length ∧ κ[j]? = some x ∧ (vs ++ [v])[j]? = vs[j]?) ∨ (j = κ.length ∧ x = kidOf o ∧ (vs ++ [v])[j]? = some v) := fun {j x} h => by
    by_cases hj : j < κ.length
    · rw [List.getElem?_append_left hj] at h
      exact .inl ⟨hj, h, List.getElem?_append_left (by rw [k.len]; exact hj)⟩
    · rw [List.getElem?_append_right (by omega)] at h
      have e : j = κ.length := by
        have := (List.getElem?_eq_some_iff.mp h).1
        simp at this
        omega
      subst e
      simp at h
      refine .inr ⟨rfl, h.symm, ?_⟩
      rw [List.getElem?_append_right (by rw [k.len]; exact Nat.le_refl _), k.len]
      simp
  refine ⟨by simp [k.len], fun j d h => ?_, fun j d h => ?_, fun i j d e q h h' hv hv' => ?_⟩
  · rcases at' h with ⟨_, h, ev⟩ | ⟨_, hx, ev⟩
    · rw [ev]; exact k.fr j d h
    · cases o with
      | val d' => cases hx; exact ⟨v, ev, r⟩
      | new d' => cases hx
  · rcases at' h with ⟨_, h, ev⟩ | ⟨_, hx, ev⟩
    · rw [ev]; exact k.ex j d h
    · cases o with
      | val d' => cases hx
      | new d' =>
        cases hx
        obtain ⟨q, rfl, a, b, c, e⟩ := r
        exact ⟨q, ev, a, b, hz q c, e, np q rfl c⟩
  · have fresh : ∀ {d' : D}, Kid.ex d' = kidOf o → (vs ++ [v])[κ.length]? = some v → ∀ (i : Nat) (d : D) (q : Addr), i < κ.length → κ[i]? = some (Kid.ex d) → vs[i]? = some (V.ref q) → v = .ref q → False := fun {d'} ho ev i d q hi hk hq hvq => by
      cases o with
      | val _ => cases ho
      | new d'' =>
        obtain ⟨q', rfl, a, b, c, e⟩ := r
        cases hvq
        exact old i d _ hk hq c
    rcases at' h with ⟨hi, h, ev⟩ | ⟨hi, hx, ev⟩
    · rcases at' h' with ⟨hj, h', ev'⟩ | ⟨hj, hx', ev'⟩
      · rw [ev] at hv
        rw [ev'] at hv'
        exact k.inj i j d e q h h' hv hv'
      · subst hj
        rw [ev] at hv
        rw [ev'] at hv'
        exact (fresh hx' ev' i d q hi h hv (Option.some.inj hv')).elim
    · subst hi
      rcases at' h' with ⟨hj, h', ev'⟩ | ⟨hj, hx', ev'⟩
      · rw [ev] at hv
        rw [ev'] at hv'
        exact (fresh hx ev j e q hj h' hv' (Option.some.inj hv)).elim
      · exact hj.symm
end
/-- a slot of which nothing is known is set -/
theorem Sim.setNo {K : PySem.W.Frag} {F : Fr} {G H : Hp} {σ : St} {δ : Dl} (S : Sim K F G H σ δ) {r : Nat} (h : δ[r]? = some none) (v : Option V) : Sim K F G H (σ.set r v) δ := by
  have ne : ∀ {j : Nat} {x : SV}, δ[j]? = some (some x) → (σ.set r v)[j]? = σ[j]? := fun {j x} hj => List.getElem?_set_ne (fun z => by subst z; rw [h] at hj; cases hj)
  refine ⟨by simpa using S.len, fun i d hd => ?_, fun i d hd => ?_, fun i d hd => ?_, fun i j x y d e p h1 r1 h2 r2 h3 h4 => ?_, S.sub, S.new, S.fr, S.ioh, S.g0⟩
  · rw [ne hd]; exact S.fz i d hd
  · rw [ne hd]; exact S.own i d hd
  · rw [ne hd]; exact S.inp i d hd
  · rw [ne h1] at h3
    rw [ne h2] at h4
    exact S.inj i j x y d e p h1 r1 h2 r2 h3 h4
theorem Apart.setNo {σ : St} {δ : Dl} {p : Addr} {r : Nat} (a : Apart σ δ p) (h : δ[r]? = some none) (v : Option V) : Apart (σ.set r v) δ p := fun i x d hx hr hs => by
  rw [List.getElem?_set_ne (fun z => by subst z; rw [h] at hx; cases hx)] at hs
  exact a i x d hx hr hs
theorem Apart.drop {σ : St} {δ : Dl} {p : Addr} (a : Apart σ δ p) (r : Nat) : Apart σ (δ.set r none) p := fun i x d hx hr hs => by
  by_cases n : i = r
  · subst n
    by_cases hl : i < δ.length
    · rw [List.getElem?_set_self hl] at hx; cases hx
    · rw [List.getElem?_eq_none (by simpa using hl)] at hx; cases hx
  · rw [List.getElem?_set_ne (Ne.symm n)] at hx
    exact a i x d hx hr hs
def tNewN (K : PySem.W.Frag) (r : Nat) (g : Dl → Option (List Kid × Dl)) : TS := fun D σ H => ∃ F G δ κ δ', Sim K F G H σ δ ∧ g δ = some (κ, δ') ∧ r < δ'.length ∧ ∀ σ' H' G', SimN K F G' H' σ' (δ'.set r none) r κ → Le G G' → D.nx σ' H'
theorem lcN_imp {K : PySem.W.Frag} {vs : List Nat} {r : Nat} {fi : Fi} {t : Tg} {f : Fn} {σ : St} {H : Hp} {D : Ends} (ht : ∀ i ∈ t.ix, i ∈ vs) (h : tNewN K r (nLc vs fi t f) D σ H) : tAsg (tLc (tIt K fi) (tgG K t) (tTs K fYes) (tEn K f) vs) (gName r) D σ H := by
  obtain ⟨F, G, δ, κ, δ', S, e, hr, k⟩ := h
  obtain ⟨⟨ds, δ1⟩, e1, e⟩ := Option.bind_eq_some_iff.mp e
  dsimp only at e
  split at e
  case isFalse => cases e
  rename_i hz
  obtain ⟨hz, hpl⟩ := hz
  obtain ⟨⟨κ', δ2⟩, e2, e3⟩ := Option.map_eq_some_iff.mp e
  cases e3
  refine ⟨F, G, δ, ds, δ1, S, e1, fun J H1 G1 S1 m1 Y D0 hD => ?_⟩
  have hg1 : G1 D0 = none := none_of_sub S1.sub hD
  have apD := apart_new S1 hD
  have E1 : Tl.Ext G1 H1 G1 (upd H1 D0 (.lst [])) := .own S1.sub hD
  let St (i : Nat) (H : Hp) : Prop := ∃ G2 δ3 acc κa rest, Sim K F G2 H (wipe σ vs) δ3 ∧ Le G1 G2 ∧ H D0 = some (.lst acc) ∧ Kids K F G2 H (wipe σ vs) δ3 D0 acc κa ∧ G2 D0 = none ∧ Apart (wipe σ vs) δ3 D0 ∧ κ' = κa ++ rest ∧ κa.length ≤ i ∧
    lcN vs t f (ds.drop i) δ3 = some (rest, δ2)
  have st0 : St 0 (upd H1 D0 (.lst [])) := ⟨G1, wipeD vs δ1, [], [], κ', (S1.ext E1).wipe vs, .refl _, upd_same, ⟨rfl, fun j d h => by simp at h, fun j d h => by simp at h, fun i j d e q h => by simp at h⟩, hg1, apart_wipe vs apD, rfl, Nat.le_refl _, e2⟩
  refine ⟨fun i m H => m = ds.length - i ∧ i ≤ ds.length ∧ St i H, ⟨ds.length, rfl, Nat.zero_le _, st0⟩, ?_⟩
  rintro i m H2 ⟨rfl, hi, G2, δ3, acc, κa, rest, S2, l2, hacc, kids, gD, aD, exs, hla, e4⟩
  by_cases hlt : i < ds.length
  · refine .inr ⟨Y.goes i G2 H2 hlt l2 S2.sub, St (i + 1), fun H' q => ⟨ds.length - (i + 1), by omega, rfl, hlt, q⟩, fun x H3 y => ?_⟩
    obtain ⟨d, G3, hd, E, rx⟩ := Y.ylds i G2 H2 x H3 hlt l2 S2.sub y
    rw [List.drop_eq_getElem_cons hlt] at e4
    rw [List.getElem?_eq_getElem hlt] at hd
    rw [Option.some.inj hd] at e4
    obtain ⟨δ4, e5, e6⟩ := Option.bind_eq_some_iff.mp e4
    obtain ⟨⟨o, δ5⟩, e7, e8⟩ := Option.bind_eq_some_iff.mp e6
    obtain ⟨⟨rest', δ6⟩, e9, e10⟩ := Option.map_eq_some_iff.mp e8
    cases e10
    have S3 := S2.ext E
    have mE : Mv (wipe σ vs) δ3 G2 H2 δ3 G3 H3 := E.mv
    obtain ⟨hD3, gD3, aD3⟩ := mE.stay D0 _ hacc gD aD
    refine tg_of S3 rx e5 fun σ4 S4 hw hap => ⟨(hw vs ht).trans (wipe_wipe σ vs), ?_⟩
    have hw' : wipe σ4 vs = wipe σ vs := (hw vs ht).trans (wipe_wipe σ vs)
    refine ⟨F, G3, δ4, true, δ4, S4, rfl, fun H5 G5 S5 m5 => ?_⟩
    show if true = true then _ else _
    rw [if_pos rfl]
    refine ⟨F, G5, δ4, o, δ5, S5, e7, fun v H6 G6 S6 m6 r6 => ?_⟩
    have k3 := (((kids.mv mE).re hap).mv m5)
    obtain ⟨hD5, gD5, aD5⟩ := m5.stay D0 _ hD3 gD3 (hap D0 aD3)
    obtain ⟨hD6, gD6, aD6⟩ := m6.stay D0 _ hD5 gD5 aD5
    have k6 := k3.mv m6
    have k7 := k6.snoc r6 (fun a h => S5.fresh h) (fun q _ hq z => by rw [z, hD5] at hq; cases hq) (fun j d q hk hv hq => by
      obtain ⟨q', a1, _, c1, _⟩ := k3.ex j d hk
      rw [hv] at a1; cases a1
      obtain ⟨u, hu⟩ := c1.there
      rw [hq] at hu; cases hu)
    have S7 := S6.wipe vs
    rw [hw'] at S7
    have ap7 : ∀ q, Apart σ4 δ5 q → Apart (wipe σ vs) (wipeD vs δ5) q := fun q h => hw' ▸ apart_wipe vs h
    refine ⟨acc, hD6, by rw [kids.len]; omega, G6, wipeD vs δ5, acc ++ [v], κa ++ [kidOf o], rest', S7.away gD6 (ap7 _ aD6) (S1.fresh hD), l2.trans (E.gg.le.trans (m5.le.trans m6.le)), upd_same, (k7.re ap7).upd _, gD6, ap7 _ aD6, by rw [exs]; simp, by simp; exact hla, e9⟩
  · have ei : i = ds.length := by omega
    subst ei
    rw [List.drop_length] at e4
    cases e4
    rw [List.append_nil] at exs
    subst exs
    have lw : δ1.length = δ2.length := by rw [← S1.len, ← S2.len, wipe_length]
    have S9 := (S1.mix S2 l2 hpl).drop r
    have hno : ((mixD vs δ1 δ2).set r none)[r]? = some none := List.getElem?_set_self hr
    have apx : ∀ q, Apart (wipe σ vs) δ2 q → Apart (σ.set r (some (V.ref D0))) ((mixD vs δ1 δ2).set r none) q := fun q h => ((apart_mix lw h hpl).drop r).setNo hno _
    refine .inl ⟨Y.stops G2 H2 l2 S2.sub, k _ H2 G2 ⟨S9.setNo hno _, hno, D0, acc, List.getElem?_set_self ?_, hacc, gD, S1.fresh hD, apx _ aD, kids.re apx⟩ (m1.le.trans l2)⟩
    rw [S1.len, lw, ← mixD_length δ1 vs δ2]
    exact hr
def tRetN (K : PySem.W.Frag) (r : Nat) (f : Dl → List Kid → Option (D × Dl)) : TS := fun Z σ H => ∃ F G δ κ d δ', SimN K F G H σ δ r κ ∧ f δ κ = some (d, δ') ∧ ∀ v σ' H' G', Sim K F G' H' σ' δ' → Le G G' → Rep K G' v d → Z.rt v H'
/-- a block that ends by the list's return -/
def SsR (X : Cx) (r : Nat) (st : List Stmt) (f : Dl → List Kid → Option (D × Dl)) : Prop := PSs X st (tRetN X.K r f)
def rRet : Dl → List Kid → Option (D × Dl) := fun δ κ => some (.lst (κ.map Kid.d), δ)
def rSeq (f : FsN) (g : Dl → List Kid → Option (D × Dl)) : Dl → List Kid → Option (D × Dl) := fun δ κ => (f δ κ).bind fun p => match p.1 with
  | .next => g p.2.1 p.2.2
  | _ => none
def sNew (r : Nat) (g : Dl → Option (List Kid × Dl)) (f : Dl → List Kid → Option (D × Dl)) : Fs := fun δ => (g δ).bind fun p => if r < p.2.length then (f (p.2.set r none) p.1).map fun q => (.ret (.val q.1), q.2) else none
section
variable {X : Cx} {r i : Nat} {pos pos' npos : Pos} {x y : Str} {e ix : Expr}
theorem ssR_ret (hx : X.N[r]? = some x) (hv : Vis X.env.scope x) (hd : (x == ("__debug__" : Str)) = false := by decide) (hcd : (x == ("__classdict__" : Str)) = false := by decide) : SsR X r [.Return (some (.Name x npos)) pos] rRet := PSs.imp (pss_one (ps_ret (pe_var hx hv hd hcd))) fun D σ H ⟨F, G, δ, κ, d, δ', S, e, k⟩ => by
  cases e
  obtain ⟨G', p, S', l, a, rr⟩ := S.all
  exact ⟨_, a, k _ σ H G' S' l rr⟩
theorem ssR_cons {st : Stmt} {rest : List Stmt} {f : FsN} {g : Dl → List Kid → Option (D × Dl)} (h : SmN X r st f) (hr : SsR X r rest g) : SsR X r (st :: rest) (rSeq f g) := PSs.imp (pss_cons h hr) fun D σ H ⟨F, G, δ, κ, d, δ', S, e, k⟩ => by
  obtain ⟨⟨fl1, δ1, κ1⟩, e1, e2⟩ := Option.bind_eq_some_iff.mp e
  refine ⟨F, G, δ, κ, fl1, δ1, κ1, S, e1, ?_⟩
  cases fl1 with
  | next =>
    dsimp only at e2
    intro σ1 H1 G1 S1 l1
    exact ⟨F, G1, δ1, κ1, d, δ', S1, e2, fun v σ2 H2 G2 S2 l2 rv => k v σ2 H2 G2 S2 (l1.trans l2) rv⟩
  | brk => cases e2
  | cnt => cases e2
  | ret o => cases e2
theorem ss_new {st : Stmt} {rest : List Stmt} {g : Dl → Option (List Kid × Dl)} {f : Dl → List Kid → Option (D × Dl)} (h : PS X st (tNewN X.K r g)) (hr : SsR X r rest f) : Ss X (st :: rest) (sNew r g f) := PSs.imp (pss_cons h hr) fun D σ H ⟨F, G, δ, fl, δ', S, e, k⟩ => by
  obtain ⟨⟨κ, δ1⟩, e1, e2⟩ := Option.bind_eq_some_iff.mp e
  dsimp only at e2
  split at e2
  case isFalse => cases e2
  rename_i hl
  obtain ⟨⟨d, δ2⟩, e3, e4⟩ := Option.map_eq_some_iff.mp e2
  cases e4
  exact ⟨F, G, δ, κ, δ1, S, e1, hl, fun σ1 H1 G1 S1 l1 => ⟨F, G1, _, κ, d, _, S1, e3, fun v σ2 H2 G2 S2 l2 rv => k v σ2 H2 G2 S2 (l1.trans l2) rv⟩⟩
theorem new_lc {elt tg iter : Expr} {scope : Scope} {own : List (Str × Nat)} {fi : Fi} {t : Tg} {f : Fn} {py spos : Pos} (hc : X.calm = true) (hN : X.N.Nodup) (hy : X.N[r]? = some y) (hyl : X.env.scope.names.lookup y = some .local)
    (hsw : swapsWith (.ListComp elt [⟨tg, iter, [], 0⟩] scope pos) (some (.Name y py)) spos.line X.env = pure true) (hi : Ii X tg iter fi) (ok : BlkOk X.N X.env.scope scope own)
    (hg : ∀ (s : Shared) (H : Hp) (C : Addr) (cl : List (Str × Addr)) (fp : List Addr), PG (X.blk s H scope (compEnvC scope cl C X.env) fp) tg (tgG X.K t))
    (he : ∀ (s : Shared) (H : Hp) (C : Addr) (cl : List (Str × Addr)) (fp : List Addr), En (X.blk s H scope (compEnvC scope cl C X.env) fp) elt f)
    (hix : ∀ i ∈ t.ix, i ∈ own.map (·.2) := by decide) (hs : ∀ x, foldedSetIterable iter X.env x = pure x := by intro _; rfl) :
    PS X (.Assign [.Name y py] (.ListComp elt [⟨tg, iter, [], 0⟩] scope pos) spos) (tNewN X.K r (nLc (own.map (·.2)) fi t f)) := PS.imp (ps_setLc (tt := tTs X.K fYes) (te := tEn X.K f) hc hN hy hyl hsw hi ok hg (fun _ _ _ _ _ => ptsT_nil) he hs) fun D σ H h => lcN_imp hix h
end
end L2.Tl

set_option Elab.async false
set_option linter.all false
set_option autoImplicit false
set_option maxRecDepth 100000
namespace L2.Tl
open PySem PySem.Spec PyProof.Rows
/-! ### the mirrors' equations, for simp -/
section
variable {δ : Dl} {f g h : Fs} {fe ge he : Fe} {fn gn : Fn} {c d : Ft} {i j : Nat}
@[simp] theorem runP_eq (p n : Nat) (args : List SV) : runP p f n args = if args.length = p then runF f n args else none := rfl
@[simp] theorem runF_eq (n : Nat) (args : List SV) : runF f n args = (f (args.map some ++ List.replicate n none)).bind fun p => match p.1 with
  | .ret o => (outsOf args p.2).map fun os => (o, os)
  | .next => (outsOf args p.2).map fun os => (.val .non, os)
  | _ => none := rfl
@[simp] theorem outsOf_nil (δ : Dl) : outsOf [] δ = some [] := by cases δ <;> rfl
@[simp] theorem outsOf_fz (x : D) (as : List SV) (y : Option SV) : outsOf (.fz x :: as) (y :: δ) = outsOf as δ := rfl
@[simp] theorem outsOf_inp (x z : D) (as : List SV) : outsOf (.inp x :: as) (some (.inp z) :: δ) = (outsOf as δ).map (z :: ·) := rfl
@[simp] theorem sSeq_eq : sSeq f g δ = (f δ).bind fun p => match p.1 with
  | .next => g p.2
  | _ => some p := rfl
@[simp] theorem sSet_eq : sSet i fe δ = (fe δ).bind fun p => (esc p.1 p.2).map fun q => (.next, q.2.set i (some (.fz q.1))) := rfl
@[simp] theorem sOwn_eq : sOwn i fn δ = (fn δ).map fun p => (.next, setO i p.1 p.2) := rfl
@[simp] theorem setO_val (x : D) : setO i (.val x) δ = δ.set i (some (.fz x)) := rfl
@[simp] theorem setO_new (x : D) : setO i (.new x) δ = δ.set i (some (.own x)) := rfl
@[simp] theorem sRet_eq : sRet fn δ = (fn δ).map fun p => (.ret p.1, p.2) := rfl
@[simp] theorem sRetN_eq : sRetN δ = some (.ret (.val .non), δ) := rfl
@[simp] theorem sNext_eq : sNext δ = some (.next, δ) := rfl
@[simp] theorem sBrk_eq : sBrk δ = some (.brk, δ) := rfl
@[simp] theorem sCnt_eq : sCnt δ = some (.cnt, δ) := rfl
@[simp] theorem sNever_eq : sNever δ = none := rfl
@[simp] theorem sEx_eq : sEx fn δ = (fn δ).map fun p => (.next, p.2) := rfl
@[simp] theorem sIf_eq : sIf c f g δ = (c δ).bind fun p => if p.1 = true then f p.2 else g p.2 := rfl
@[simp] theorem sPar_eq (is : List Nat) (f : Fp) : sPar is f δ = (f δ).bind fun p => (setAll is p.1 p.2).map fun δ' => (.next, δ') := rfl
@[simp] theorem sUnp_eq (is : List Nat) : sUnp is fe δ = (fe δ).bind fun p => (esc p.1 p.2).bind fun q => match q.1 with
  | .tup ds => (setAll is (ds.map .val) q.2).map fun δ' => (.next, δ')
  | _ => none := rfl
@[simp] theorem setAll_nil : setAll [] [] δ = some δ := rfl
@[simp] theorem setAll_cons (is : List Nat) (o : OV) (os : List OV) : setAll (i :: is) (o :: os) δ = setAll is os (setO i o δ) := rfl
@[simp] theorem fP0_eq : fP0 δ = some ([], δ) := rfl
@[simp] theorem fP_eq (r : Fp) : fP fn r δ = (fn δ).bind fun p => (r p.2).map fun q => (p.1 :: q.1, q.2) := rfl
@[simp] theorem fV_eq : fV fn δ = (fn δ).map fun p => (.val p.1.d, p.2) := rfl
@[simp] theorem fO_eq : fO fe δ = match fe δ with
  | some (r, δ1) => match esc r δ1 with
    | some (d, δ2) => some (.val d, δ2)
    | none => none
  | none => none := rfl
@[simp] theorem OVd_val (x : D) : (OV.val x).d = x := rfl
@[simp] theorem OVd_new (x : D) : (OV.new x).d = x := rfl
@[simp] theorem peek_val (x : D) : peek (.val x) δ = some x := rfl
@[simp] theorem esc_val (x : D) : esc (.val x) δ = some (x, δ) := rfl
@[simp] theorem peek_slot : peek (.slot i) δ = match δ[i]? with
  | some (some x) => some (svD x)
  | _ => none := rfl
@[simp] theorem esc_slot : esc (.slot i) δ = match δ[i]? with
  | some (some (SV.fz d)) => some (d, δ)
  | some (some (SV.own d)) => some (d, δ.set i (some (SV.fz d)))
  | _ => none := rfl
@[simp] theorem svD_fz (x : D) : svD (.fz x) = x := rfl
@[simp] theorem svD_own (x : D) : svD (.own x) = x := rfl
@[simp] theorem svD_inp (x : D) : svD (.inp x) = x := rfl
@[simp] theorem fOp2_eq (g : D → D → Option OV) : fOp2 g fe ge δ = (fe δ).bind fun p => (ge p.2).bind fun q => (peek p.1 q.2).bind fun x => (peek q.1 q.2).bind fun y => (g x y).map fun o => (o, q.2) := rfl
@[simp] theorem fVar_eq : fVar i δ = match δ[i]? with
  | some (some (.fz d)) => some (.val d, δ)
  | some (some (.own _)) => some (.slot i, δ)
  | some (some (.inp _)) => some (.slot i, δ)
  | _ => none := rfl
@[simp] theorem fC_eq (x : D) : fC x δ = some (.val x, δ) := rfl
@[simp] theorem fAnd_eq : fAnd fe ge δ = (fe δ).bind fun p => match p.1 with
  | .val (.bl true) => ge p.2
  | .val (.bl false) => some (.val (.bl false), p.2)
  | _ => none := rfl
@[simp] theorem fOr_eq : fOr fe ge δ = (fe δ).bind fun p => match p.1 with
  | .val (.bl false) => ge p.2
  | .val (.bl true) => some (.val (.bl true), p.2)
  | _ => none := rfl
@[simp] theorem fNot_eq : fNot fe δ = (fe δ).bind fun p => match p.1 with
  | .val (.bl b) => some (.val (.bl (!b)), p.2)
  | _ => none := rfl
@[simp] theorem fNeg_eq : fNeg fe δ = (fe δ).bind fun p => match p.1 with
  | .val (.int i) => some (.val (.int (-i)), p.2)
  | _ => none := rfl
@[simp] theorem fT_eq : fT fe δ = (fe δ).bind fun p => match p.1 with
  | .val (.bl b) => some (b, p.2)
  | _ => none := rfl
@[simp] theorem fTN_eq : fTN c δ = (c δ).map fun p => (!p.1, p.2) := rfl
@[simp] theorem fTA_eq : fTA c d δ = (c δ).bind fun p => if p.1 = true then d p.2 else some (false, p.2) := rfl
@[simp] theorem fTO_eq : fTO c d δ = (c δ).bind fun p => if p.1 = true then some (true, p.2) else d p.2 := rfl
@[simp] theorem fIf_eq : fIf c fe ge δ = (c δ).bind fun p => if p.1 = true then fe p.2 else ge p.2 := rfl
@[simp] theorem fIfN_eq : fIfN c fn gn δ = (c δ).bind fun p => if p.1 = true then fn p.2 else gn p.2 := rfl
@[simp] theorem fA0_eq : fA0 δ = some ([], δ) := rfl
@[simp] theorem fA_eq (r : Fa) : fA fe r δ = (fe δ).bind fun p => (esc p.1 p.2).bind fun q => (r q.2).map fun s => (q.1 :: s.1, s.2) := rfl
@[simp] theorem fLst_eq (f : Fa) : fLst f δ = (f δ).bind fun p => if p.1.length ≤ sizeLine then some (.new (.lst p.1), p.2) else none := rfl
@[simp] theorem fTup_eq (f : Fa) : fTup f δ = (f δ).bind fun p => if p.1.length ≤ sizeLine then some (.val (.tup p.1), p.2) else none := rfl
@[simp] theorem fDct0_eq (t : Bool) : fDct0 t δ = some (.new (.dct t []), δ) := rfl
@[simp] theorem fBl_eq (g : Gb) (q : Fq) : fBl g q δ = (q δ).bind fun p => (peeks p.1 p.2).bind fun ds => (g ds).map fun o => (o, p.2) := rfl
@[simp] theorem fQ0_eq : fQ0 δ = some ([], δ) := rfl
@[simp] theorem fQ_eq (r : Fq) : fQ fe r δ = (fe δ).bind fun p => (r p.2).map fun q => (p.1 :: q.1, q.2) := rfl
@[simp] theorem peeks_nil : peeks [] δ = some [] := rfl
@[simp] theorem peeks_cons (r : RV) (rs : List RV) : peeks (r :: rs) δ = (peek r δ).bind fun d => (peeks rs δ).map (d :: ·) := rfl
@[simp] theorem fCall_eq (F : Fm) (fa : Fr2) (ds : List D) : fCall F fa ds δ = (fa δ).bind fun p => callRs F p.1 ds p.2 := rfl
@[simp] theorem fM0_eq : fM0 δ = some ([], δ) := rfl
@[simp] theorem fMv_eq (r : Fr2) : fMv fe r δ = (fe δ).bind fun p => (esc p.1 p.2).bind fun q => (r q.2).map fun s => (.val q.1 :: s.1, s.2) := rfl
@[simp] theorem fMi_eq (r : Fr2) : fMi fe r δ = (fe δ).bind fun p => (r p.2).map fun s => (p.1 :: s.1, s.2) := rfl
@[simp] theorem callRs_eq (F : Fm) (rs : List RV) (ds : List D) : callRs F rs ds δ = (toArgs rs δ).bind fun as => if nodupB (slotsOf rs) = true then (F (as ++ ds.map .fz)).bind fun r => (putBack (slotsOf rs) r.2 δ).map fun δ' => (r.1, δ') else none := rfl
@[simp] theorem toArgs_nil : toArgs [] δ = some [] := rfl
@[simp] theorem toArgs_val (x : D) (rs : List RV) : toArgs (.val x :: rs) δ = (toArgs rs δ).map (.fz x :: ·) := rfl
@[simp] theorem toArgs_slot (rs : List RV) : toArgs (.slot i :: rs) δ = match δ[i]? with
    | some (some (.own d)) => (toArgs rs δ).map (.inp d :: ·)
    | some (some (.inp d)) => (toArgs rs δ).map (.inp d :: ·)
    | _ => none := rfl
@[simp] theorem slotsOf_nil : slotsOf [] = [] := rfl
@[simp] theorem slotsOf_val (x : D) (rs : List RV) : slotsOf (.val x :: rs) = slotsOf rs := rfl
@[simp] theorem slotsOf_slot (rs : List RV) : slotsOf (.slot i :: rs) = i :: slotsOf rs := rfl
@[simp] theorem putBack_nil : putBack [] [] δ = some δ := rfl
@[simp] theorem putBack_cons (is : List Nat) (x : D) (ds : List D) : putBack (i :: is) (x :: ds) δ = match δ[i]? with
    | some (some (.own _)) => putBack is ds (δ.set i (some (.own x)))
    | some (some (.inp _)) => putBack is ds (δ.set i (some (.inp x)))
    | _ => none := rfl
@[simp] theorem nodupB_nil : nodupB [] = true := rfl
@[simp] theorem nodupB_cons (is : List Nat) : nodupB (i :: is) = (!is.contains i && nodupB is) := rfl
@[simp] theorem fMove_eq : fMove i δ = match δ[i]? with
  | some (some (.own d)) => some (.new d, δ.set i none)
  | some (some (.fz d)) => some (.val d, δ)
  | _ => none := rfl
@[simp] theorem fPart0_eq : fPart0 δ = some (none, δ) := rfl
@[simp] theorem fPart_eq : fPart fe δ = (fe δ).bind fun p => match p.1 with
  | .val (.int i) => some (some i, p.2)
  | _ => none := rfl
@[simp] theorem fCut_eq (fl fh : Dl → Option (Option Int × Dl)) : fCut fe fl fh δ = (fe δ).bind fun p => (fl p.2).bind fun q => (fh q.2).bind fun r => (peek p.1 r.2).bind fun x => (dCut x q.1 r.1).map fun o => (o, r.2) := rfl
@[simp] theorem fIsi_eq (T : String) : fIsi T fe δ = (fe δ).bind fun p => (peek p.1 p.2).bind fun d => (isiD T d).map fun b => (.val (.bl b), p.2) := rfl
@[simp] theorem fIsi2_eq (Ts : List String) : fIsi2 Ts fe δ = (fe δ).bind fun p => (peek p.1 p.2).bind fun d => (tyN d).map fun n => (.val (.bl (Ts.any fun T => kitTab T n)), p.2) := rfl
@[simp] theorem fBits_eq : fBits fe δ = (fe δ).bind fun p => (peek p.1 p.2).bind fun d => match d with
  | .int i => some (.val (.int (Builtin.Int.intBits i : Nat)), p.2)
  | _ => none := rfl
@[simp] theorem fRevL_eq : fRevL fe δ = (fe δ).bind fun p => (peek p.1 p.2).bind fun d => match d with
  | .lst ds => some (.new (.lst ds.reverse), p.2)
  | _ => none := rfl
@[simp] theorem fGet2_eq (fo fk fx : Fe) : fGet2 fo fk fx δ = (fo δ).bind fun p => (peek p.1 p.2).bind fun x0 => match x0 with
  | .dct _ _ => (fk p.2).bind fun q => (fx q.2).bind fun r => (esc r.1 r.2).bind fun s => (peek p.1 s.2).bind fun x => (peek q.1 s.2).bind fun y => (dGetD x y s.1).map fun d => (.val d, s.2)
  | _ => none := rfl
@[simp] theorem fDisp_eq (f : Fd) : fDisp f δ = (f δ).bind fun p => if p.1.length ≤ 15 then some (.new (.dct false (kvMerge [] p.1)), p.2) else none := rfl
@[simp] theorem fD0_eq : fD0 δ = some ([], δ) := rfl
@[simp] theorem fDk_eq (r : Fd) : fDk fe ge r δ = (fe δ).bind fun p => (esc p.1 p.2).bind fun q => if isKey1 q.1 = true then (ge q.2).bind fun p2 => (esc p2.1 p2.2).bind fun q2 => (r q2.2).map fun s => ((q.1, q2.1) :: s.1, s.2) else none := rfl
@[simp] theorem sFor_eq (t : Tg) (fi : Fi) : sFor t fi f δ = (fi δ).bind fun p => loopM t f p.1 p.2 := rfl
@[simp] theorem fiA_eq (g : List D → Option (List D)) (fa : Fa) : fiA g fa δ = (fa δ).bind fun p => (g p.1).map fun ds => (ds, p.2) := rfl
@[simp] theorem fiOf_eq (g : D → Option (List D)) : fiOf g fe δ = (fe δ).bind fun p => (esc p.1 p.2).bind fun q => (g q.1).map fun ds => (ds, q.2) := rfl
@[simp] theorem fLc_eq (vs : List Nat) (fi : Fi) (t : Tg) : fLc vs fi t c fe δ = (fi δ).bind fun p => if p.1.length ≤ sizeLine ∧ plainAt vs p.2 = true then
    (lcM vs t c fe p.1 (wipeD vs p.2)).map fun q => (.new (.lst q.1), mixD vs p.2 q.2) else none := rfl
@[simp] theorem fDc_eq (vs : List Nat) (fi : Fi) (t : Tg) : fDc vs fi t c fe ge δ = (fi δ).bind fun p => if p.1.length ≤ sizeLine ∧ plainAt vs p.2 = true then
    (dcM vs t c fe ge p.1 [] (wipeD vs p.2)).map fun q => (.new (.dct false q.1), mixD vs p.2 q.2) else none := rfl
@[simp] theorem fYes_eq : fYes δ = some (true, δ) := rfl
@[simp] theorem sSto_eq : sSto i fe ge δ = (ge δ).bind fun p => (esc p.1 p.2).bind fun q => (rootAt i q.2).bind fun _ => (fe q.2).bind fun r => (peek r.1 r.2).bind fun y => (rootAt i r.2).bind fun d => (dSto d y q.1).map fun d' => (.next, setRoot i d' r.2) := rfl
@[simp] theorem rootAt_eq : rootAt i δ = match δ[i]? with
  | some (some (.own d)) => some d
  | some (some (.inp d)) => some d
  | _ => none := rfl
@[simp] theorem setRoot_eq (e : D) : setRoot i e δ = match δ[i]? with
  | some (some (.own _)) => δ.set i (some (.own e))
  | some (some (.inp _)) => δ.set i (some (.inp e))
  | _ => δ := rfl
@[simp] theorem fMut_eq (ty : D → Bool) (g : D → List D → Option (D × D)) (fa : Fa) : fMut ty i g fa δ = (rootAt i δ).bind fun d0 => if ty d0 = true then (fa δ).bind fun p => (rootAt i p.2).bind fun d => (g d p.1).map fun q => (.val q.1, setRoot i q.2 p.2) else none := rfl
@[simp] theorem tgSet_nm (x : D) : tgSet (.nm i) x δ = some (δ.set i (some (.fz x))) := rfl
@[simp] theorem tgSet_tp (is : List Nat) (ds : List D) : tgSet (.tp is) (.tup ds) δ = setAll is (ds.map .val) δ := rfl
@[simp] theorem wipeD_nil : wipeD [] δ = δ := rfl
@[simp] theorem wipeD_cons (vs : List Nat) : wipeD (i :: vs) δ = wipeD vs (δ.set i none) := rfl
@[simp] theorem mixD_nil (δ1 : Dl) : mixD [] δ1 δ = δ := rfl
@[simp] theorem mixD_cons (vs : List Nat) (δ1 : Dl) : mixD (i :: vs) δ1 δ = mixD vs δ1 (δ.set i (δ1[i]?.getD none)) := rfl
@[simp] theorem plainAt_nil : plainAt [] δ = true := rfl
@[simp] theorem plainAt_cons (vs : List Nat) : plainAt (i :: vs) δ = ((match δ[i]? with
  | some (some (.own _)) => false
  | some (some (.inp _)) => false
  | _ => true) && plainAt vs δ) := rfl
end
/-! ### operators -/
section
variable (i j : Int) (xs ys : List D)
@[simp] theorem dAdd_int : dAdd (.int i) (.int j) = some (.val (.int (i + j))) := rfl
@[simp] theorem dAddI_int : dAddI (.int i) (.int j) = some (.val (.int (i + j))) := rfl
@[simp] theorem dSub_int : dSub (.int i) (.int j) = some (.val (.int (i - j))) := rfl
@[simp] theorem dMul_int : dMul (.int i) (.int j) = if mulOk i j = true then some (.val (.int (i * j))) else none := rfl
@[simp] theorem dMod_int : dMod (.int i) (.int j) = if 0 < j then some (.val (.int (i % j))) else none := rfl
@[simp] theorem gInt_int : gInt [.int i] = some (.val (.int i)) := rfl
@[simp] theorem gInt_bl (b : Bool) : gInt [.bl b] = some (.val (.int (if b then 1 else 0))) := rfl
@[simp] theorem gAbs_int : gAbs [.int i] = some (.val (.int (if i < 0 then -i else i))) := rfl
@[simp] theorem gMax_int : gMax [.int i, .int j] = some (.val (.int (max i j))) := rfl
@[simp] theorem gMin_int : gMin [.int i, .int j] = some (.val (.int (min i j))) := rfl
@[simp] theorem gMax_lst : gMax [.lst xs] = (intsOf xs).bind fun is => is.max?.map fun m => .val (.int m) := rfl
@[simp] theorem gMin_lst : gMin [.lst xs] = (intsOf xs).bind fun is => is.min?.map fun m => .val (.int m) := rfl
@[simp] theorem gSum_lst : gSum [.lst xs] = (intsOf xs).map fun is => .val (.int is.sum) := rfl
@[simp] theorem gAll_lst : gAll [.lst xs] = (blsOf xs).map fun bs => .val (.bl (bs.all id)) := rfl
@[simp] theorem gAny_lst : gAny [.lst xs] = (blsOf xs).map fun bs => .val (.bl (bs.any id)) := rfl
@[simp] theorem gLen_lst : gLen [.lst xs] = some (.val (.int xs.length)) := rfl
@[simp] theorem gLen_kl (ns : List Int) : gLen [.kl ns] = some (.val (.int ns.length)) := rfl
@[simp] theorem gLen_dct (kvs : List (D × D)) : gLen [.dct false kvs] = some (.val (.int kvs.length)) := rfl
@[simp] theorem seqOf_lst : seqOf (.lst xs) = some xs := rfl
@[simp] theorem seqOf_tup : seqOf (.tup xs) = some xs := rfl
@[simp] theorem seqOf_dct (kvs : List (D × D)) : seqOf (.dct false kvs) = some (kvs.map (·.1)) := rfl
end
theorem mulOk_of {i j : Int} (h : (-(2 ^ 64) < i ∧ i < 2 ^ 64) ∨ (-(2 ^ 64) < j ∧ j < 2 ^ 64)) : mulOk i j = true := by unfold mulOk; exact decide_eq_true h

/-! ### comprehensions and loops -/
/-- one turn -/
def lcTurn (vs : List Nat) (t : Tg) (c : Ft) (f : Fe) (d : D) (δ : Dl) : Option (Option D × Dl) := (tgSet t d δ).bind fun δ1 => (c δ1).bind fun p => if p.1 = true then (f p.2).bind fun q => (esc q.1 q.2).map fun r => (some r.1, wipeD vs r.2) else some (none, wipeD vs p.2)
theorem lcM_turn (vs : List Nat) (t : Tg) (c : Ft) (f : Fe) (d : D) (ds : List D) (δ : Dl) : lcM vs t c f (d :: ds) δ = (lcTurn vs t c f d δ).bind fun p => (lcM vs t c f ds p.2).map fun s => (match p.1 with
    | some x => x :: s.1
    | none => s.1, s.2) := by
  unfold lcTurn
  simp only [lcM]
  cases tgSet t d δ with
  | none => rfl
  | some δ1 =>
    simp only [Option.bind_some]
    cases c δ1 with
    | none => rfl
    | some p =>
      simp only [Option.bind_some]
      split
      · cases f p.2 with
        | none => rfl
        | some q =>
          simp only [Option.bind_some]
          cases esc q.1 q.2 with
          | none => rfl
          | some r => simp
      · simp
/-- each turn leaves the slots as they are -/
theorem lcM_filter {vs : List Nat} {t : Tg} {c : Ft} {f : Fe} {δ : Dl} (p : D → Bool) (g : D → D) : ∀ {ds : List D}, (∀ d ∈ ds, lcTurn vs t c f d δ = some (if p d = true then some (g d) else none, δ)) → lcM vs t c f ds δ = some ((ds.filter p).map g, δ)
  | [], _ => rfl
  | d :: ds, h => by
    rw [lcM_turn, h d (by simp)]
    simp only [Option.bind_some]
    rw [lcM_filter p g fun d' hd => h d' (List.mem_cons_of_mem _ hd)]
    by_cases hp : p d = true
    · simp [hp]
    · simp [hp]
theorem lcM_map {vs : List Nat} {t : Tg} {c : Ft} {f : Fe} {δ : Dl} (g : D → D) {ds : List D} (h : ∀ d ∈ ds, lcTurn vs t c f d δ = some (some (g d), δ)) : lcM vs t c f ds δ = some (ds.map g, δ) := by
  have := lcM_filter (p := fun _ => true) g (ds := ds) (fun d hd => by simpa using h d hd)
  rw [List.filter_eq_self.mpr (fun _ _ => rfl)] at this
  exact this
/-- by an invariant of what is left and the slots -/
theorem loopM_inv {t : Tg} {b : Fs} (R : List D → Dl → Prop) : ∀ {ds : List D} {δ : Dl}, R ds δ → (∀ d ds δ, R (d :: ds) δ → ∃ fl δ', ((tgSet t d δ).bind b) = some (fl, δ') ∧ (fl = .next ∨ fl = .cnt) ∧ R ds δ') → ∃ δ', loopM t b ds δ = some (.next, δ') ∧ R [] δ'
  | [], δ, h, _ => ⟨δ, rfl, h⟩
  | d :: ds, δ, h, hs => by
    obtain ⟨fl, δ1, e, hf, h1⟩ := hs d ds δ h
    obtain ⟨δ2, e2, h2⟩ := loopM_inv R h1 hs
    refine ⟨δ2, ?_, h2⟩
    obtain ⟨δ0, e3, e4⟩ := Option.bind_eq_some_iff.mp e
    show (tgSet t d δ).bind _ = _
    rw [e3]
    simp only [Option.bind_some]
    rw [e4]
    rcases hf with rfl | rfl
    · exact e2
    · exact e2
end L2.Tl
namespace L2.Tl
theorem mulOk_l {i j : Int} (h1 : -18446744073709551616 < i) (h2 : i < 18446744073709551616) : mulOk i j = true := mulOk_of (.inl ⟨by omega, by omega⟩)
theorem mulOk_r {i j : Int} (h1 : -18446744073709551616 < j) (h2 : j < 18446744073709551616) : mulOk i j = true := mulOk_of (.inr ⟨by omega, by omega⟩)
end L2.Tl
namespace L2.Tl
theorem mulOk_m {a n j : Int} (h1 : 0 < n) (h2 : n < 18446744073709551616) : mulOk (a % n) j = true := mulOk_l (by have := Int.emod_nonneg a (b := n) (by omega); omega) (by have := Int.emod_lt_of_pos a h1; omega)
end L2.Tl
namespace L2.Tl
section
variable {α : Type} {vs : List Nat} {t : Tg} {c : Ft} {f : Fe} {δ : Dl}
theorem lcM_filterF (enc : α → D) (p : α → Bool) (g : α → D) : ∀ {xs : List α}, (∀ x ∈ xs, lcTurn vs t c f (enc x) δ = some (if p x = true then some (g x) else none, δ)) → lcM vs t c f (xs.map enc) δ = some ((xs.filter p).map g, δ)
  | [], _ => rfl
  | x :: xs, h => by
    rw [List.map_cons, lcM_turn, h x (by simp)]
    simp only [Option.bind_some]
    rw [lcM_filterF enc p g fun x' hx => h x' (List.mem_cons_of_mem _ hx)]
    by_cases hp : p x = true
    · simp [hp]
    · simp [hp]
theorem lcM_mapF (enc : α → D) (g : α → D) : ∀ {xs : List α}, (∀ x ∈ xs, lcTurn vs t c f (enc x) δ = some (some (g x), δ)) → lcM vs t c f (xs.map enc) δ = some (xs.map g, δ)
  | [], _ => rfl
  | x :: xs, h => by
    rw [List.map_cons, lcM_turn, h x (by simp)]
    simp only [Option.bind_some]
    rw [lcM_mapF enc g fun x' hx => h x' (List.mem_cons_of_mem _ hx)]
    rfl
/-- a turn of {k: v for ..} -/
def dcTurn (vs : List Nat) (t : Tg) (c : Ft) (fk fv : Fe) (d : D) (δ : Dl) : Option (Option (D × D) × Dl) := (tgSet t d δ).bind fun δ1 => (c δ1).bind fun p => if p.1 = true then
    (fk p.2).bind fun q => (esc q.1 q.2).bind fun r => if isKey1 r.1 = true then (fv r.2).bind fun q2 => (esc q2.1 q2.2).map fun r2 => (some (r.1, r2.1), wipeD vs r2.2) else none
    else some (none, wipeD vs p.2)
theorem dcM_turn {fk fv : Fe} (d : D) (ds : List D) (acc : List (D × D)) : dcM vs t c fk fv (d :: ds) acc δ = (dcTurn vs t c fk fv d δ).bind fun p => dcM vs t c fk fv ds (match p.1 with
    | some kv => kvPut acc kv.1 kv.2
    | none => acc) p.2 := by
  unfold dcTurn
  simp only [dcM]
  cases tgSet t d δ with
  | none => rfl
  | some δ1 =>
    simp only [Option.bind_some]
    cases c δ1 with
    | none => rfl
    | some p =>
      simp only [Option.bind_some]
      split
      · cases fk p.2 with
        | none => rfl
        | some q =>
          simp only [Option.bind_some]
          cases esc q.1 q.2 with
          | none => rfl
          | some r =>
            simp only [Option.bind_some]
            split
            · cases fv r.2 with
              | none => rfl
              | some q2 =>
                simp only [Option.bind_some]
                cases esc q2.1 q2.2 with
                | none => rfl
                | some r2 => simp
            · rfl
      · simp
theorem dcM_mapF {fk fv : Fe} (enc : α → D) (g : α → D × D) : ∀ {xs : List α} {acc : List (D × D)}, (∀ x ∈ xs, dcTurn vs t c fk fv (enc x) δ = some (some (g x), δ)) → dcM vs t c fk fv (xs.map enc) acc δ = some (kvMerge acc (xs.map g), δ)
  | [], _, _ => rfl
  | x :: xs, acc, h => by
    rw [List.map_cons, dcM_turn, h x (by simp)]
    simp only [Option.bind_some]
    rw [dcM_mapF enc g fun x' hx => h x' (List.mem_cons_of_mem _ hx)]
    rfl
/-- by an invariant of what is left and the slots -/
theorem loopM_invF {b : Fs} (enc : α → D) (R : List α → Dl → Prop) : ∀ {xs : List α} {δ : Dl}, R xs δ → (∀ x xs δ, R (x :: xs) δ → ∃ fl δ', ((tgSet t (enc x) δ).bind b) = some (fl, δ') ∧ (fl = .next ∨ fl = .cnt) ∧ R xs δ') → ∃ δ', loopM t b (xs.map enc) δ = some (.next, δ') ∧ R [] δ'
  | [], δ, h, _ => ⟨δ, rfl, h⟩
  | d :: ds, δ, h, hs => by
    obtain ⟨fl, δ1, e, hf, h1⟩ := hs d ds δ h
    obtain ⟨δ2, e2, h2⟩ := loopM_invF enc R h1 hs
    refine ⟨δ2, ?_, h2⟩
    obtain ⟨δ0, e3, e4⟩ := Option.bind_eq_some_iff.mp e
    show (tgSet t (enc d) δ).bind _ = _
    rw [e3]
    simp only [Option.bind_some]
    rw [e4]
    rcases hf with rfl | rfl
    · exact e2
    · exact e2
end
end L2.Tl
namespace L2.Tl
section
variable (i j : Int) (xs ys : List D)
@[simp] theorem dEq_int : dEq (.int i) (.int j) = some (.val (.bl (decide (i = j)))) := by
  by_cases h : i = j <;> simp [dEq, eqOk, D.plain, D.dep, D.eqv, h]
@[simp] theorem dNe_int : dNe (.int i) (.int j) = some (.val (.bl (!decide (i = j)))) := by
  by_cases h : i = j <;> simp [dNe, eqOk, D.plain, D.dep, D.eqv, h]
@[simp] theorem dLt_int : dLt (.int i) (.int j) = some (.val (.bl (decide (i < j)))) := by
  rfl
@[simp] theorem dGt_int : dGt (.int i) (.int j) = some (.val (.bl (decide (j < i)))) := by
  rfl
@[simp] theorem dLe_int : dLe (.int i) (.int j) = some (.val (.bl (decide (i ≤ j)))) := by
  rfl
@[simp] theorem dGe_int : dGe (.int i) (.int j) = some (.val (.bl (decide (j ≤ i)))) := by
  rfl
@[simp] theorem dIx_lst : dIx (.lst xs) (.int i) = (atI xs i).map .val := rfl
@[simp] theorem dIx_tup : dIx (.tup xs) (.int i) = (atI xs i).map .val := rfl
theorem atK {α : Type} {xs : List α} {k : Nat} {x : α} (h : xs[k]? = some x) : atI xs (k : Int) = some x := by
  have hl : k < xs.length := (List.getElem?_eq_some_iff.mp h).1
  have h1 : (k : Int) < (xs.length : Int) := by omega
  unfold atI ixN
  rw [if_pos (Int.natCast_nonneg k), if_pos h1]
  simpa using h
/-- the item at a place, 0 if there is none -/
def ig (l : List Int) (i : Int) : Int := (l[i.toNat]?).getD 0
theorem atI_ig {l : List Int} {i : Int} (h0 : 0 ≤ i) (h1 : i < l.length) : atI (l.map D.int) i = some (.int (ig l i)) := by
  obtain ⟨k, rfl⟩ := Int.eq_ofNat_of_zero_le h0
  have hk : k < l.length := by omega
  refine atK ?_
  simp [ig, hk]
theorem atI_last {α : Type} {xs : List α} {x : α} (h : xs.getLast? = some x) : atI xs (-1) = some x := by
  have hne : xs ≠ [] := fun z => by subst z; simp at h
  have hl : 0 < xs.length := List.length_pos_iff.mpr hne
  unfold atI ixN
  rw [if_neg (by omega), if_pos (by omega)]
  simp only [Option.bind_some]
  rw [List.getLast?_eq_getElem?] at h
  rw [show (-1 + (xs.length : Int)).toNat = xs.length - 1 by omega]
  exact h
end
end L2.Tl
namespace L2.Tl
section
variable {xs ys : List D} {i j : Int}
@[simp] theorem dCut_lst (lo hi : Option Int) : dCut (.lst xs) lo hi = some (.new (.lst (cutD xs lo hi))) := rfl
@[simp] theorem dCut_kl (ns : List Int) (lo hi : Option Int) : dCut (.kl ns) lo hi = some (.new (.lst (cutD (ns.map .int) lo hi))) := rfl
theorem sIx_pos (n d : Nat) (h : 0 ≤ i) : HT.sIx n d (some i) = min i.toNat n := by
  obtain ⟨k, rfl⟩ := Int.eq_ofNat_of_zero_le h
  exact HT.sIx_nat n d k
theorem cutD_from (h : 0 ≤ i) : cutD xs (some i) none = xs.drop i.toNat := by
  unfold cutD
  rw [sIx_pos _ _ h, HT.sIx_none]
  by_cases hl : i.toNat ≤ xs.length
  · rw [Nat.min_eq_left hl]
    exact List.take_of_length_le (by simp)
  · rw [Nat.min_eq_right (by omega), List.drop_eq_nil_of_le (Nat.le_refl _), List.drop_eq_nil_of_le (by omega)]
    simp
theorem cutD_to (h : 0 ≤ i) : cutD xs none (some i) = xs.take i.toNat := by
  unfold cutD
  rw [sIx_pos _ _ h, HT.sIx_none]
  simp only [List.drop_zero, Nat.sub_zero]
  by_cases hl : i.toNat ≤ xs.length
  · rw [Nat.min_eq_left hl]
  · rw [Nat.min_eq_right (by omega), List.take_of_length_le (Nat.le_refl _), List.take_of_length_le (by omega)]
theorem cutD_both (h : 0 ≤ i) (h2 : i ≤ j) : cutD xs (some i) (some j) = (xs.drop i.toNat).take (j.toNat - i.toNat) := by
  unfold cutD
  rw [sIx_pos _ _ h, sIx_pos _ _ (by omega)]
  by_cases hl : i.toNat ≤ xs.length
  · rw [Nat.min_eq_left hl]
    by_cases hj : j.toNat ≤ xs.length
    · rw [Nat.min_eq_left hj]
    · rw [Nat.min_eq_right (by omega), List.take_of_length_le (by simp), List.take_of_length_le (by simp; omega)]
  · rw [List.drop_eq_nil_of_le (show xs.length ≤ min i.toNat xs.length by omega), List.drop_eq_nil_of_le (show xs.length ≤ i.toNat by omega)]
    simp
@[simp] theorem gZip_lst : gZip [.lst xs, .lst ys] = some (zipD xs ys) := rfl
theorem zipD_ints : ∀ (a b : List Int), zipD (a.map .int) (b.map .int) = (a.zip b).map fun p => .tup [.int p.1, .int p.2]
  | [], _ => rfl
  | _ :: _, [] => rfl
  | x :: a, y :: b => by simp [zipD, zipD_ints a b]
end
end L2.Tl
namespace L2.Tl
open PySem PySem.Spec PyProof.Rows
@[simp] theorem dAdd_lst (xs ys : List D) : dAdd (.lst xs) (.lst ys) = if xs.length + ys.length ≤ sizeLine then some (.new (.lst (xs ++ ys))) else none := rfl
@[simp] theorem isKey1_int (i : Int) : isKey1 (.int i) = true := rfl
@[simp] theorem gRng1_int (j : Int) : gRng1 [.int j] = if b62 j = true then some (rngD 0 1 j.toNat) else none := rfl
@[simp] theorem gRng2_int (i j : Int) : gRng2 [.int i, .int j] = if b62 i = true ∧ b62 j = true then some (rngD i 1 (j - i).toNat) else none := rfl
@[simp] theorem gRng3_int (i j : Int) : gRng3 [.int i, .int j, .int (-1)] = if b62 i = true ∧ b62 j = true then some (rngD i (-1) (i - j).toNat) else none := rfl
theorem b62_of {i : Int} (h1 : -4611686018427387904 ≤ i) (h2 : i < 4611686018427387904) : b62 i = true := by
  unfold b62
  exact decide_eq_true ⟨by omega, by omega⟩
@[simp] theorem gApp_lst (xs : List D) (y : D) : gApp (.lst xs) [y] = if xs.length < sizeLine then some (.non, .lst (xs ++ [y])) else none := rfl
@[simp] theorem isL_lst (xs : List D) : isL (.lst xs) = true := rfl
@[simp] theorem isD_dct (t : Bool) (kvs : List (D × D)) : isD (.dct t kvs) = true := rfl
end L2.Tl

set_option Elab.async false
set_option linter.all false
set_option autoImplicit false
set_option maxRecDepth 100000
namespace L2.Tl
open PySem PySem.Spec PyProof.Rows
/-! ### equations: lists whose items are changed -/
section
variable {δ : Dl} {κ : List Kid} {r i : Nat} {f g h : FsN} {c : Ft} {fe ge he : Fe}
@[simp] theorem noAt_eq : noAt r δ = match δ[r]? with
  | some none => true
  | _ => false := rfl
@[simp] theorem nNext_eq : nNext δ κ = some (.next, δ, κ) := rfl
@[simp] theorem nSeq_eq : nSeq f g δ κ = (f δ κ).bind fun p => match p.1 with
  | .next => g p.2.1 p.2.2
  | _ => some p := rfl
@[simp] theorem nIf_eq : nIf c r f g δ κ = (c δ).bind fun p => if noAt r p.2 = true then (if p.1 = true then f p.2 κ else g p.2 κ) else none := rfl
@[simp] theorem nAsg_eq (t : Tg) : nAsg r t fe δ κ = (fe δ).bind fun p => (esc p.1 p.2).bind fun q => if noAt r q.2 = true then (tgSet t q.1 q.2).bind fun δ' => if noAt r δ' = true then some (.next, δ', κ) else none else none := rfl
@[simp] theorem nLoad_eq : nLoad r i fe δ κ = (fe δ).bind fun p => if noAt r p.2 = true then (peek p.1 p.2).bind fun z => match z with
  | .int z => (ixN κ.length z).bind fun j => (κ[j]?).map fun kid => (.next, p.2.set i (some (.fz kid.d)), κ.set j (.fr kid.d))
  | _ => none
  else none := rfl
@[simp] theorem nSto2_eq : nSto2 r fe ge he δ κ = (he δ).bind fun p => (esc p.1 p.2).bind fun q => if noAt r q.2 = true then (fe q.2).bind fun p1 => if noAt r p1.2 = true then (peek p1.1 p1.2).bind fun z => match z with
    | .int z => (ixN κ.length z).bind fun j => match κ[j]? with
      | some (.ex _) => (ge p1.2).bind fun p2 => if noAt r p2.2 = true then (peek p2.1 p2.2).bind fun y => match κ[j]? with
        | some (.ex d) => (dSto d y q.1).map fun d' => (.next, p2.2, κ.set j (.ex d'))
        | _ => none
        else none
      | _ => none
    | _ => none
    else none
  else none := rfl
@[simp] theorem nSto1_eq : nSto1 r fe ge δ κ = (ge δ).bind fun p => (esc p.1 p.2).bind fun q => if noAt r q.2 = true then (fe q.2).bind fun p1 => if noAt r p1.2 = true then (peek p1.1 p1.2).bind fun z => match z with
    | .int z => (ixN κ.length z).map fun j => (.next, p1.2, κ.set j (.fr q.1))
    | _ => none
    else none
  else none := rfl
@[simp] theorem nFor_eq (t : Tg) (fi : Fi) : nFor r t fi f δ κ = (fi δ).bind fun p => if noAt r p.2 = true then loopN r t f p.1 p.2 κ else none := rfl
@[simp] theorem rRet_eq : rRet δ κ = some (.lst (κ.map Kid.d), δ) := rfl
@[simp] theorem rSeq_eq (g : Dl → List Kid → Option (D × Dl)) : rSeq f g δ κ = (f δ κ).bind fun p => match p.1 with
  | .next => g p.2.1 p.2.2
  | _ => none := rfl
@[simp] theorem sNew_eq (g : Dl → Option (List Kid × Dl)) (k : Dl → List Kid → Option (D × Dl)) : sNew r g k δ = (g δ).bind fun p => if r < p.2.length then (k (p.2.set r none) p.1).map fun q => (.ret (.val q.1), q.2) else none := rfl
@[simp] theorem nLc_eq (vs : List Nat) (fi : Fi) (t : Tg) (fn : Fn) : nLc vs fi t fn δ = (fi δ).bind fun p => if p.1.length ≤ sizeLine ∧ plainAt vs p.2 = true then
    (lcN vs t fn p.1 (wipeD vs p.2)).map fun q => (q.1, mixD vs p.2 q.2) else none := rfl
theorem lcN_mapF {α : Type} {vs : List Nat} {t : Tg} {fn : Fn} (enc : α → D) (o : α → OV) : ∀ {xs : List α}, (∀ x ∈ xs, ((tgSet t (enc x) δ).bind fun δ1 => (fn δ1).map fun q => (q.1, wipeD vs q.2)) = some (o x, δ)) → lcN vs t fn (xs.map enc) δ = some (xs.map fun x => kidOf (o x), δ)
  | [], _ => rfl
  | x :: xs, h => by
    have h1 := h x (by simp)
    obtain ⟨δ1, e1, e2⟩ := Option.bind_eq_some_iff.mp h1
    obtain ⟨q, e3, e4⟩ := Option.map_eq_some_iff.mp e2
    rw [List.map_cons]
    show (tgSet t (enc x) δ).bind _ = _
    rw [e1]
    simp only [Option.bind_some]
    rw [e3]
    simp only [Prod.mk.injEq] at e4
    obtain ⟨e4, e5⟩ := e4
    simp only [Option.bind_some]
    rw [e5, lcN_mapF enc o fun x' hx => h x' (List.mem_cons_of_mem _ hx), e4]
    rfl
@[simp] theorem kidOf_val (x : D) : kidOf (.val x) = .fr x := rfl
@[simp] theorem kidOf_new (x : D) : kidOf (.new x) = .ex x := rfl
@[simp] theorem kid_fr (x : D) : (Kid.fr x).d = x := rfl
@[simp] theorem kid_ex (x : D) : (Kid.ex x).d = x := rfl
@[simp] theorem f1Call_eq (F : List SV → Option D) (fa : Fa) : f1Call F fa δ = (fa δ).bind fun p => (F (p.1.map .fz)).map fun d => (d, p.2) := rfl
@[simp] theorem sFor1_eq (f : F1) (fb : Fs) : sFor1 i f fb δ = (f δ).bind fun p => (fb (p.2.set i (some (.own p.1)))).bind fun q => match q.1 with
  | .ret o => some (.ret o, q.2)
  | _ => some (.next, q.2) := rfl
theorem loopM_next {t : Tg} {b : Fs} {d : D} {ds : List D} {δ δ' : Dl} (h : (tgSet t d δ).bind b = some (.next, δ')) : loopM t b (d :: ds) δ = loopM t b ds δ' := by
  obtain ⟨δ0, e3, e4⟩ := Option.bind_eq_some_iff.mp h
  show (tgSet t d δ).bind _ = _
  rw [e3]
  simp only [Option.bind_some]
  rw [e4]
  rfl
theorem loopN_next {t : Tg} {d : D} {ds : List D} {δ' : Dl} {κ' : List Kid} (h : ((tgSet t d δ).bind fun δ1 => if noAt r δ1 = true then f δ1 κ else none) = some (.next, δ', κ')) : loopN r t f (d :: ds) δ κ = loopN r t f ds δ' κ' := by
  obtain ⟨δ0, e3, e4⟩ := Option.bind_eq_some_iff.mp h
  show (tgSet t d δ).bind _ = _
  rw [e3]
  simp only [Option.bind_some]
  split at e4
  case isFalse => cases e4
  rename_i hn
  rw [if_pos hn, e4]
  rfl
theorem loopW_next {b : Fs} {n : Nat} {δ' δ1 : Dl} (hc : c δ = some (true, δ1)) (hb : b δ1 = some (.next, δ')) : loopW c b (n + 1) δ = loopW c b n δ' := by
  show (c δ).bind _ = _
  rw [hc]
  simp only [Option.bind_some, if_true]
  rw [hb]
  rfl
theorem loopW_end {b : Fs} {n : Nat} {δ1 : Dl} (hc : c δ = some (false, δ1)) : loopW c b (n + 1) δ = some (.next, δ1) := by
  show (c δ).bind _ = _
  rw [hc]
  rfl
end
/-! ### plain things -/
theorem plainL_of {xs : List D} (h : ∀ x ∈ xs, x.plain = true) : plainL xs = true := by
  induction xs with
  | nil => rfl
  | cons x xs ih =>
    simp only [plainL, Bool.and_eq_true]
    exact ⟨h x (by simp), ih fun y hy => h y (List.mem_cons_of_mem _ hy)⟩
theorem depL_of {xs : List D} {n : Nat} (h : ∀ x ∈ xs, x.dep ≤ n) : depL xs ≤ n := by
  induction xs with
  | nil => exact Nat.zero_le _
  | cons x xs ih =>
    simp only [depL]
    exact Nat.max_le.mpr ⟨h x (by simp), ih fun y hy => h y (List.mem_cons_of_mem _ hy)⟩
@[simp] theorem plain_lst (xs : List D) : (D.lst xs).plain = plainL xs := rfl
@[simp] theorem plain_tup (xs : List D) : (D.tup xs).plain = plainL xs := rfl
@[simp] theorem plain_int (i : Int) : (D.int i).plain = true := rfl
@[simp] theorem dep_int (i : Int) : (D.int i).dep = 0 := rfl
@[simp] theorem dep_lst (xs : List D) : (D.lst xs).dep = depL xs + 1 := rfl
@[simp] theorem dep_tup (xs : List D) : (D.tup xs).dep = depL xs + 1 := rfl
@[simp] theorem plainL_ints (is : List Int) : plainL (is.map .int) = true := plainL_of fun x hx => by
  obtain ⟨i, _, rfl⟩ := List.mem_map.mp hx
  rfl
@[simp] theorem depL_ints (is : List Int) : depL (is.map .int) = 0 := Nat.le_zero.mp (depL_of fun x hx => by
  obtain ⟨i, _, rfl⟩ := List.mem_map.mp hx
  exact Nat.le_refl _)
@[simp] theorem eqvL_ints : ∀ a b : List Int, eqvL (a.map .int) (b.map .int) = decide (a = b)
  | [], [] => rfl
  | [], _ :: _ => by simp [eqvL]
  | _ :: _, [] => by simp [eqvL]
  | x :: a, y :: b => by
    show (D.eqv (.int x) (.int y) && eqvL (a.map .int) (b.map .int)) = _
    rw [eqvL_ints a b]
    show ((x == y) && _) = _
    by_cases h : x = y
    · subst h; simp
    · simp [h]
theorem dNe_nil {xs : List D} (h : plainL xs = true) : dNe (.lst xs) (.lst []) = some (.val (.bl (!xs.isEmpty))) := by
  have h1 : eqOk (.lst xs) (.lst []) = true := by
    simp only [eqOk, Bool.and_eq_true, decide_eq_true_eq]
    exact ⟨h, rfl, Nat.le_trans (Nat.min_le_right _ _) (by decide)⟩
  unfold dNe
  rw [if_pos h1]
  cases xs <;> rfl
theorem dEq_nil {xs : List D} (h : plainL xs = true) : dEq (.lst xs) (.lst []) = some (.val (.bl xs.isEmpty)) := by
  have h1 : eqOk (.lst xs) (.lst []) = true := by
    simp only [eqOk, Bool.and_eq_true, decide_eq_true_eq]
    exact ⟨h, rfl, Nat.le_trans (Nat.min_le_right _ _) (by decide)⟩
  unfold dEq
  rw [if_pos h1]
  cases xs <;> rfl
theorem dEq_ints (a b : List Int) : dEq (.lst (a.map .int)) (.lst (b.map .int)) = some (.val (.bl (decide (a = b)))) := by
  have h1 : eqOk (.lst (a.map .int)) (.lst (b.map .int)) = true := by
    simp [eqOk]
  unfold dEq
  rw [if_pos h1]
  show some (OV.val (.bl (eqvL _ _))) = _
  rw [eqvL_ints]
theorem dNe_ints (a b : List Int) : dNe (.lst (a.map .int)) (.lst (b.map .int)) = some (.val (.bl (!decide (a = b)))) := by
  have h1 : eqOk (.lst (a.map .int)) (.lst (b.map .int)) = true := by
    simp [eqOk]
  unfold dNe
  rw [if_pos h1]
  show some (OV.val (.bl (!eqvL _ _))) = _
  rw [eqvL_ints]
@[simp] theorem gPop_snoc (xs : List D) (y : D) : gPop (.lst (xs ++ [y])) [] = some (y, .lst xs) := by
  show ((xs ++ [y])[(xs ++ [y]).length - 1]?).map _ = _
  simp
theorem gMax2_ii (a b c d : Int) : gMax2 [.tup [.int a, .int b], .tup [.int c, .int d]] = some (.val (if a < c ∨ (a = c ∧ b < d) then .tup [.int c, .int d] else .tup [.int a, .int b])) := by
  have h : ∀ a b : Int, pdL [.int a, .int b] = some [.int a, .int b] := fun a b => by simp [pdL, D.pd]
  have al : ∀ a b c d : Int, PySem.W.alike (.tuple [.int a, .int b]) (.tuple [.int c, .int d]) = true := fun a b c d => by simp [PySem.W.alike, PySem.W.alikeAll]
  simp only [gMax2, h, Option.bind_some, al, true_and, PySem.W.dataLt_ii, decide_eq_true_eq]
  have hd : PySem.PyData.depthAll [PyData.tuple [.int a, .int b], .tuple [.int c, .int d]] ≤ 60 := by
    simp [PySem.PyData.depthAll, PySem.PyData.depth]
  rw [if_pos hd]
end L2.Tl

set_option Elab.async false
set_option linter.all false
set_option autoImplicit false
set_option maxRecDepth 100000
namespace K85
open PySem PySem.Spec PyProof.Rows L2 L2.Tl
def top (i : Nat) : Stmt := PySem.Challenge.pw_filledup_k85_whole_lots_and_sums.main.body.getD i (.Pass ⟨0, 0, 0, 0⟩)
abbrev blts : List Str := ["abs", "all", "any", "bool", "dict", "enumerate", "int", "isinstance", "len", "list", "max", "min", "range", "sorted", "str", "sum", "tuple", "zip"]
noncomputable section
variable {P : Program} {w : World} {K : PySem.W.Frag} {mg : Str → Option Value} {base : Heap}
/-! is_whole -/
abbrev s_is_whole : Stmt := top 1
def N_is_whole : List Str := ["value"]
def p_is_whole : List Str := ["value"]
theorem sc_is_whole : FnScope N_is_whole p_is_whole (C8.fnScope s_is_whole) := C8.fnScope_by (by decide +kernel)
def f_is_whole : Fs :=
    sRet (fO (fAnd (fIsi "int" (fVar 0)) (fNot (fIsi "bool" (fVar 0)))))
def m_is_whole : Fm := runP 1 f_is_whole 0
theorem ok_is_whole {a : Addr} {fd : FuncData} (F : C8.Fun K "is_whole" "is_whole" s_is_whole a fd) (hb : NoMg mg blts) : FnOk P w K mg base CX0 1 a fd p_is_whole (spT K (m_is_whole)) :=
  def_okP F sc_is_whole rfl fun cdv A outer s H E hr =>
    (ss_one (sm_ret (Ev.o (ev_and (ev_isi kit_int (by rfl) (hb "isinstance" (by decide)) (by rfl) (hb "int" (by decide)) boot_int (ev_var 0)) (ev_one (ev_not (ev_isi kit_bool (by rfl) (hb "isinstance" (by decide)) (by rfl) (hb "bool" (by decide)) boot_bool (ev_var 0))))))))
/-! is_count -/
abbrev s_is_count : Stmt := top 2
def N_is_count : List Str := ["value", "least"]
def p_is_count : List Str := ["value", "least"]
theorem sc_is_count : FnScope N_is_count p_is_count (C8.fnScope s_is_count) := C8.fnScope_by (by decide +kernel)
def f_is_count (g_is_whole : Fm) : Fs :=
    sRet (fO (fAnd (fV (fCall g_is_whole (fMv (fVar 0) (fM0)) [])) (fV (fOp2 dGe (fVar 0) (fV (fBl gMax (fQ (fVar 1) (fQ (fC (.int 0)) (fQ0)))))))))
def m_is_count (g_is_whole : Fm) : Fm := runP 2 (f_is_count g_is_whole) 0
theorem ok_is_count {g_is_whole : Fm} {a : Addr} {fd : FuncData} (F : C8.Fun K "is_count" "is_count" s_is_count a fd) (hb : NoMg mg blts) (c_is_whole : Cal P w K mg base 1 "is_whole" g_is_whole []) : FnOk P w K mg base CX0 2 a fd p_is_count (spT K (m_is_count g_is_whole)) :=
  def_okP F sc_is_count rfl fun cdv A outer s H E hr =>
    (ss_one (sm_ret (Ev.o (ev_and (En.v (en_call c_is_whole hr (by decide) (by rfl) (am_v (ev_var 0) am_nil))) (ev_one (En.v (en_cmp (opT_ge (Tl.Room.hu hr)) (ev_var 0) (En.v (en_bl (bl_max rfl) (by rfl) (hb "max" (by decide)) boot_max (ap_cons (ev_var 1) (ap_cons ev_int ap_nil)))) (by with_unfolding_all rfl))))))))
/-! are_sizes -/
abbrev s_are_sizes : Stmt := top 13
def N_are_sizes : List Str := ["value", "size"]
def p_are_sizes : List Str := ["value"]
theorem sc_are_sizes : FnScope N_are_sizes p_are_sizes (C8.fnScope s_are_sizes) := C8.fnScope_by (by decide +kernel)
def f_are_sizes (g_is_count : Fm) : Fs :=
    sRet (fO (fAnd (fIsi "list" (fVar 0)) (fV (fBl gAll (fQ (fV (fLc [1] (fiOf seqOf (fVar 0)) (.nm 1) (fYes) (fV (fCall g_is_count (fMv (fVar 1) (fMv (fC (.int 1)) (fM0))) [])))) (fQ0))))))
def m_are_sizes (g_is_count : Fm) : Fm := runP 1 (f_are_sizes g_is_count) 1
theorem ok_are_sizes {g_is_count : Fm} {a : Addr} {fd : FuncData} (F : C8.Fun K "are_sizes" "are_sizes" s_are_sizes a fd) (hb : NoMg mg blts) (c_is_count : Cal P w K mg base 2 "is_count" g_is_count []) : FnOk P w K mg base CX0 3 a fd p_are_sizes (spT K (m_are_sizes g_is_count)) :=
  def_okP F sc_are_sizes rfl fun cdv A outer s H E hr =>
    (ss_one (sm_ret (Ev.o (ev_and (ev_isi kit_list (by rfl) (hb "isinstance" (by decide)) (by rfl) (hb "list" (by decide)) boot_list (ev_var 0)) (ev_one (En.v (en_bl (bl_all rfl) (by rfl) (hb "all" (by decide)) boot_all (ap_cons (En.v (en_lc (own := [("size", 1)]) rfl sc_are_sizes.nd (ii_any (ev_var 0)) (blkOk_by (by rfl)) (fun s1 H1 C1 cl1 fp1 => (tg_nm sc_are_sizes.nd (by rfl) (by first | exact Or.inl rfl | exact Or.inr rfl))) (fun s1 H1 C1 cl1 fp1 => ptsT_nil) (fun s1 H1 C1 cl1 fp1 => (En.v (en_call c_is_count hr (by decide) (by rfl) (am_v (ev_var 1) (am_v ev_int am_nil))))))) ap_nil))))))))
/-! check_sizes -/
abbrev s_check_sizes : Stmt := top 14
def N_check_sizes : List Str := ["value"]
def p_check_sizes : List Str := ["value"]
theorem sc_check_sizes : FnScope N_check_sizes p_check_sizes (C8.fnScope s_check_sizes) := C8.fnScope_by (by decide +kernel)
def f_check_sizes (g_are_sizes : Fm) : Fs :=
    sIf (fTN (fT (fV (fCall g_are_sizes (fMv (fVar 0) (fM0)) [])))) (sNever) (sNext)
def m_check_sizes (g_are_sizes : Fm) : Fm := runP 1 (f_check_sizes g_are_sizes) 0
theorem ok_check_sizes {g_are_sizes : Fm} {a : Addr} {fd : FuncData} (F : C8.Fun K "check_sizes" "check_sizes" s_check_sizes a fd) (hb : NoMg mg blts) (c_are_sizes : Cal P w K mg base 3 "are_sizes" g_are_sizes []) : FnOk P w K mg base CX0 4 a fd p_check_sizes (spT K (m_check_sizes g_are_sizes)) :=
  def_okP F sc_check_sizes rfl fun cdv A outer s H E hr =>
    (ss_one (sm_if (ts_not (ts_val (En.v (en_call c_are_sizes hr (by decide) (by rfl) (am_v (ev_var 0) am_nil))))) (ss_one sm_never) ss_nil))
/-! are_worths_there -/
abbrev s_are_worths_there : Stmt := top 15
def N_are_worths_there : List Str := ["sizes", "value", "worth"]
def p_are_worths_there : List Str := ["sizes", "value"]
theorem sc_are_worths_there : FnScope N_are_worths_there p_are_worths_there (C8.fnScope s_are_worths_there) := C8.fnScope_by (by decide +kernel)
def f_are_worths_there (g_is_count_d : Fm) : Fs :=
    sRet (fO (fAnd (fIsi "list" (fVar 1)) (fAnd (fV (fOp2 dEq (fV (fBl gLen (fQ (fVar 1) (fQ0)))) (fV (fBl gLen (fQ (fVar 0) (fQ0)))))) (fV (fBl gAll (fQ (fV (fLc [2] (fiOf seqOf (fVar 1)) (.nm 2) (fYes) (fV (fCall g_is_count_d (fMv (fVar 2) (fM0)) [.int 0])))) (fQ0)))))))
def m_are_worths_there (g_is_count_d : Fm) : Fm := runP 2 (f_are_worths_there g_is_count_d) 1
theorem ok_are_worths_there {g_is_count_d : Fm} {a : Addr} {fd : FuncData} (F : C8.Fun K "are_worths_there" "are_worths_there" s_are_worths_there a fd) (hb : NoMg mg blts) (c_is_count_d : Cal P w K mg base 2 "is_count" g_is_count_d [.int 0]) : FnOk P w K mg base CX0 3 a fd p_are_worths_there (spT K (m_are_worths_there g_is_count_d)) :=
  def_okP F sc_are_worths_there rfl fun cdv A outer s H E hr =>
    (ss_one (sm_ret (Ev.o (ev_and (ev_isi kit_list (by rfl) (hb "isinstance" (by decide)) (by rfl) (hb "list" (by decide)) boot_list (ev_var 1)) (ev_and (En.v (en_cmp (opT_eq (Tl.Room.hu hr)) (En.v (en_bl bl_len (by rfl) (hb "len" (by decide)) boot_len (ap_cons (ev_var 1) ap_nil))) (En.v (en_bl bl_len (by rfl) (hb "len" (by decide)) boot_len (ap_cons (ev_var 0) ap_nil))) (by with_unfolding_all rfl))) (ev_one (En.v (en_bl (bl_all rfl) (by rfl) (hb "all" (by decide)) boot_all (ap_cons (En.v (en_lc (own := [("worth", 2)]) rfl sc_are_worths_there.nd (ii_any (ev_var 1)) (blkOk_by (by rfl)) (fun s1 H1 C1 cl1 fp1 => (tg_nm sc_are_worths_there.nd (by rfl) (by first | exact Or.inl rfl | exact Or.inr rfl))) (fun s1 H1 C1 cl1 fp1 => ptsT_nil) (fun s1 H1 C1 cl1 fp1 => (En.v (en_call c_is_count_d hr (by decide) (by rfl) (am_v (ev_var 2) am_nil)))))) ap_nil)))))))))
/-! is_lot_there -/
abbrev s_is_lot_there : Stmt := top 16
def N_is_lot_there : List Str := ["sizes", "value", "thing", "one", "late"]
def p_is_lot_there : List Str := ["sizes", "value"]
theorem sc_is_lot_there : FnScope N_is_lot_there p_is_lot_there (C8.fnScope s_is_lot_there) := C8.fnScope_by (by decide +kernel)
def f_is_lot_there (g_is_count_d : Fm) : Fs :=
    sSeq (sIf (fTO (fTN (fT (fIsi "list" (fVar 1)))) (fTN (fT (fV (fBl gAll (fQ (fV (fLc [2] (fiOf seqOf (fVar 1)) (.nm 2) (fYes) (fAnd (fV (fCall g_is_count_d (fMv (fVar 2) (fM0)) [.int 0])) (fV (fOp2 dLt (fVar 2) (fV (fBl gLen (fQ (fVar 0) (fQ0))))))))) (fQ0))))))) (sRet (fO (fC (.bl false)))) (sNext))
    (sRet (fBl gAll (fQ (fV (fLc [3, 4] (fiA gZip (fA (fVar 1) (fA (fV (fCut (fVar 1) (fPart (fC (.int 1))) (fPart0))) (fA0)))) (.tp [3, 4]) (fYes) (fV (fOp2 dLt (fVar 3) (fVar 4))))) (fQ0))))
def m_is_lot_there (g_is_count_d : Fm) : Fm := runP 2 (f_is_lot_there g_is_count_d) 3
theorem ok_is_lot_there {g_is_count_d : Fm} {a : Addr} {fd : FuncData} (F : C8.Fun K "is_lot_there" "is_lot_there" s_is_lot_there a fd) (hb : NoMg mg blts) (c_is_count_d : Cal P w K mg base 2 "is_count" g_is_count_d [.int 0]) : FnOk P w K mg base CX0 3 a fd p_is_lot_there (spT K (m_is_lot_there g_is_count_d)) :=
  def_okP F sc_is_lot_there rfl fun cdv A outer s H E hr =>
    (ss_cons (sm_if (Tw.t (tw_or (ts_not (ts_val (ev_isi kit_list (by rfl) (hb "isinstance" (by decide)) (by rfl) (hb "list" (by decide)) boot_list (ev_var 1)))) (tw_or1 (ts_not (ts_val (En.v (en_bl (bl_all rfl) (by rfl) (hb "all" (by decide)) boot_all (ap_cons (En.v (en_lc (own := [("thing", 2)]) rfl sc_is_lot_there.nd (ii_any (ev_var 1)) (blkOk_by (by rfl)) (fun s1 H1 C1 cl1 fp1 => (tg_nm sc_is_lot_there.nd (by rfl) (by first | exact Or.inl rfl | exact Or.inr rfl))) (fun s1 H1 C1 cl1 fp1 => ptsT_nil) (fun s1 H1 C1 cl1 fp1 => (ev_and (En.v (en_call c_is_count_d hr (by decide) (by rfl) (am_v (ev_var 2) am_nil))) (ev_one (En.v (en_cmp (opT_lt (Tl.Room.hu hr)) (ev_var 2) (En.v (en_bl bl_len (by rfl) (hb "len" (by decide)) boot_len (ap_cons (ev_var 0) ap_nil))) (by with_unfolding_all rfl)))))))) ap_nil)))))))) (ss_one (sm_ret (Ev.o ev_bl))) ss_nil)
      (ss_one (sm_ret (en_bl (bl_all rfl) (by rfl) (hb "all" (by decide)) boot_all (ap_cons (En.v (en_lc (own := [("one", 3), ("late", 4)]) rfl sc_is_lot_there.nd (ii_zip (by rfl) (hb "zip" (by decide)) (ar_cons (ev_var 1) (ar_cons (En.v (en_cut (ev_var 1) (pt1 ev_int) pt0)) ar_nil))) (blkOk_by (by rfl)) (fun s1 H1 C1 cl1 fp1 => (tg_tp rfl sc_is_lot_there.nd (GNs.cons (by rfl) (by first | exact Or.inl rfl | exact Or.inr rfl) (by first | exact .inl rfl | exact .inr rfl) (GNs.cons (by rfl) (by first | exact Or.inl rfl | exact Or.inr rfl) (by first | exact .inl rfl | exact .inr rfl) GNs.nil)))) (fun s1 H1 C1 cl1 fp1 => ptsT_nil) (fun s1 H1 C1 cl1 fp1 => (En.v (en_cmp (opT_lt (Tl.Room.hu hr)) (ev_var 3) (ev_var 4) (by with_unfolding_all rfl)))))) ap_nil)))))
/-! check_worths -/
abbrev s_check_worths : Stmt := top 17
def N_check_worths : List Str := ["sizes", "value"]
def p_check_worths : List Str := ["sizes", "value"]
theorem sc_check_worths : FnScope N_check_worths p_check_worths (C8.fnScope s_check_worths) := C8.fnScope_by (by decide +kernel)
def f_check_worths (g_are_worths_there : Fm) : Fs :=
    sIf (fTN (fT (fV (fCall g_are_worths_there (fMv (fVar 0) (fMv (fVar 1) (fM0))) [])))) (sNever) (sNext)
def m_check_worths (g_are_worths_there : Fm) : Fm := runP 2 (f_check_worths g_are_worths_there) 0
theorem ok_check_worths {g_are_worths_there : Fm} {a : Addr} {fd : FuncData} (F : C8.Fun K "check_worths" "check_worths" s_check_worths a fd) (hb : NoMg mg blts) (c_are_worths_there : Cal P w K mg base 3 "are_worths_there" g_are_worths_there []) : FnOk P w K mg base CX0 4 a fd p_check_worths (spT K (m_check_worths g_are_worths_there)) :=
  def_okP F sc_check_worths rfl fun cdv A outer s H E hr =>
    (ss_one (sm_if (ts_not (ts_val (En.v (en_call c_are_worths_there hr (by decide) (by rfl) (am_v (ev_var 0) (am_v (ev_var 1) am_nil)))))) (ss_one sm_never) ss_nil))
/-! check_lot -/
abbrev s_check_lot : Stmt := top 18
def N_check_lot : List Str := ["sizes", "value"]
def p_check_lot : List Str := ["sizes", "value"]
theorem sc_check_lot : FnScope N_check_lot p_check_lot (C8.fnScope s_check_lot) := C8.fnScope_by (by decide +kernel)
def f_check_lot (g_is_lot_there : Fm) : Fs :=
    sIf (fTN (fT (fV (fCall g_is_lot_there (fMv (fVar 0) (fMv (fVar 1) (fM0))) [])))) (sNever) (sNext)
def m_check_lot (g_is_lot_there : Fm) : Fm := runP 2 (f_check_lot g_is_lot_there) 0
theorem ok_check_lot {g_is_lot_there : Fm} {a : Addr} {fd : FuncData} (F : C8.Fun K "check_lot" "check_lot" s_check_lot a fd) (hb : NoMg mg blts) (c_is_lot_there : Cal P w K mg base 3 "is_lot_there" g_is_lot_there []) : FnOk P w K mg base CX0 4 a fd p_check_lot (spT K (m_check_lot g_is_lot_there)) :=
  def_okP F sc_check_lot rfl fun cdv A outer s H E hr =>
    (ss_one (sm_if (ts_not (ts_val (En.v (en_call c_is_lot_there hr (by decide) (by rfl) (am_v (ev_var 0) (am_v (ev_var 1) am_nil)))))) (ss_one sm_never) ss_nil))
/-! check_room -/
abbrev s_check_room : Stmt := top 19
def N_check_room : List Str := ["value"]
def p_check_room : List Str := ["value"]
theorem sc_check_room : FnScope N_check_room p_check_room (C8.fnScope s_check_room) := C8.fnScope_by (by decide +kernel)
def f_check_room (g_is_count_d : Fm) : Fs :=
    sIf (fTN (fT (fV (fCall g_is_count_d (fMv (fVar 0) (fM0)) [.int 0])))) (sNever) (sNext)
def m_check_room (g_is_count_d : Fm) : Fm := runP 1 (f_check_room g_is_count_d) 0
theorem ok_check_room {g_is_count_d : Fm} {a : Addr} {fd : FuncData} (F : C8.Fun K "check_room" "check_room" s_check_room a fd) (hb : NoMg mg blts) (c_is_count_d : Cal P w K mg base 2 "is_count" g_is_count_d [.int 0]) : FnOk P w K mg base CX0 3 a fd p_check_room (spT K (m_check_room g_is_count_d)) :=
  def_okP F sc_check_room rfl fun cdv A outer s H E hr =>
    (ss_one (sm_if (ts_not (ts_val (En.v (en_call c_is_count_d hr (by decide) (by rfl) (am_v (ev_var 0) am_nil))))) (ss_one sm_never) ss_nil))
/-! size_there -/
abbrev s_size_there : Stmt := top 20
def N_size_there : List Str := ["sizes", "lot", "thing"]
def p_size_there : List Str := ["sizes", "lot"]
theorem sc_size_there : FnScope N_size_there p_size_there (C8.fnScope s_size_there) := C8.fnScope_by (by decide +kernel)
def f_size_there : Fs :=
    sRet (fBl gSum (fQ (fV (fLc [2] (fiOf seqOf (fVar 1)) (.nm 2) (fYes) (fV (fOp2 dIx (fVar 0) (fVar 2))))) (fQ0)))
def m_size_there : Fm := runP 2 f_size_there 1
theorem ok_size_there {a : Addr} {fd : FuncData} (F : C8.Fun K "size_there" "size_there" s_size_there a fd) (hb : NoMg mg blts) : FnOk P w K mg base CX0 1 a fd p_size_there (spT K (m_size_there)) :=
  def_okP F sc_size_there rfl fun cdv A outer s H E hr =>
    (ss_one (sm_ret (en_bl (bl_sum rfl) (by rfl) (hb "sum" (by decide)) boot_sum (ap_cons (En.v (en_lc (own := [("thing", 2)]) rfl sc_size_there.nd (ii_any (ev_var 1)) (blkOk_by (by rfl)) (fun s1 H1 C1 cl1 fp1 => (tg_nm sc_size_there.nd (by rfl) (by first | exact Or.inl rfl | exact Or.inr rfl))) (fun s1 H1 C1 cl1 fp1 => ptsT_nil) (fun s1 H1 C1 cl1 fp1 => (En.v (en_sub (Tl.Room.hu hr) (ev_var 0) (ev_var 2)))))) ap_nil))))
/-! size_of -/
abbrev s_size_of : Stmt := top 21
def N_size_of : List Str := ["sizes", "lot"]
def p_size_of : List Str := ["sizes", "lot"]
theorem sc_size_of : FnScope N_size_of p_size_of (C8.fnScope s_size_of) := C8.fnScope_by (by decide +kernel)
def f_size_of (g_size_there : Fm) (g_check_lot : Fm) (g_check_sizes : Fm) : Fs :=
    sSeq (sEx (fCall g_check_sizes (fMv (fVar 0) (fM0)) []))
    (sSeq (sEx (fCall g_check_lot (fMv (fVar 0) (fMv (fVar 1) (fM0))) []))
    (sRet (fCall g_size_there (fMv (fVar 0) (fMv (fVar 1) (fM0))) [])))
def m_size_of (g_size_there : Fm) (g_check_lot : Fm) (g_check_sizes : Fm) : Fm := runP 2 (f_size_of g_size_there g_check_lot g_check_sizes) 0
theorem ok_size_of {g_size_there : Fm} {g_check_lot : Fm} {g_check_sizes : Fm} {a : Addr} {fd : FuncData} (F : C8.Fun K "size_of" "size_of" s_size_of a fd) (hb : NoMg mg blts) (c_size_there : Cal P w K mg base 1 "size_there" g_size_there []) (c_check_lot : Cal P w K mg base 4 "check_lot" g_check_lot []) (c_check_sizes : Cal P w K mg base 4 "check_sizes" g_check_sizes []) : FnOk P w K mg base CX0 5 a fd p_size_of (spT K (m_size_of g_size_there g_check_lot g_check_sizes)) :=
  def_okP F sc_size_of rfl fun cdv A outer s H E hr =>
    (ss_cons (sm_ex (en_call c_check_sizes hr (by decide) (by rfl) (am_v (ev_var 0) am_nil)))
      (ss_cons (sm_ex (en_call c_check_lot hr (by decide) (by rfl) (am_v (ev_var 0) (am_v (ev_var 1) am_nil))))
      (ss_one (sm_ret (en_call c_size_there hr (by decide) (by rfl) (am_v (ev_var 0) (am_v (ev_var 1) am_nil)))))))
/-! worth_of -/
abbrev s_worth_of : Stmt := top 22
def N_worth_of : List Str := ["sizes", "worths", "lot", "thing"]
def p_worth_of : List Str := ["sizes", "worths", "lot"]
theorem sc_worth_of : FnScope N_worth_of p_worth_of (C8.fnScope s_worth_of) := C8.fnScope_by (by decide +kernel)
def f_worth_of (g_check_lot : Fm) (g_check_worths : Fm) (g_check_sizes : Fm) : Fs :=
    sSeq (sEx (fCall g_check_sizes (fMv (fVar 0) (fM0)) []))
    (sSeq (sEx (fCall g_check_worths (fMv (fVar 0) (fMv (fVar 1) (fM0))) []))
    (sSeq (sEx (fCall g_check_lot (fMv (fVar 0) (fMv (fVar 2) (fM0))) []))
    (sRet (fBl gSum (fQ (fV (fLc [3] (fiOf seqOf (fVar 2)) (.nm 3) (fYes) (fV (fOp2 dIx (fVar 1) (fVar 3))))) (fQ0))))))
def m_worth_of (g_check_lot : Fm) (g_check_worths : Fm) (g_check_sizes : Fm) : Fm := runP 3 (f_worth_of g_check_lot g_check_worths g_check_sizes) 1
theorem ok_worth_of {g_check_lot : Fm} {g_check_worths : Fm} {g_check_sizes : Fm} {a : Addr} {fd : FuncData} (F : C8.Fun K "worth_of" "worth_of" s_worth_of a fd) (hb : NoMg mg blts) (c_check_lot : Cal P w K mg base 4 "check_lot" g_check_lot []) (c_check_worths : Cal P w K mg base 4 "check_worths" g_check_worths []) (c_check_sizes : Cal P w K mg base 4 "check_sizes" g_check_sizes []) : FnOk P w K mg base CX0 5 a fd p_worth_of (spT K (m_worth_of g_check_lot g_check_worths g_check_sizes)) :=
  def_okP F sc_worth_of rfl fun cdv A outer s H E hr =>
    (ss_cons (sm_ex (en_call c_check_sizes hr (by decide) (by rfl) (am_v (ev_var 0) am_nil)))
      (ss_cons (sm_ex (en_call c_check_worths hr (by decide) (by rfl) (am_v (ev_var 0) (am_v (ev_var 1) am_nil))))
      (ss_cons (sm_ex (en_call c_check_lot hr (by decide) (by rfl) (am_v (ev_var 0) (am_v (ev_var 2) am_nil))))
      (ss_one (sm_ret (en_bl (bl_sum rfl) (by rfl) (hb "sum" (by decide)) boot_sum (ap_cons (En.v (en_lc (own := [("thing", 3)]) rfl sc_worth_of.nd (ii_any (ev_var 2)) (blkOk_by (by rfl)) (fun s1 H1 C1 cl1 fp1 => (tg_nm sc_worth_of.nd (by rfl) (by first | exact Or.inl rfl | exact Or.inr rfl))) (fun s1 H1 C1 cl1 fp1 => ptsT_nil) (fun s1 H1 C1 cl1 fp1 => (En.v (en_sub (Tl.Room.hu hr) (ev_var 1) (ev_var 3)))))) ap_nil)))))))
/-! does_fit -/
abbrev s_does_fit : Stmt := top 23
def N_does_fit : List Str := ["sizes", "room", "lot"]
def p_does_fit : List Str := ["sizes", "room", "lot"]
theorem sc_does_fit : FnScope N_does_fit p_does_fit (C8.fnScope s_does_fit) := C8.fnScope_by (by decide +kernel)
def f_does_fit (g_size_there : Fm) (g_check_lot : Fm) (g_check_room : Fm) (g_check_sizes : Fm) : Fs :=
    sSeq (sEx (fCall g_check_sizes (fMv (fVar 0) (fM0)) []))
    (sSeq (sEx (fCall g_check_room (fMv (fVar 1) (fM0)) []))
    (sSeq (sEx (fCall g_check_lot (fMv (fVar 0) (fMv (fVar 2) (fM0))) []))
    (sRet (fOp2 dLe (fV (fCall g_size_there (fMv (fVar 0) (fMv (fVar 2) (fM0))) [])) (fVar 1)))))
def m_does_fit (g_size_there : Fm) (g_check_lot : Fm) (g_check_room : Fm) (g_check_sizes : Fm) : Fm := runP 3 (f_does_fit g_size_there g_check_lot g_check_room g_check_sizes) 0
theorem ok_does_fit {g_size_there : Fm} {g_check_lot : Fm} {g_check_room : Fm} {g_check_sizes : Fm} {a : Addr} {fd : FuncData} (F : C8.Fun K "does_fit" "does_fit" s_does_fit a fd) (hb : NoMg mg blts) (c_size_there : Cal P w K mg base 1 "size_there" g_size_there []) (c_check_lot : Cal P w K mg base 4 "check_lot" g_check_lot []) (c_check_room : Cal P w K mg base 3 "check_room" g_check_room []) (c_check_sizes : Cal P w K mg base 4 "check_sizes" g_check_sizes []) : FnOk P w K mg base CX0 5 a fd p_does_fit (spT K (m_does_fit g_size_there g_check_lot g_check_room g_check_sizes)) :=
  def_okP F sc_does_fit rfl fun cdv A outer s H E hr =>
    (ss_cons (sm_ex (en_call c_check_sizes hr (by decide) (by rfl) (am_v (ev_var 0) am_nil)))
      (ss_cons (sm_ex (en_call c_check_room hr (by decide) (by rfl) (am_v (ev_var 1) am_nil)))
      (ss_cons (sm_ex (en_call c_check_lot hr (by decide) (by rfl) (am_v (ev_var 0) (am_v (ev_var 2) am_nil))))
      (ss_one (sm_ret (en_cmp (opT_le (Tl.Room.hu hr)) (En.v (en_call c_size_there hr (by decide) (by rfl) (am_v (ev_var 0) (am_v (ev_var 2) am_nil)))) (ev_var 1) (by with_unfolding_all rfl)))))))
/-! count_from -/
abbrev s_count_from : Stmt := top 24
def N_count_from : List Str := ["sizes", "room", "rows", "thing", "asked", "size", "more", "left", "at", "late"]
def p_count_from : List Str := ["sizes", "room"]
theorem sc_count_from : FnScope N_count_from p_count_from (C8.fnScope s_count_from) := C8.fnScope_by (by decide +kernel)
def f_count_from : Fs :=
    sSeq (sOwn 2 (fOp2 dAdd (fV (fLc [3] (fiOf seqOf (fVar 0)) (.nm 3) (fYes) (fV (fDct0 false)))) (fV (fLst (fA (fV (fDct0 false)) (fA0))))))
    (sSeq (sOwn 4 (fLst (fA (fV (fDisp (fDk (fVar 1) (fC (.bl true)) (fD0)))) (fA0))))
    (sSeq (sFor (.nm 5) (fiOf seqOf (fVar 0)) (sSeq (sOwn 6 (fDct0 false))
    (sSeq (sFor (.nm 7) (fiOf seqOf (fV (fOp2 dIx (fVar 4) (fNeg (fC (.int 1)))))) (sSeq (sSto 6 (fVar 7) (fC (.bl true)))
    (sIf (fT (fV (fOp2 dLe (fVar 5) (fVar 7)))) (sSto 6 (fV (fOp2 dSub (fVar 7) (fVar 5))) (fC (.bl true))) (sNext))))
    (sEx (fMut isL 4 gApp (fA (fVar 6) (fA0)))))))
    (sSeq (sSto 2 (fV (fBl gLen (fQ (fVar 0) (fQ0)))) (fV (fDc [7] (fiOf seqOf (fV (fOp2 dIx (fVar 4) (fNeg (fC (.int 1)))))) (.nm 7) (fYes) (fVar 7) (fC (.int 1)))))
    (sSeq (sFor (.nm 8) (fiA gRng3 (fA (fV (fOp2 dSub (fV (fBl gLen (fQ (fVar 0) (fQ0)))) (fC (.int 1)))) (fA (fNeg (fC (.int 1))) (fA (fNeg (fC (.int 1))) (fA0))))) (sSeq (sPar [5, 9] (fP (fO (fV (fOp2 dIx (fVar 0) (fVar 8)))) (fP (fO (fV (fOp2 dIx (fVar 2) (fV (fOp2 dAdd (fVar 8) (fC (.int 1))))))) (fP0))))
    (sSto 2 (fVar 8) (fV (fDc [7] (fiOf seqOf (fV (fOp2 dIx (fVar 4) (fVar 8)))) (.nm 7) (fYes) (fVar 7) (fV (fOp2 dAdd (fV (fOp2 dIx (fVar 9) (fVar 7))) (fV (fIfN (fT (fV (fOp2 dLe (fVar 5) (fVar 7)))) (fOp2 dIx (fVar 9) (fV (fOp2 dSub (fVar 7) (fVar 5)))) (fO (fC (.int 0))))))))))))
    (sRet (fMove 2))))))
def m_count_from : Fm := runP 2 f_count_from 8
theorem ok_count_from {a : Addr} {fd : FuncData} (F : C8.Fun K "count_from" "count_from" s_count_from a fd) (hb : NoMg mg blts) : FnOk P w K mg base CX0 1 a fd p_count_from (spT K (m_count_from)) :=
  def_okP F sc_count_from rfl fun cdv A outer s H E hr =>
    (ss_cons (sm_own sc_count_from.nd (by rfl) (by first | exact Or.inl rfl | exact Or.inr rfl) (en_bin opT_add (En.v (en_lc (own := [("thing", 3)]) rfl sc_count_from.nd (ii_any (ev_var 0)) (blkOk_by (by rfl)) (fun s1 H1 C1 cl1 fp1 => (tg_nm sc_count_from.nd (by rfl) (by first | exact Or.inl rfl | exact Or.inr rfl))) (fun s1 H1 C1 cl1 fp1 => ptsT_nil) (fun s1 H1 C1 cl1 fp1 => (En.v en_dctK)))) (En.v (en_lst (ar_cons (En.v en_dctK) ar_nil)))))
      (ss_cons (sm_own sc_count_from.nd (by rfl) (by first | exact Or.inl rfl | exact Or.inr rfl) (en_lst (ar_cons (En.v (en_disp (pps_cons (ev_var 1) ev_bl pps_nil) (tPs_cons tPs_nil))) ar_nil)))
      (ss_cons (sm_for PassesOwn.never rfl (ii_any (ev_var 0)) (tg_nm sc_count_from.nd (by rfl) (by first | exact Or.inl rfl | exact Or.inr rfl)) (ss_cons (sm_own sc_count_from.nd (by rfl) (by first | exact Or.inl rfl | exact Or.inr rfl) en_dctK)
      (ss_cons (sm_for PassesOwn.never rfl (ii_any (En.v (en_sub (Tl.Room.hu hr) (ev_var 4) (ev_neg ev_int)))) (tg_nm sc_count_from.nd (by rfl) (by first | exact Or.inl rfl | exact Or.inr rfl)) (ss_cons (sm_sto (Tl.Room.hu hr) (i := 6) (by rfl) (by first | exact Or.inl rfl | exact Or.inr (Or.inl rfl) | exact Or.inr (Or.inr rfl)) (ev_var 7) ev_bl)
      (ss_one (sm_if (ts_cmp (opT_le (Tl.Room.hu hr)) (ev_var 5) (ev_var 7) (by with_unfolding_all rfl)) (ss_one (sm_sto (Tl.Room.hu hr) (i := 6) (by rfl) (by first | exact Or.inl rfl | exact Or.inr (Or.inl rfl) | exact Or.inr (Or.inr rfl)) (En.v (en_bin opT_sub (ev_var 7) (ev_var 5))) ev_bl)) ss_nil))))
      (ss_one (sm_ex (en_mut tyL PySem.F.plainAttrs_list PySem.F.slot_list_append PySem.F.type_list_append mtT_append 4 (by rfl) (by first | exact Or.inl rfl | exact Or.inr (Or.inl rfl) | exact Or.inr (Or.inr rfl)) (ar_cons (ev_var 6) ar_nil)))))))
      (ss_cons (sm_sto (Tl.Room.hu hr) (i := 2) (by rfl) (by first | exact Or.inl rfl | exact Or.inr (Or.inl rfl) | exact Or.inr (Or.inr rfl)) (En.v (en_bl bl_len (by rfl) (hb "len" (by decide)) boot_len (ap_cons (ev_var 0) ap_nil))) (En.v (en_dc (own := [("left", 7)]) rfl sc_count_from.nd (ii_any (En.v (en_sub (Tl.Room.hu hr) (ev_var 4) (ev_neg ev_int)))) (blkOk_by (by rfl)) (fun s1 H1 C1 cl1 fp1 => (tg_nm sc_count_from.nd (by rfl) (by first | exact Or.inl rfl | exact Or.inr rfl))) (fun s1 H1 C1 cl1 fp1 => ptsT_nil) (fun s1 H1 C1 cl1 fp1 => (ev_var 7)) (fun s1 H1 C1 cl1 fp1 => ev_int))))
      (ss_cons (sm_for PassesOwn.never rfl (ii_range3 (by rfl) (hb "range" (by decide)) (ar_cons (En.v (en_bin opT_sub (En.v (en_bl bl_len (by rfl) (hb "len" (by decide)) boot_len (ap_cons (ev_var 0) ap_nil))) ev_int)) (ar_cons (ev_neg ev_int) (ar_cons (ev_neg ev_int) ar_nil)))) (tg_nm sc_count_from.nd (by rfl) (by first | exact Or.inl rfl | exact Or.inr rfl)) (ss_cons (sm_par rfl sc_count_from.nd (GNs.cons (by rfl) (by first | exact Or.inl rfl | exact Or.inr rfl) (by first | exact .inl rfl | exact .inr rfl) (GNs.cons (by rfl) (by first | exact Or.inl rfl | exact Or.inr rfl) (by first | exact .inl rfl | exact .inr rfl) GNs.nil)) (pn_cons (Ev.o (En.v (en_sub (Tl.Room.hu hr) (ev_var 0) (ev_var 8)))) (pn_cons (Ev.o (En.v (en_sub (Tl.Room.hu hr) (ev_var 2) (En.v (en_bin opT_add (ev_var 8) ev_int))))) pn_nil)))
      (ss_one (sm_sto (Tl.Room.hu hr) (i := 2) (by rfl) (by first | exact Or.inl rfl | exact Or.inr (Or.inl rfl) | exact Or.inr (Or.inr rfl)) (ev_var 8) (En.v (en_dc (own := [("left", 7)]) rfl sc_count_from.nd (ii_any (En.v (en_sub (Tl.Room.hu hr) (ev_var 4) (ev_var 8)))) (blkOk_by (by rfl)) (fun s1 H1 C1 cl1 fp1 => (tg_nm sc_count_from.nd (by rfl) (by first | exact Or.inl rfl | exact Or.inr rfl))) (fun s1 H1 C1 cl1 fp1 => ptsT_nil) (fun s1 H1 C1 cl1 fp1 => (ev_var 7)) (fun s1 H1 C1 cl1 fp1 => (En.v (en_bin opT_add (En.v (en_sub (Tl.Room.hu hr) (ev_var 9) (ev_var 7))) (En.v (en_if (ts_cmp (opT_le (Tl.Room.hu hr)) (ev_var 5) (ev_var 7) (by with_unfolding_all rfl)) (en_sub (Tl.Room.hu hr) (ev_var 9) (En.v (en_bin opT_sub (ev_var 7) (ev_var 5)))) (Ev.o ev_int))))))))))))
      (ss_one (sm_retMove 2)))))))
/-! fitting_there -/
abbrev s_fitting_there : Stmt := top 25
def N_fitting_there : List Str := ["sizes", "room"]
def p_fitting_there : List Str := ["sizes", "room"]
theorem sc_fitting_there : FnScope N_fitting_there p_fitting_there (C8.fnScope s_fitting_there) := C8.fnScope_by (by decide +kernel)
def f_fitting_there (g_count_from : Fm) : Fs :=
    sRet (fOp2 dIx (fV (fOp2 dIx (fV (fCall g_count_from (fMv (fVar 0) (fMv (fVar 1) (fM0))) [])) (fC (.int 0)))) (fVar 1))
def m_fitting_there (g_count_from : Fm) : Fm := runP 2 (f_fitting_there g_count_from) 0
theorem ok_fitting_there {g_count_from : Fm} {a : Addr} {fd : FuncData} (F : C8.Fun K "fitting_there" "fitting_there" s_fitting_there a fd) (hb : NoMg mg blts) (c_count_from : Cal P w K mg base 1 "count_from" g_count_from []) : FnOk P w K mg base CX0 2 a fd p_fitting_there (spT K (m_fitting_there g_count_from)) :=
  def_okP F sc_fitting_there rfl fun cdv A outer s H E hr =>
    (ss_one (sm_ret (en_sub (Tl.Room.hu hr) (En.v (en_sub (Tl.Room.hu hr) (En.v (en_call c_count_from hr (by decide) (by rfl) (am_v (ev_var 0) (am_v (ev_var 1) am_nil)))) ev_int)) (ev_var 1))))
/-! fitting_count -/
abbrev s_fitting_count : Stmt := top 26
def N_fitting_count : List Str := ["sizes", "room"]
def p_fitting_count : List Str := ["sizes", "room"]
theorem sc_fitting_count : FnScope N_fitting_count p_fitting_count (C8.fnScope s_fitting_count) := C8.fnScope_by (by decide +kernel)
def f_fitting_count (g_fitting_there : Fm) (g_check_room : Fm) (g_check_sizes : Fm) : Fs :=
    sSeq (sEx (fCall g_check_sizes (fMv (fVar 0) (fM0)) []))
    (sSeq (sEx (fCall g_check_room (fMv (fVar 1) (fM0)) []))
    (sRet (fCall g_fitting_there (fMv (fVar 0) (fMv (fVar 1) (fM0))) [])))
def m_fitting_count (g_fitting_there : Fm) (g_check_room : Fm) (g_check_sizes : Fm) : Fm := runP 2 (f_fitting_count g_fitting_there g_check_room g_check_sizes) 0
theorem ok_fitting_count {g_fitting_there : Fm} {g_check_room : Fm} {g_check_sizes : Fm} {a : Addr} {fd : FuncData} (F : C8.Fun K "fitting_count" "fitting_count" s_fitting_count a fd) (hb : NoMg mg blts) (c_fitting_there : Cal P w K mg base 2 "fitting_there" g_fitting_there []) (c_check_room : Cal P w K mg base 3 "check_room" g_check_room []) (c_check_sizes : Cal P w K mg base 4 "check_sizes" g_check_sizes []) : FnOk P w K mg base CX0 5 a fd p_fitting_count (spT K (m_fitting_count g_fitting_there g_check_room g_check_sizes)) :=
  def_okP F sc_fitting_count rfl fun cdv A outer s H E hr =>
    (ss_cons (sm_ex (en_call c_check_sizes hr (by decide) (by rfl) (am_v (ev_var 0) am_nil)))
      (ss_cons (sm_ex (en_call c_check_room hr (by decide) (by rfl) (am_v (ev_var 1) am_nil)))
      (ss_one (sm_ret (en_call c_fitting_there hr (by decide) (by rfl) (am_v (ev_var 0) (am_v (ev_var 1) am_nil)))))))
/-! all_fitting -/
abbrev s_all_fitting : Stmt := top 27
def N_all_fitting : List Str := ["sizes", "room", "found", "todo", "lot", "begun", "left", "thing"]
def p_all_fitting : List Str := ["sizes", "room"]
theorem sc_all_fitting : FnScope N_all_fitting p_all_fitting (C8.fnScope s_all_fitting) := C8.fnScope_by (by decide +kernel)
def f_all_fitting : Fs :=
    sSeq (sPar [2, 3] (fP (fLst (fA0)) (fP (fLst (fA (fV (fTup (fA (fV (fLst (fA0))) (fA (fC (.int 0)) (fA (fVar 1) (fA0)))))) (fA0))) (fP0))))
    (sSeq (sWhile (fT (fV (fOp2 dNe (fVar 3) (fV (fLst (fA0)))))) (sSeq (sUnp [4, 5, 6] (fV (fMut isL 3 gPop fA0)))
    (sSeq (sEx (fMut isL 2 gApp (fA (fVar 4) (fA0))))
    (sFor (.nm 7) (fiA gRng3 (fA (fV (fOp2 dSub (fV (fBl gLen (fQ (fVar 0) (fQ0)))) (fC (.int 1)))) (fA (fV (fOp2 dSub (fVar 5) (fC (.int 1)))) (fA (fNeg (fC (.int 1))) (fA0))))) (sIf (fT (fV (fOp2 dLe (fV (fOp2 dIx (fVar 0) (fVar 7))) (fVar 6)))) (sEx (fMut isL 3 gApp (fA (fV (fTup (fA (fV (fOp2 dAdd (fVar 4) (fV (fLst (fA (fVar 7) (fA0)))))) (fA (fV (fOp2 dAdd (fVar 7) (fC (.int 1)))) (fA (fV (fOp2 dSub (fVar 6) (fV (fOp2 dIx (fVar 0) (fVar 7))))) (fA0)))))) (fA0)))) (sNext))))))
    (sRet (fMove 2)))
def m_all_fitting : Fm := runP 2 f_all_fitting 6
theorem ok_all_fitting {a : Addr} {fd : FuncData} (F : C8.Fun K "all_fitting" "all_fitting" s_all_fitting a fd) (hb : NoMg mg blts) : FnOk P w K mg base CX0 1 a fd p_all_fitting (spT K (m_all_fitting)) :=
  def_okP F sc_all_fitting rfl fun cdv A outer s H E hr =>
    (ss_cons (sm_par2 rfl sc_all_fitting.nd (by rfl) (by rfl) (by decide) (by rfl) (by rfl) (pn_cons (en_lst ar_nil) (pn_cons (en_lst (ar_cons (En.v (en_tup (ar_cons (En.v (en_lst ar_nil)) (ar_cons ev_int (ar_cons (ev_var 1) ar_nil))))) ar_nil)) pn_nil)) (by rfl))
      (ss_cons (sm_while PassesOwn.never (ts_cmp (opT_ne (Tl.Room.hu hr)) (ev_var 3) (En.v (en_lst ar_nil)) (by with_unfolding_all rfl)) (ss_cons (sm_unp rfl sc_all_fitting.nd (GNs.cons (by rfl) (by first | exact Or.inl rfl | exact Or.inr rfl) (by first | exact .inl rfl | exact .inr rfl) (GNs.cons (by rfl) (by first | exact Or.inl rfl | exact Or.inr rfl) (by first | exact .inl rfl | exact .inr rfl) (GNs.cons (by rfl) (by first | exact Or.inl rfl | exact Or.inr rfl) (by first | exact .inl rfl | exact .inr rfl) GNs.nil))) (En.v (en_mut0 tyL PySem.F.plainAttrs_list PySem.F.slot_list_pop PySem.F.type_list_pop mtT_pop 3 (by rfl) (by first | exact Or.inl rfl | exact Or.inr (Or.inl rfl) | exact Or.inr (Or.inr rfl)))))
      (ss_cons (sm_ex (en_mut tyL PySem.F.plainAttrs_list PySem.F.slot_list_append PySem.F.type_list_append mtT_append 2 (by rfl) (by first | exact Or.inl rfl | exact Or.inr (Or.inl rfl) | exact Or.inr (Or.inr rfl)) (ar_cons (ev_var 4) ar_nil)))
      (ss_one (sm_for PassesOwn.never rfl (ii_range3 (by rfl) (hb "range" (by decide)) (ar_cons (En.v (en_bin opT_sub (En.v (en_bl bl_len (by rfl) (hb "len" (by decide)) boot_len (ap_cons (ev_var 0) ap_nil))) ev_int)) (ar_cons (En.v (en_bin opT_sub (ev_var 5) ev_int)) (ar_cons (ev_neg ev_int) ar_nil)))) (tg_nm sc_all_fitting.nd (by rfl) (by first | exact Or.inl rfl | exact Or.inr rfl)) (ss_one (sm_if (ts_cmp (opT_le (Tl.Room.hu hr)) (En.v (en_sub (Tl.Room.hu hr) (ev_var 0) (ev_var 7))) (ev_var 6) (by with_unfolding_all rfl)) (ss_one (sm_ex (en_mut tyL PySem.F.plainAttrs_list PySem.F.slot_list_append PySem.F.type_list_append mtT_append 3 (by rfl) (by first | exact Or.inl rfl | exact Or.inr (Or.inl rfl) | exact Or.inr (Or.inr rfl)) (ar_cons (En.v (en_tup (ar_cons (En.v (en_bin opT_add (ev_var 4) (En.v (en_lst (ar_cons (ev_var 7) ar_nil))))) (ar_cons (En.v (en_bin opT_add (ev_var 7) ev_int)) (ar_cons (En.v (en_bin opT_sub (ev_var 6) (En.v (en_sub (Tl.Room.hu hr) (ev_var 0) (ev_var 7))))) ar_nil))))) ar_nil)))) ss_nil)))))))
      (ss_one (sm_retMove 2))))
/-! check_many -/
abbrev s_check_many : Stmt := top 28
def N_check_many : List Str := ["sizes", "room"]
def p_check_many : List Str := ["sizes", "room"]
theorem sc_check_many : FnScope N_check_many p_check_many (C8.fnScope s_check_many) := C8.fnScope_by (by decide +kernel)
def f_check_many (g_fitting_there : Fm) : Fs :=
    sIf (fT (fV (fOp2 dGt (fV (fCall g_fitting_there (fMv (fVar 0) (fMv (fVar 1) (fM0))) [])) (fC (.int 3000))))) (sNever) (sNext)
def m_check_many (g_fitting_there : Fm) : Fm := runP 2 (f_check_many g_fitting_there) 0
theorem ok_check_many {g_fitting_there : Fm} {a : Addr} {fd : FuncData} (F : C8.Fun K "check_many" "check_many" s_check_many a fd) (hb : NoMg mg blts) (h_MOST : ∃ t, mg "MOST" = some (.int 3000 t)) (c_fitting_there : Cal P w K mg base 2 "fitting_there" g_fitting_there []) : FnOk P w K mg base CX0 3 a fd p_check_many (spT K (m_check_many g_fitting_there)) :=
  Exists.elim h_MOST fun _ h_MOST => def_okP F sc_check_many rfl fun cdv A outer s H E hr =>
    (ss_one (sm_if (ts_cmp (opT_gt (Tl.Room.hu hr)) (En.v (en_call c_fitting_there hr (by decide) (by rfl) (am_v (ev_var 0) (am_v (ev_var 1) am_nil)))) (ev_glob (v := .int 3000) (by rfl) h_MOST ⟨_, rfl⟩ (fun _ => .int _)) (by with_unfolding_all rfl)) (ss_one sm_never) ss_nil))
/-! fitting_lots -/
abbrev s_fitting_lots : Stmt := top 29
def N_fitting_lots : List Str := ["sizes", "room"]
def p_fitting_lots : List Str := ["sizes", "room"]
theorem sc_fitting_lots : FnScope N_fitting_lots p_fitting_lots (C8.fnScope s_fitting_lots) := C8.fnScope_by (by decide +kernel)
def f_fitting_lots (g_all_fitting : Fm) (g_check_many : Fm) (g_check_room : Fm) (g_check_sizes : Fm) : Fs :=
    sSeq (sEx (fCall g_check_sizes (fMv (fVar 0) (fM0)) []))
    (sSeq (sEx (fCall g_check_room (fMv (fVar 1) (fM0)) []))
    (sSeq (sEx (fCall g_check_many (fMv (fVar 0) (fMv (fVar 1) (fM0))) []))
    (sRet (fCall g_all_fitting (fMv (fVar 0) (fMv (fVar 1) (fM0))) []))))
def m_fitting_lots (g_all_fitting : Fm) (g_check_many : Fm) (g_check_room : Fm) (g_check_sizes : Fm) : Fm := runP 2 (f_fitting_lots g_all_fitting g_check_many g_check_room g_check_sizes) 0
theorem ok_fitting_lots {g_all_fitting : Fm} {g_check_many : Fm} {g_check_room : Fm} {g_check_sizes : Fm} {a : Addr} {fd : FuncData} (F : C8.Fun K "fitting_lots" "fitting_lots" s_fitting_lots a fd) (hb : NoMg mg blts) (c_all_fitting : Cal P w K mg base 1 "all_fitting" g_all_fitting []) (c_check_many : Cal P w K mg base 3 "check_many" g_check_many []) (c_check_room : Cal P w K mg base 3 "check_room" g_check_room []) (c_check_sizes : Cal P w K mg base 4 "check_sizes" g_check_sizes []) : FnOk P w K mg base CX0 5 a fd p_fitting_lots (spT K (m_fitting_lots g_all_fitting g_check_many g_check_room g_check_sizes)) :=
  def_okP F sc_fitting_lots rfl fun cdv A outer s H E hr =>
    (ss_cons (sm_ex (en_call c_check_sizes hr (by decide) (by rfl) (am_v (ev_var 0) am_nil)))
      (ss_cons (sm_ex (en_call c_check_room hr (by decide) (by rfl) (am_v (ev_var 1) am_nil)))
      (ss_cons (sm_ex (en_call c_check_many hr (by decide) (by rfl) (am_v (ev_var 0) (am_v (ev_var 1) am_nil))))
      (ss_one (sm_ret (en_call c_all_fitting hr (by decide) (by rfl) (am_v (ev_var 0) (am_v (ev_var 1) am_nil))))))))
/-! check_bag -/
abbrev s_check_bag : Stmt := top 31
def N_check_bag : List Str := ["sizes", "worths", "room"]
def p_check_bag : List Str := ["sizes", "worths", "room"]
theorem sc_check_bag : FnScope N_check_bag p_check_bag (C8.fnScope s_check_bag) := C8.fnScope_by (by decide +kernel)
def f_check_bag (g_check_room : Fm) (g_check_worths : Fm) (g_check_sizes : Fm) : Fs :=
    sSeq (sEx (fCall g_check_sizes (fMv (fVar 0) (fM0)) []))
    (sSeq (sEx (fCall g_check_worths (fMv (fVar 0) (fMv (fVar 1) (fM0))) []))
    (sEx (fCall g_check_room (fMv (fVar 2) (fM0)) [])))
def m_check_bag (g_check_room : Fm) (g_check_worths : Fm) (g_check_sizes : Fm) : Fm := runP 3 (f_check_bag g_check_room g_check_worths g_check_sizes) 0
theorem ok_check_bag {g_check_room : Fm} {g_check_worths : Fm} {g_check_sizes : Fm} {a : Addr} {fd : FuncData} (F : C8.Fun K "check_bag" "check_bag" s_check_bag a fd) (hb : NoMg mg blts) (c_check_room : Cal P w K mg base 3 "check_room" g_check_room []) (c_check_worths : Cal P w K mg base 4 "check_worths" g_check_worths []) (c_check_sizes : Cal P w K mg base 4 "check_sizes" g_check_sizes []) : FnOk P w K mg base CX0 5 a fd p_check_bag (spT K (m_check_bag g_check_room g_check_worths g_check_sizes)) :=
  def_okP F sc_check_bag rfl fun cdv A outer s H E hr =>
    (ss_cons (sm_ex (en_call c_check_sizes hr (by decide) (by rfl) (am_v (ev_var 0) am_nil)))
      (ss_cons (sm_ex (en_call c_check_worths hr (by decide) (by rfl) (am_v (ev_var 0) (am_v (ev_var 1) am_nil))))
      (ss_one (sm_ex (en_call c_check_room hr (by decide) (by rfl) (am_v (ev_var 2) am_nil))))))
/-! asked_rooms -/
abbrev s_asked_rooms : Stmt := top 32
def N_asked_rooms : List Str := ["sizes", "room", "found", "size", "late", "left"]
def p_asked_rooms : List Str := ["sizes", "room"]
theorem sc_asked_rooms : FnScope N_asked_rooms p_asked_rooms (C8.fnScope s_asked_rooms) := C8.fnScope_by (by decide +kernel)
def f_asked_rooms : Fs :=
    sSeq (sOwn 2 (fLst (fA (fV (fDisp (fDk (fVar 1) (fC (.bl true)) (fD0)))) (fA0))))
    (sSeq (sFor (.nm 3) (fiOf seqOf (fVar 0)) (sSeq (sOwn 4 (fDct0 false))
    (sSeq (sFor (.nm 5) (fiOf seqOf (fV (fOp2 dIx (fVar 2) (fNeg (fC (.int 1)))))) (sSeq (sSto 4 (fVar 5) (fC (.bl true)))
    (sIf (fT (fV (fOp2 dLe (fVar 3) (fVar 5)))) (sSto 4 (fV (fOp2 dSub (fVar 5) (fVar 3))) (fC (.bl true))) (sNext))))
    (sEx (fMut isL 2 gApp (fA (fVar 4) (fA0)))))))
    (sRet (fMove 2)))
def m_asked_rooms : Fm := runP 2 f_asked_rooms 4
theorem ok_asked_rooms {a : Addr} {fd : FuncData} (F : C8.Fun K "asked_rooms" "asked_rooms" s_asked_rooms a fd) (hb : NoMg mg blts) : FnOk P w K mg base CX0 1 a fd p_asked_rooms (spT K (m_asked_rooms)) :=
  def_okP F sc_asked_rooms rfl fun cdv A outer s H E hr =>
    (ss_cons (sm_own sc_asked_rooms.nd (by rfl) (by first | exact Or.inl rfl | exact Or.inr rfl) (en_lst (ar_cons (En.v (en_disp (pps_cons (ev_var 1) ev_bl pps_nil) (tPs_cons tPs_nil))) ar_nil)))
      (ss_cons (sm_for PassesOwn.never rfl (ii_any (ev_var 0)) (tg_nm sc_asked_rooms.nd (by rfl) (by first | exact Or.inl rfl | exact Or.inr rfl)) (ss_cons (sm_own sc_asked_rooms.nd (by rfl) (by first | exact Or.inl rfl | exact Or.inr rfl) en_dctK)
      (ss_cons (sm_for PassesOwn.never rfl (ii_any (En.v (en_sub (Tl.Room.hu hr) (ev_var 2) (ev_neg ev_int)))) (tg_nm sc_asked_rooms.nd (by rfl) (by first | exact Or.inl rfl | exact Or.inr rfl)) (ss_cons (sm_sto (Tl.Room.hu hr) (i := 4) (by rfl) (by first | exact Or.inl rfl | exact Or.inr (Or.inl rfl) | exact Or.inr (Or.inr rfl)) (ev_var 5) ev_bl)
      (ss_one (sm_if (ts_cmp (opT_le (Tl.Room.hu hr)) (ev_var 3) (ev_var 5) (by with_unfolding_all rfl)) (ss_one (sm_sto (Tl.Room.hu hr) (i := 4) (by rfl) (by first | exact Or.inl rfl | exact Or.inr (Or.inl rfl) | exact Or.inr (Or.inr rfl)) (En.v (en_bin opT_sub (ev_var 5) (ev_var 3))) ev_bl)) ss_nil))))
      (ss_one (sm_ex (en_mut tyL PySem.F.plainAttrs_list PySem.F.slot_list_append PySem.F.type_list_append mtT_append 2 (by rfl) (by first | exact Or.inl rfl | exact Or.inr (Or.inl rfl) | exact Or.inr (Or.inr rfl)) (ar_cons (ev_var 4) ar_nil)))))))
      (ss_one (sm_retMove 2))))
/-! better -/
abbrev s_better : Stmt := top 33
def N_better : List Str := ["one", "other"]
def p_better : List Str := ["one", "other"]
theorem sc_better : FnScope N_better p_better (C8.fnScope s_better) := C8.fnScope_by (by decide +kernel)
def f_better : Fs :=
    sSeq (sIf (fT (fV (fOp2 dEq (fV (fOp2 dIx (fVar 0) (fC (.int 0)))) (fV (fOp2 dIx (fVar 1) (fC (.int 0))))))) (sRet (fTup (fA (fV (fOp2 dIx (fVar 0) (fC (.int 0)))) (fA (fV (fOp2 dAdd (fV (fOp2 dIx (fVar 0) (fC (.int 1)))) (fV (fOp2 dIx (fVar 1) (fC (.int 1)))))) (fA0))))) (sNext))
    (sRet (fBl gMax2 (fQ (fVar 0) (fQ (fVar 1) (fQ0)))))
def m_better : Fm := runP 2 f_better 0
theorem ok_better {a : Addr} {fd : FuncData} (F : C8.Fun K "better" "better" s_better a fd) (hb : NoMg mg blts) : FnOk P w K mg base CX0 1 a fd p_better (spT K (m_better)) :=
  def_okP F sc_better rfl fun cdv A outer s H E hr =>
    (ss_cons (sm_if (ts_cmp (opT_eq (Tl.Room.hu hr)) (En.v (en_sub (Tl.Room.hu hr) (ev_var 0) ev_int)) (En.v (en_sub (Tl.Room.hu hr) (ev_var 1) ev_int)) (by with_unfolding_all rfl)) (ss_one (sm_ret (en_tup (ar_cons (En.v (en_sub (Tl.Room.hu hr) (ev_var 0) ev_int)) (ar_cons (En.v (en_bin opT_add (En.v (en_sub (Tl.Room.hu hr) (ev_var 0) ev_int)) (En.v (en_sub (Tl.Room.hu hr) (ev_var 1) ev_int)))) ar_nil))))) ss_nil)
      (ss_one (sm_ret (en_bl (bl_max2 rfl (Tl.Room.hu hr)) (by rfl) (hb "max" (by decide)) boot_max (ap_cons (ev_var 0) (ap_cons (ev_var 1) ap_nil))))))
/-! bests_there -/
abbrev s_bests_there : Stmt := top 34
def N_bests_there : List Str := ["sizes", "worths", "room", "asked", "rows", "thing", "left", "at", "late", "worth", "many"]
def p_bests_there : List Str := ["sizes", "worths", "room"]
theorem sc_bests_there : FnScope N_bests_there p_bests_there (C8.fnScope s_bests_there) := C8.fnScope_by (by decide +kernel)
def f_bests_there (g_better : Fm) (g_asked_rooms : Fm) : Fs :=
    sSeq (sSet 3 (fV (fCall g_asked_rooms (fMv (fVar 0) (fMv (fVar 2) (fM0))) [])))
    (sNew 4 (nLc [5] (fiOf seqOf (fVar 3)) (.nm 5) (fDct0 false))
    (rSeq (nSto1 4 (fNeg (fC (.int 1))) (fV (fDc [6] (fiOf seqOf (fV (fOp2 dIx (fVar 3) (fNeg (fC (.int 1)))))) (.nm 6) (fYes) (fVar 6) (fV (fTup (fA (fC (.int 0)) (fA (fC (.int 1)) (fA0))))))))
    (rSeq (nFor 4 (.nm 7) (fiA gRng3 (fA (fV (fOp2 dSub (fV (fBl gLen (fQ (fVar 0) (fQ0)))) (fC (.int 1)))) (fA (fNeg (fC (.int 1))) (fA (fNeg (fC (.int 1))) (fA0))))) (nSeq (nLoad 4 8 (fV (fOp2 dAdd (fVar 7) (fC (.int 1)))))
    (nFor 4 (.nm 6) (fiOf seqOf (fV (fOp2 dIx (fVar 3) (fVar 7)))) (nSeq (nSto2 4 (fVar 7) (fVar 6) (fV (fOp2 dIx (fVar 8) (fVar 6))))
    (nIf (fT (fV (fOp2 dLe (fV (fOp2 dIx (fVar 0) (fVar 7))) (fVar 6)))) 4 (nSeq (nAsg 4 (.tp [9, 10]) (fV (fOp2 dIx (fVar 8) (fV (fOp2 dSub (fVar 6) (fV (fOp2 dIx (fVar 0) (fVar 7))))))))
    (nSto2 4 (fVar 7) (fVar 6) (fV (fCall g_better (fMv (fV (fOp2 dIx (fVar 8) (fVar 6))) (fMv (fV (fTup (fA (fV (fOp2 dAdd (fVar 9) (fV (fOp2 dIx (fVar 1) (fVar 7))))) (fA (fVar 10) (fA0))))) (fM0))) [])))) (nNext))))))
    (rRet))))
def m_bests_there (g_better : Fm) (g_asked_rooms : Fm) : Fm := runP 3 (f_bests_there g_better g_asked_rooms) 8
theorem ok_bests_there {g_better : Fm} {g_asked_rooms : Fm} {a : Addr} {fd : FuncData} (F : C8.Fun K "bests_there" "bests_there" s_bests_there a fd) (hb : NoMg mg blts) (c_better : Cal P w K mg base 1 "better" g_better []) (c_asked_rooms : Cal P w K mg base 1 "asked_rooms" g_asked_rooms []) : FnOk P w K mg base CX0 2 a fd p_bests_there (spT K (m_bests_there g_better g_asked_rooms)) :=
  def_okP F sc_bests_there rfl fun cdv A outer s H E hr =>
    (ss_cons (sm_set sc_bests_there.nd (by rfl) (by first | exact Or.inl rfl | exact Or.inr rfl) (En.v (en_call c_asked_rooms hr (by decide) (by rfl) (am_v (ev_var 0) (am_v (ev_var 2) am_nil)))))
      (ss_new (new_lc (own := [("thing", 5)]) rfl sc_bests_there.nd (by rfl) (by rfl) (by rfl) (ii_any (ev_var 3)) (blkOk_by (by rfl)) (fun s1 H1 C1 cl1 fp1 => (tg_nm sc_bests_there.nd (by rfl) (by first | exact Or.inl rfl | exact Or.inr rfl))) (fun s1 H1 C1 cl1 fp1 => en_dctK))
      (ssR_cons (smN_sto1 (Tl.Room.hu hr) (by rfl) (by first | exact Or.inl rfl | exact Or.inr (Or.inl rfl) | exact Or.inr (Or.inr rfl)) (ev_neg ev_int) (En.v (en_dc (own := [("left", 6)]) rfl sc_bests_there.nd (ii_any (En.v (en_sub (Tl.Room.hu hr) (ev_var 3) (ev_neg ev_int)))) (blkOk_by (by rfl)) (fun s1 H1 C1 cl1 fp1 => (tg_nm sc_bests_there.nd (by rfl) (by first | exact Or.inl rfl | exact Or.inr rfl))) (fun s1 H1 C1 cl1 fp1 => ptsT_nil) (fun s1 H1 C1 cl1 fp1 => (ev_var 6)) (fun s1 H1 C1 cl1 fp1 => (En.v (en_tup (ar_cons ev_int (ar_cons ev_int ar_nil))))))))
      (ssR_cons (smN_for PassesOwn.never rfl (ii_range3 (by rfl) (hb "range" (by decide)) (ar_cons (En.v (en_bin opT_sub (En.v (en_bl bl_len (by rfl) (hb "len" (by decide)) boot_len (ap_cons (ev_var 0) ap_nil))) ev_int)) (ar_cons (ev_neg ev_int) (ar_cons (ev_neg ev_int) ar_nil)))) (tg_nm sc_bests_there.nd (by rfl) (by first | exact Or.inl rfl | exact Or.inr rfl)) (ssN_cons (smN_load sc_bests_there.nd (by rfl) (by first | exact Or.inl rfl | exact Or.inr rfl) (by rfl) (by first | exact Or.inl rfl | exact Or.inr (Or.inl rfl) | exact Or.inr (Or.inr rfl)) (by decide) (En.v (en_bin opT_add (ev_var 7) ev_int)))
      (ssN_one (smN_for PassesOwn.never rfl (ii_any (En.v (en_sub (Tl.Room.hu hr) (ev_var 3) (ev_var 7)))) (tg_nm sc_bests_there.nd (by rfl) (by first | exact Or.inl rfl | exact Or.inr rfl)) (ssN_cons (smN_sto2 (Tl.Room.hu hr) (by rfl) (by first | exact Or.inl rfl | exact Or.inr (Or.inl rfl) | exact Or.inr (Or.inr rfl)) (ev_var 7) (ev_var 6) (En.v (en_sub (Tl.Room.hu hr) (ev_var 8) (ev_var 6))))
      (ssN_one (smN_if (ts_cmp (opT_le (Tl.Room.hu hr)) (En.v (en_sub (Tl.Room.hu hr) (ev_var 0) (ev_var 7))) (ev_var 6) (by with_unfolding_all rfl)) (ssN_cons (smN_asg (ps_asg (En.v (en_sub (Tl.Room.hu hr) (ev_var 8) (En.v (en_bin opT_sub (ev_var 6) (En.v (en_sub (Tl.Room.hu hr) (ev_var 0) (ev_var 7))))))) (tg_tp rfl sc_bests_there.nd (GNs.cons (by rfl) (by first | exact Or.inl rfl | exact Or.inr rfl) (by first | exact .inl rfl | exact .inr rfl) (GNs.cons (by rfl) (by first | exact Or.inl rfl | exact Or.inr rfl) (by first | exact .inl rfl | exact .inr rfl) GNs.nil)))))
      (ssN_one (smN_sto2 (Tl.Room.hu hr) (by rfl) (by first | exact Or.inl rfl | exact Or.inr (Or.inl rfl) | exact Or.inr (Or.inr rfl)) (ev_var 7) (ev_var 6) (En.v (en_call c_better hr (by decide) (by rfl) (am_v (En.v (en_sub (Tl.Room.hu hr) (ev_var 8) (ev_var 6))) (am_v (En.v (en_tup (ar_cons (En.v (en_bin opT_add (ev_var 9) (En.v (en_sub (Tl.Room.hu hr) (ev_var 1) (ev_var 7))))) (ar_cons (ev_var 10) ar_nil)))) am_nil))))))) ssN_nil)))))))
      (ssR_ret (by rfl) (by first | exact Or.inl rfl | exact Or.inr (Or.inl rfl) | exact Or.inr (Or.inr rfl)))))))
/-! worth_there -/
abbrev s_worth_there : Stmt := top 35
def N_worth_there : List Str := ["sizes", "worths", "room"]
def p_worth_there : List Str := ["sizes", "worths", "room"]
theorem sc_worth_there : FnScope N_worth_there p_worth_there (C8.fnScope s_worth_there) := C8.fnScope_by (by decide +kernel)
def f_worth_there (g_bests_there : Fm) : Fs :=
    sRet (fOp2 dIx (fV (fOp2 dIx (fV (fOp2 dIx (fV (fCall g_bests_there (fMv (fVar 0) (fMv (fVar 1) (fMv (fVar 2) (fM0)))) [])) (fC (.int 0)))) (fVar 2))) (fC (.int 0)))
def m_worth_there (g_bests_there : Fm) : Fm := runP 3 (f_worth_there g_bests_there) 0
theorem ok_worth_there {g_bests_there : Fm} {a : Addr} {fd : FuncData} (F : C8.Fun K "worth_there" "worth_there" s_worth_there a fd) (hb : NoMg mg blts) (c_bests_there : Cal P w K mg base 2 "bests_there" g_bests_there []) : FnOk P w K mg base CX0 3 a fd p_worth_there (spT K (m_worth_there g_bests_there)) :=
  def_okP F sc_worth_there rfl fun cdv A outer s H E hr =>
    (ss_one (sm_ret (en_sub (Tl.Room.hu hr) (En.v (en_sub (Tl.Room.hu hr) (En.v (en_sub (Tl.Room.hu hr) (En.v (en_call c_bests_there hr (by decide) (by rfl) (am_v (ev_var 0) (am_v (ev_var 1) (am_v (ev_var 2) am_nil))))) ev_int)) (ev_var 2))) ev_int)))
/-! bag_worth -/
abbrev s_bag_worth : Stmt := top 36
def N_bag_worth : List Str := ["sizes", "worths", "room"]
def p_bag_worth : List Str := ["sizes", "worths", "room"]
theorem sc_bag_worth : FnScope N_bag_worth p_bag_worth (C8.fnScope s_bag_worth) := C8.fnScope_by (by decide +kernel)
def f_bag_worth (g_worth_there : Fm) (g_check_bag : Fm) : Fs :=
    sSeq (sEx (fCall g_check_bag (fMv (fVar 0) (fMv (fVar 1) (fMv (fVar 2) (fM0)))) []))
    (sRet (fCall g_worth_there (fMv (fVar 0) (fMv (fVar 1) (fMv (fVar 2) (fM0)))) []))
def m_bag_worth (g_worth_there : Fm) (g_check_bag : Fm) : Fm := runP 3 (f_bag_worth g_worth_there g_check_bag) 0
theorem ok_bag_worth {g_worth_there : Fm} {g_check_bag : Fm} {a : Addr} {fd : FuncData} (F : C8.Fun K "bag_worth" "bag_worth" s_bag_worth a fd) (hb : NoMg mg blts) (c_worth_there : Cal P w K mg base 3 "worth_there" g_worth_there []) (c_check_bag : Cal P w K mg base 5 "check_bag" g_check_bag []) : FnOk P w K mg base CX0 6 a fd p_bag_worth (spT K (m_bag_worth g_worth_there g_check_bag)) :=
  def_okP F sc_bag_worth rfl fun cdv A outer s H E hr =>
    (ss_cons (sm_ex (en_call c_check_bag hr (by decide) (by rfl) (am_v (ev_var 0) (am_v (ev_var 1) (am_v (ev_var 2) am_nil)))))
      (ss_one (sm_ret (en_call c_worth_there hr (by decide) (by rfl) (am_v (ev_var 0) (am_v (ev_var 1) (am_v (ev_var 2) am_nil)))))))
/-! next_things -/
abbrev s_next_things : Stmt := top 37
def N_next_things : List Str := ["sizes", "worths", "rows", "begun", "left", "need", "found", "thing"]
def p_next_things : List Str := ["sizes", "worths", "rows", "begun", "left"]
theorem sc_next_things : FnScope N_next_things p_next_things (C8.fnScope s_next_things) := C8.fnScope_by (by decide +kernel)
def f_next_things : Fs :=
    sSeq (sPar [5, 6] (fP (fO (fV (fOp2 dIx (fV (fOp2 dIx (fV (fOp2 dIx (fVar 2) (fVar 3))) (fVar 4))) (fC (.int 0))))) (fP (fLst (fA0)) (fP0))))
    (sSeq (sFor (.nm 7) (fiA gRng2 (fA (fVar 3) (fA (fV (fBl gLen (fQ (fVar 0) (fQ0)))) (fA0)))) (sIf (fTA (fT (fV (fOp2 dLe (fV (fOp2 dIx (fVar 0) (fVar 7))) (fVar 4)))) (fT (fV (fOp2 dEq (fV (fOp2 dAdd (fV (fOp2 dIx (fV (fOp2 dIx (fV (fOp2 dIx (fVar 2) (fV (fOp2 dAdd (fVar 7) (fC (.int 1)))))) (fV (fOp2 dSub (fVar 4) (fV (fOp2 dIx (fVar 0) (fVar 7))))))) (fC (.int 0)))) (fV (fOp2 dIx (fVar 1) (fVar 7))))) (fVar 5))))) (sEx (fMut isL 6 gApp (fA (fVar 7) (fA0)))) (sNext)))
    (sRet (fMove 6)))
def m_next_things : Fm := runP 5 f_next_things 3
theorem ok_next_things {a : Addr} {fd : FuncData} (F : C8.Fun K "next_things" "next_things" s_next_things a fd) (hb : NoMg mg blts) : FnOk P w K mg base CX0 1 a fd p_next_things (spT K (m_next_things)) :=
  def_okP F sc_next_things rfl fun cdv A outer s H E hr =>
    (ss_cons (sm_par2 rfl sc_next_things.nd (by rfl) (by rfl) (by decide) (by rfl) (by rfl) (pn_cons (Ev.o (En.v (en_sub (Tl.Room.hu hr) (En.v (en_sub (Tl.Room.hu hr) (En.v (en_sub (Tl.Room.hu hr) (ev_var 2) (ev_var 3))) (ev_var 4))) ev_int))) (pn_cons (en_lst ar_nil) pn_nil)) (by rfl))
      (ss_cons (sm_for PassesOwn.never rfl (ii_range2 (by rfl) (hb "range" (by decide)) (ar_cons (ev_var 3) (ar_cons (En.v (en_bl bl_len (by rfl) (hb "len" (by decide)) boot_len (ap_cons (ev_var 0) ap_nil))) ar_nil))) (tg_nm sc_next_things.nd (by rfl) (by first | exact Or.inl rfl | exact Or.inr rfl)) (ss_one (sm_if (Tw.t (tw_and (ts_cmp (opT_le (Tl.Room.hu hr)) (En.v (en_sub (Tl.Room.hu hr) (ev_var 0) (ev_var 7))) (ev_var 4) (by with_unfolding_all rfl)) (tw_and1 (ts_cmp (opT_eq (Tl.Room.hu hr)) (En.v (en_bin opT_add (En.v (en_sub (Tl.Room.hu hr) (En.v (en_sub (Tl.Room.hu hr) (En.v (en_sub (Tl.Room.hu hr) (ev_var 2) (En.v (en_bin opT_add (ev_var 7) ev_int)))) (En.v (en_bin opT_sub (ev_var 4) (En.v (en_sub (Tl.Room.hu hr) (ev_var 0) (ev_var 7))))))) ev_int)) (En.v (en_sub (Tl.Room.hu hr) (ev_var 1) (ev_var 7))))) (ev_var 5) (by with_unfolding_all rfl))))) (ss_one (sm_ex (en_mut tyL PySem.F.plainAttrs_list PySem.F.slot_list_append PySem.F.type_list_append mtT_append 6 (by rfl) (by first | exact Or.inl rfl | exact Or.inr (Or.inl rfl) | exact Or.inr (Or.inr rfl)) (ar_cons (ev_var 7) ar_nil)))) ss_nil)))
      (ss_one (sm_retMove 6))))
/-! best_lot -/
abbrev s_best_lot : Stmt := top 38
def N_best_lot : List Str := ["sizes", "worths", "room", "rows", "lot", "begun", "left", "thing"]
def p_best_lot : List Str := ["sizes", "worths", "room"]
theorem sc_best_lot : FnScope N_best_lot p_best_lot (C8.fnScope s_best_lot) := C8.fnScope_by (by decide +kernel)
def f_best_lot (g_next_things : Fm) (g_bests_there : Fm) (g_check_bag : Fm) : Fs :=
    sSeq (sEx (fCall g_check_bag (fMv (fVar 0) (fMv (fVar 1) (fMv (fVar 2) (fM0)))) []))
    (sSeq (sSet 3 (fV (fCall g_bests_there (fMv (fVar 0) (fMv (fVar 1) (fMv (fVar 2) (fM0)))) [])))
    (sSeq (sPar [4, 5, 6] (fP (fO (fV (fLst (fA0)))) (fP (fO (fC (.int 0))) (fP (fO (fVar 2)) (fP0)))))
    (sSeq (sWhile (fT (fV (fOp2 dGt (fV (fOp2 dIx (fV (fOp2 dIx (fV (fOp2 dIx (fVar 3) (fVar 5))) (fVar 6))) (fC (.int 0)))) (fC (.int 0))))) (sSeq (sSet 7 (fV (fOp2 dIx (fV (fCall g_next_things (fMv (fVar 0) (fMv (fVar 1) (fMv (fVar 3) (fMv (fVar 5) (fMv (fVar 6) (fM0)))))) [])) (fC (.int 0)))))
    (sPar [4, 5, 6] (fP (fO (fV (fOp2 dAdd (fVar 4) (fV (fLst (fA (fVar 7) (fA0))))))) (fP (fO (fV (fOp2 dAdd (fVar 7) (fC (.int 1))))) (fP (fO (fV (fOp2 dSub (fVar 6) (fV (fOp2 dIx (fVar 0) (fVar 7)))))) (fP0)))))))
    (sRet (fO (fVar 4))))))
def m_best_lot (g_next_things : Fm) (g_bests_there : Fm) (g_check_bag : Fm) : Fm := runP 3 (f_best_lot g_next_things g_bests_there g_check_bag) 5
theorem ok_best_lot {g_next_things : Fm} {g_bests_there : Fm} {g_check_bag : Fm} {a : Addr} {fd : FuncData} (F : C8.Fun K "best_lot" "best_lot" s_best_lot a fd) (hb : NoMg mg blts) (c_next_things : Cal P w K mg base 1 "next_things" g_next_things []) (c_bests_there : Cal P w K mg base 2 "bests_there" g_bests_there []) (c_check_bag : Cal P w K mg base 5 "check_bag" g_check_bag []) : FnOk P w K mg base CX0 6 a fd p_best_lot (spT K (m_best_lot g_next_things g_bests_there g_check_bag)) :=
  def_okP F sc_best_lot rfl fun cdv A outer s H E hr =>
    (ss_cons (sm_ex (en_call c_check_bag hr (by decide) (by rfl) (am_v (ev_var 0) (am_v (ev_var 1) (am_v (ev_var 2) am_nil)))))
      (ss_cons (sm_set sc_best_lot.nd (by rfl) (by first | exact Or.inl rfl | exact Or.inr rfl) (En.v (en_call c_bests_there hr (by decide) (by rfl) (am_v (ev_var 0) (am_v (ev_var 1) (am_v (ev_var 2) am_nil))))))
      (ss_cons (sm_par3 rfl sc_best_lot.nd (by rfl) (by rfl) (by rfl) (by decide) (by decide) (by decide) (by rfl) (by rfl) (by rfl) (pn_cons (Ev.o (En.v (en_lst ar_nil))) (pn_cons (Ev.o ev_int) (pn_cons (Ev.o (ev_var 2)) pn_nil))) (by rfl))
      (ss_cons (sm_while PassesOwn.never (ts_cmp (opT_gt (Tl.Room.hu hr)) (En.v (en_sub (Tl.Room.hu hr) (En.v (en_sub (Tl.Room.hu hr) (En.v (en_sub (Tl.Room.hu hr) (ev_var 3) (ev_var 5))) (ev_var 6))) ev_int)) ev_int (by with_unfolding_all rfl)) (ss_cons (sm_set sc_best_lot.nd (by rfl) (by first | exact Or.inl rfl | exact Or.inr rfl) (En.v (en_sub (Tl.Room.hu hr) (En.v (en_call c_next_things hr (by decide) (by rfl) (am_v (ev_var 0) (am_v (ev_var 1) (am_v (ev_var 3) (am_v (ev_var 5) (am_v (ev_var 6) am_nil))))))) ev_int)))
      (ss_one (sm_par3 rfl sc_best_lot.nd (by rfl) (by rfl) (by rfl) (by decide) (by decide) (by decide) (by rfl) (by rfl) (by rfl) (pn_cons (Ev.o (En.v (en_bin opT_add (ev_var 4) (En.v (en_lst (ar_cons (ev_var 7) ar_nil)))))) (pn_cons (Ev.o (En.v (en_bin opT_add (ev_var 7) ev_int))) (pn_cons (Ev.o (En.v (en_bin opT_sub (ev_var 6) (En.v (en_sub (Tl.Room.hu hr) (ev_var 0) (ev_var 7)))))) pn_nil))) (by rfl)))))
      (ss_one (sm_ret (Ev.o (ev_var 4))))))))
/-! is_split_there -/
abbrev s_is_split_there : Stmt := top 42
def N_is_split_there : List Str := ["sizes", "value"]
def p_is_split_there : List Str := ["sizes", "value"]
theorem sc_is_split_there : FnScope N_is_split_there p_is_split_there (C8.fnScope s_is_split_there) := C8.fnScope_by (by decide +kernel)
def f_is_split_there (g_is_lot_there : Fm) : Fs :=
    sRet (fO (fAnd (fV (fCall g_is_lot_there (fMv (fVar 0) (fMv (fVar 1) (fM0))) [])) (fOr (fV (fOp2 dEq (fV (fCut (fVar 1) (fPart0) (fPart (fC (.int 1))))) (fV (fLst (fA (fC (.int 0)) (fA0)))))) (fV (fOp2 dEq (fVar 0) (fV (fLst (fA0))))))))
def m_is_split_there (g_is_lot_there : Fm) : Fm := runP 2 (f_is_split_there g_is_lot_there) 0
theorem ok_is_split_there {g_is_lot_there : Fm} {a : Addr} {fd : FuncData} (F : C8.Fun K "is_split_there" "is_split_there" s_is_split_there a fd) (hb : NoMg mg blts) (c_is_lot_there : Cal P w K mg base 3 "is_lot_there" g_is_lot_there []) : FnOk P w K mg base CX0 4 a fd p_is_split_there (spT K (m_is_split_there g_is_lot_there)) :=
  def_okP F sc_is_split_there rfl fun cdv A outer s H E hr =>
    (ss_one (sm_ret (Ev.o (ev_and (En.v (en_call c_is_lot_there hr (by decide) (by rfl) (am_v (ev_var 0) (am_v (ev_var 1) am_nil)))) (ev_one (ev_or (En.v (en_cmp (opT_eq (Tl.Room.hu hr)) (En.v (en_cut (ev_var 1) pt0 (pt1 ev_int))) (En.v (en_lst (ar_cons ev_int ar_nil))) (by with_unfolding_all rfl))) (ev_one (En.v (en_cmp (opT_eq (Tl.Room.hu hr)) (ev_var 0) (En.v (en_lst ar_nil)) (by with_unfolding_all rfl))))))))))
/-! check_split -/
abbrev s_check_split : Stmt := top 43
def N_check_split : List Str := ["sizes", "split"]
def p_check_split : List Str := ["sizes", "split"]
theorem sc_check_split : FnScope N_check_split p_check_split (C8.fnScope s_check_split) := C8.fnScope_by (by decide +kernel)
def f_check_split (g_is_split_there : Fm) (g_check_sizes : Fm) : Fs :=
    sSeq (sEx (fCall g_check_sizes (fMv (fVar 0) (fM0)) []))
    (sIf (fTN (fT (fV (fCall g_is_split_there (fMv (fVar 0) (fMv (fVar 1) (fM0))) [])))) (sNever) (sNext))
def m_check_split (g_is_split_there : Fm) (g_check_sizes : Fm) : Fm := runP 2 (f_check_split g_is_split_there g_check_sizes) 0
theorem ok_check_split {g_is_split_there : Fm} {g_check_sizes : Fm} {a : Addr} {fd : FuncData} (F : C8.Fun K "check_split" "check_split" s_check_split a fd) (hb : NoMg mg blts) (c_is_split_there : Cal P w K mg base 4 "is_split_there" g_is_split_there []) (c_check_sizes : Cal P w K mg base 4 "check_sizes" g_check_sizes []) : FnOk P w K mg base CX0 5 a fd p_check_split (spT K (m_check_split g_is_split_there g_check_sizes)) :=
  def_okP F sc_check_split rfl fun cdv A outer s H E hr =>
    (ss_cons (sm_ex (en_call c_check_sizes hr (by decide) (by rfl) (am_v (ev_var 0) am_nil)))
      (ss_one (sm_if (ts_not (ts_val (En.v (en_call c_is_split_there hr (by decide) (by rfl) (am_v (ev_var 0) (am_v (ev_var 1) am_nil)))))) (ss_one sm_never) ss_nil)))
/-! gap_there -/
abbrev s_gap_there : Stmt := top 44
def N_gap_there : List Str := ["sizes", "split"]
def p_gap_there : List Str := ["sizes", "split"]
theorem sc_gap_there : FnScope N_gap_there p_gap_there (C8.fnScope s_gap_there) := C8.fnScope_by (by decide +kernel)
def f_gap_there (g_size_there : Fm) : Fs :=
    sRet (fBl gAbs (fQ (fV (fOp2 dSub (fV (fOp2 dMul (fC (.int 2)) (fV (fCall g_size_there (fMv (fVar 0) (fMv (fVar 1) (fM0))) [])))) (fV (fBl gSum (fQ (fVar 0) (fQ0)))))) (fQ0)))
def m_gap_there (g_size_there : Fm) : Fm := runP 2 (f_gap_there g_size_there) 0
theorem ok_gap_there {g_size_there : Fm} {a : Addr} {fd : FuncData} (F : C8.Fun K "gap_there" "gap_there" s_gap_there a fd) (hb : NoMg mg blts) (c_size_there : Cal P w K mg base 1 "size_there" g_size_there []) : FnOk P w K mg base CX0 2 a fd p_gap_there (spT K (m_gap_there g_size_there)) :=
  def_okP F sc_gap_there rfl fun cdv A outer s H E hr =>
    (ss_one (sm_ret (en_bl bl_abs (by rfl) (hb "abs" (by decide)) boot_abs (ap_cons (En.v (en_bin opT_sub (En.v (en_bin opT_mul ev_int (En.v (en_call c_size_there hr (by decide) (by rfl) (am_v (ev_var 0) (am_v (ev_var 1) am_nil)))))) (En.v (en_bl (bl_sum rfl) (by rfl) (hb "sum" (by decide)) boot_sum (ap_cons (ev_var 0) ap_nil))))) ap_nil))))
/-! gap_of -/
abbrev s_gap_of : Stmt := top 45
def N_gap_of : List Str := ["sizes", "split"]
def p_gap_of : List Str := ["sizes", "split"]
theorem sc_gap_of : FnScope N_gap_of p_gap_of (C8.fnScope s_gap_of) := C8.fnScope_by (by decide +kernel)
def f_gap_of (g_gap_there : Fm) (g_check_split : Fm) : Fs :=
    sSeq (sEx (fCall g_check_split (fMv (fVar 0) (fMv (fVar 1) (fM0))) []))
    (sRet (fCall g_gap_there (fMv (fVar 0) (fMv (fVar 1) (fM0))) []))
def m_gap_of (g_gap_there : Fm) (g_check_split : Fm) : Fm := runP 2 (f_gap_of g_gap_there g_check_split) 0
theorem ok_gap_of {g_gap_there : Fm} {g_check_split : Fm} {a : Addr} {fd : FuncData} (F : C8.Fun K "gap_of" "gap_of" s_gap_of a fd) (hb : NoMg mg blts) (c_gap_there : Cal P w K mg base 2 "gap_there" g_gap_there []) (c_check_split : Cal P w K mg base 5 "check_split" g_check_split []) : FnOk P w K mg base CX0 6 a fd p_gap_of (spT K (m_gap_of g_gap_there g_check_split)) :=
  def_okP F sc_gap_of rfl fun cdv A outer s H E hr =>
    (ss_cons (sm_ex (en_call c_check_split hr (by decide) (by rfl) (am_v (ev_var 0) (am_v (ev_var 1) am_nil))))
      (ss_one (sm_ret (en_call c_gap_there hr (by decide) (by rfl) (am_v (ev_var 0) (am_v (ev_var 1) am_nil))))))
/-! sums_there -/
abbrev s_sums_there : Stmt := top 46
def N_sums_there : List Str := ["sizes", "found", "size", "late", "much", "many"]
def p_sums_there : List Str := ["sizes"]
theorem sc_sums_there : FnScope N_sums_there p_sums_there (C8.fnScope s_sums_there) := C8.fnScope_by (by decide +kernel)
def f_sums_there : Fs :=
    sSeq (sSet 1 (fV (fDisp (fDk (fV (fBl gSum (fQ (fV (fCut (fVar 0) (fPart0) (fPart (fC (.int 1))))) (fQ0)))) (fC (.int 1)) (fD0)))))
    (sSeq (sFor (.nm 2) (fiOf seqOf (fV (fCut (fVar 0) (fPart (fC (.int 1))) (fPart0)))) (sSeq (sOwn 3 (fBl gDict (fQ (fVar 1) (fQ0))))
    (sSeq (sFor (.tp [4, 5]) (fiOf itemsOf (fVar 1)) (sSto 3 (fV (fOp2 dAdd (fVar 4) (fVar 2))) (fV (fOp2 dAdd (fV (fGet2 (fVar 3) (fV (fOp2 dAdd (fVar 4) (fVar 2))) (fC (.int 0)))) (fVar 5)))))
    (sSet 1 (fVar 3)))))
    (sRet (fO (fVar 1))))
def m_sums_there : Fm := runP 1 f_sums_there 5
theorem ok_sums_there {a : Addr} {fd : FuncData} (F : C8.Fun K "sums_there" "sums_there" s_sums_there a fd) (hb : NoMg mg blts) : FnOk P w K mg base CX0 1 a fd p_sums_there (spT K (m_sums_there)) :=
  def_okP F sc_sums_there rfl fun cdv A outer s H E hr =>
    (ss_cons (sm_set sc_sums_there.nd (by rfl) (by first | exact Or.inl rfl | exact Or.inr rfl) (En.v (en_disp (pps_cons (En.v (en_bl (bl_sum rfl) (by rfl) (hb "sum" (by decide)) boot_sum (ap_cons (En.v (en_cut (ev_var 0) pt0 (pt1 ev_int))) ap_nil))) ev_int pps_nil) (tPs_cons tPs_nil))))
      (ss_cons (sm_for PassesOwn.never rfl (ii_any (En.v (en_cut (ev_var 0) (pt1 ev_int) pt0))) (tg_nm sc_sums_there.nd (by rfl) (by first | exact Or.inl rfl | exact Or.inr rfl)) (ss_cons (sm_own sc_sums_there.nd (by rfl) (by first | exact Or.inl rfl | exact Or.inr rfl) (en_ty (bl_dict rfl) (by rfl) (hb "dict" (by decide)) boot_dict (ap_cons (ev_var 1) ap_nil)))
      (ss_cons (sm_for PassesOwn.never rfl (ii_items (ev_var 1)) (tg_tp rfl sc_sums_there.nd (GNs.cons (by rfl) (by first | exact Or.inl rfl | exact Or.inr rfl) (by first | exact .inl rfl | exact .inr rfl) (GNs.cons (by rfl) (by first | exact Or.inl rfl | exact Or.inr rfl) (by first | exact .inl rfl | exact .inr rfl) GNs.nil))) (ss_one (sm_sto (Tl.Room.hu hr) (i := 3) (by rfl) (by first | exact Or.inl rfl | exact Or.inr (Or.inl rfl) | exact Or.inr (Or.inr rfl)) (En.v (en_bin opT_add (ev_var 4) (ev_var 2))) (En.v (en_bin opT_add (En.v (en_get2 (Tl.Room.hu hr) (ev_var 3) (En.v (en_bin opT_add (ev_var 4) (ev_var 2))) ev_int ⟨by rfl, by rfl, by rfl, by rfl⟩)) (ev_var 5))))))
      (ss_one (sm_set sc_sums_there.nd (by rfl) (by first | exact Or.inl rfl | exact Or.inr rfl) (ev_var 3))))))
      (ss_one (sm_ret (Ev.o (ev_var 1))))))
/-! least_there -/
abbrev s_least_there : Stmt := top 48
def N_least_there : List Str := ["sizes", "whole", "much"]
def p_least_there : List Str := ["sizes"]
theorem sc_least_there : FnScope N_least_there p_least_there (C8.fnScope s_least_there) := C8.fnScope_by (by decide +kernel)
def f_least_there (g_sums_there_heaps : Fm) : Fs :=
    sSeq (sSet 1 (fV (fBl gSum (fQ (fVar 0) (fQ0)))))
    (sRet (fBl gMin (fQ (fV (fLc [2] (fiOf seqOf (fV (fCall g_sums_there_heaps (fMv (fVar 0) (fM0)) []))) (.nm 2) (fYes) (fV (fBl gAbs (fQ (fV (fOp2 dSub (fV (fOp2 dMul (fC (.int 2)) (fVar 2))) (fVar 1))) (fQ0)))))) (fQ0))))
def m_least_there (g_sums_there_heaps : Fm) : Fm := runP 1 (f_least_there g_sums_there_heaps) 2
theorem ok_least_there {g_sums_there_heaps : Fm} {a : Addr} {fd : FuncData} (F : C8.Fun K "least_there" "least_there" s_least_there a fd) (hb : NoMg mg blts) (c_sums_there_heaps : Cal P w K mg base 1 "sums_there_heaps" g_sums_there_heaps []) : FnOk P w K mg base CX0 2 a fd p_least_there (spT K (m_least_there g_sums_there_heaps)) :=
  def_okP F sc_least_there rfl fun cdv A outer s H E hr =>
    (ss_cons (sm_set sc_least_there.nd (by rfl) (by first | exact Or.inl rfl | exact Or.inr rfl) (En.v (en_bl (bl_sum rfl) (by rfl) (hb "sum" (by decide)) boot_sum (ap_cons (ev_var 0) ap_nil))))
      (ss_one (sm_ret (en_bl (bl_min rfl) (by rfl) (hb "min" (by decide)) boot_min (ap_cons (En.v (en_lc (own := [("much", 2)]) rfl sc_least_there.nd (ii_any (En.v (en_call c_sums_there_heaps hr (by decide) (by rfl) (am_v (ev_var 0) am_nil)))) (blkOk_by (by rfl)) (fun s1 H1 C1 cl1 fp1 => (tg_nm sc_least_there.nd (by rfl) (by first | exact Or.inl rfl | exact Or.inr rfl))) (fun s1 H1 C1 cl1 fp1 => ptsT_nil) (fun s1 H1 C1 cl1 fp1 => (En.v (en_bl bl_abs (by rfl) (hb "abs" (by decide)) boot_abs (ap_cons (En.v (en_bin opT_sub (En.v (en_bin opT_mul ev_int (ev_var 2))) (ev_var 1))) ap_nil)))))) ap_nil)))))
/-! least_gap -/
abbrev s_least_gap : Stmt := top 49
def N_least_gap : List Str := ["sizes"]
def p_least_gap : List Str := ["sizes"]
theorem sc_least_gap : FnScope N_least_gap p_least_gap (C8.fnScope s_least_gap) := C8.fnScope_by (by decide +kernel)
def f_least_gap (g_least_there : Fm) (g_check_sizes : Fm) : Fs :=
    sSeq (sEx (fCall g_check_sizes (fMv (fVar 0) (fM0)) []))
    (sRet (fCall g_least_there (fMv (fVar 0) (fM0)) []))
def m_least_gap (g_least_there : Fm) (g_check_sizes : Fm) : Fm := runP 1 (f_least_gap g_least_there g_check_sizes) 0
theorem ok_least_gap {g_least_there : Fm} {g_check_sizes : Fm} {a : Addr} {fd : FuncData} (F : C8.Fun K "least_gap" "least_gap" s_least_gap a fd) (hb : NoMg mg blts) (c_least_there : Cal P w K mg base 2 "least_there" g_least_there []) (c_check_sizes : Cal P w K mg base 4 "check_sizes" g_check_sizes []) : FnOk P w K mg base CX0 5 a fd p_least_gap (spT K (m_least_gap g_least_there g_check_sizes)) :=
  def_okP F sc_least_gap rfl fun cdv A outer s H E hr =>
    (ss_cons (sm_ex (en_call c_check_sizes hr (by decide) (by rfl) (am_v (ev_var 0) am_nil)))
      (ss_one (sm_ret (en_call c_least_there hr (by decide) (by rfl) (am_v (ev_var 0) am_nil)))))
/-! gap_counts -/
abbrev s_gap_counts : Stmt := top 50
def N_gap_counts : List Str := ["sizes", "whole", "found", "much", "many", "gap"]
def p_gap_counts : List Str := ["sizes"]
theorem sc_gap_counts : FnScope N_gap_counts p_gap_counts (C8.fnScope s_gap_counts) := C8.fnScope_by (by decide +kernel)
def f_gap_counts (g_sums_there_heaps : Fm) (g_check_sizes : Fm) : Fs :=
    sSeq (sEx (fCall g_check_sizes (fMv (fVar 0) (fM0)) []))
    (sSeq (sPar [1, 2] (fP (fO (fV (fBl gSum (fQ (fVar 0) (fQ0))))) (fP (fDct0 false) (fP0))))
    (sSeq (sFor (.tp [3, 4]) (fiOf itemsOf (fV (fCall g_sums_there_heaps (fMv (fVar 0) (fM0)) []))) (sSeq (sSet 5 (fV (fBl gAbs (fQ (fV (fOp2 dSub (fV (fOp2 dMul (fC (.int 2)) (fVar 3))) (fVar 1))) (fQ0)))))
    (sSto 2 (fVar 5) (fV (fOp2 dAdd (fV (fGet2 (fVar 2) (fVar 5) (fC (.int 0)))) (fVar 4))))))
    (sRet (fDc [5] (fiOf seqOf (fV (fBl gSorted (fQ (fVar 2) (fQ0))))) (.nm 5) (fYes) (fVar 5) (fV (fOp2 dIx (fVar 2) (fVar 5)))))))
def m_gap_counts (g_sums_there_heaps : Fm) (g_check_sizes : Fm) : Fm := runP 1 (f_gap_counts g_sums_there_heaps g_check_sizes) 5
theorem ok_gap_counts {g_sums_there_heaps : Fm} {g_check_sizes : Fm} {a : Addr} {fd : FuncData} (F : C8.Fun K "gap_counts" "gap_counts" s_gap_counts a fd) (hb : NoMg mg blts) (c_sums_there_heaps : Cal P w K mg base 1 "sums_there_heaps" g_sums_there_heaps []) (c_check_sizes : Cal P w K mg base 4 "check_sizes" g_check_sizes []) : FnOk P w K mg base CX0 5 a fd p_gap_counts (spT K (m_gap_counts g_sums_there_heaps g_check_sizes)) :=
  def_okP F sc_gap_counts rfl fun cdv A outer s H E hr =>
    (ss_cons (sm_ex (en_call c_check_sizes hr (by decide) (by rfl) (am_v (ev_var 0) am_nil)))
      (ss_cons (sm_par rfl sc_gap_counts.nd (GNs.cons (by rfl) (by first | exact Or.inl rfl | exact Or.inr rfl) (by first | exact .inl rfl | exact .inr rfl) (GNs.cons (by rfl) (by first | exact Or.inl rfl | exact Or.inr rfl) (by first | exact .inl rfl | exact .inr rfl) GNs.nil)) (pn_cons (Ev.o (En.v (en_bl (bl_sum rfl) (by rfl) (hb "sum" (by decide)) boot_sum (ap_cons (ev_var 0) ap_nil)))) (pn_cons en_dctK pn_nil)))
      (ss_cons (sm_for PassesOwn.never rfl (ii_items (En.v (en_call c_sums_there_heaps hr (by decide) (by rfl) (am_v (ev_var 0) am_nil)))) (tg_tp rfl sc_gap_counts.nd (GNs.cons (by rfl) (by first | exact Or.inl rfl | exact Or.inr rfl) (by first | exact .inl rfl | exact .inr rfl) (GNs.cons (by rfl) (by first | exact Or.inl rfl | exact Or.inr rfl) (by first | exact .inl rfl | exact .inr rfl) GNs.nil))) (ss_cons (sm_set sc_gap_counts.nd (by rfl) (by first | exact Or.inl rfl | exact Or.inr rfl) (En.v (en_bl bl_abs (by rfl) (hb "abs" (by decide)) boot_abs (ap_cons (En.v (en_bin opT_sub (En.v (en_bin opT_mul ev_int (ev_var 3))) (ev_var 1))) ap_nil))))
      (ss_one (sm_sto (Tl.Room.hu hr) (i := 2) (by rfl) (by first | exact Or.inl rfl | exact Or.inr (Or.inl rfl) | exact Or.inr (Or.inr rfl)) (ev_var 5) (En.v (en_bin opT_add (En.v (en_get2 (Tl.Room.hu hr) (ev_var 2) (ev_var 5) ev_int ⟨by rfl, by rfl, by rfl, by rfl⟩)) (ev_var 4)))))))
      (ss_one (sm_ret (en_dc (own := [("gap", 5)]) rfl sc_gap_counts.nd (ii_any (En.v (en_bl (bl_sorted rfl (Tl.Room.hu hr)) (by rfl) (hb "sorted" (by decide)) boot_sorted (ap_cons (ev_var 2) ap_nil)))) (blkOk_by (by rfl)) (fun s1 H1 C1 cl1 fp1 => (tg_nm sc_gap_counts.nd (by rfl) (by first | exact Or.inl rfl | exact Or.inr rfl))) (fun s1 H1 C1 cl1 fp1 => ptsT_nil) (fun s1 H1 C1 cl1 fp1 => (ev_var 5)) (fun s1 H1 C1 cl1 fp1 => (En.v (en_sub (Tl.Room.hu hr) (ev_var 2) (ev_var 5))))))))))
/-! ends_there -/
abbrev s_ends_there : Stmt := top 51
def N_ends_there : List Str := ["sizes", "found", "size", "late", "much"]
def p_ends_there : List Str := ["sizes"]
theorem sc_ends_there : FnScope N_ends_there p_ends_there (C8.fnScope s_ends_there) := C8.fnScope_by (by decide +kernel)
def f_ends_there : Fs :=
    sSeq (sOwn 1 (fLst (fA (fV (fDisp (fDk (fC (.int 0)) (fC (.bl true)) (fD0)))) (fA0))))
    (sSeq (sFor (.nm 2) (fiOf seqOf (fV (fRevL (fVar 0)))) (sSeq (sOwn 3 (fBl gDict (fQ (fV (fOp2 dIx (fVar 1) (fNeg (fC (.int 1))))) (fQ0))))
    (sSeq (sFor (.nm 4) (fiOf seqOf (fV (fOp2 dIx (fVar 1) (fNeg (fC (.int 1)))))) (sSto 3 (fV (fOp2 dAdd (fVar 4) (fVar 2))) (fC (.bl true))))
    (sEx (fMut isL 1 gApp (fA (fVar 3) (fA0)))))))
    (sRet (fRevL (fVar 1))))
def m_ends_there : Fm := runP 1 f_ends_there 4
theorem ok_ends_there {a : Addr} {fd : FuncData} (F : C8.Fun K "ends_there" "ends_there" s_ends_there a fd) (hb : NoMg mg blts) : FnOk P w K mg base CX0 1 a fd p_ends_there (spT K (m_ends_there)) :=
  def_okP F sc_ends_there rfl fun cdv A outer s H E hr =>
    (ss_cons (sm_own sc_ends_there.nd (by rfl) (by first | exact Or.inl rfl | exact Or.inr rfl) (en_lst (ar_cons (En.v (en_disp (pps_cons ev_int ev_bl pps_nil) (tPs_cons tPs_nil))) ar_nil)))
      (ss_cons (sm_for PassesOwn.never rfl (ii_any (En.v (en_revL (ev_var 0)))) (tg_nm sc_ends_there.nd (by rfl) (by first | exact Or.inl rfl | exact Or.inr rfl)) (ss_cons (sm_own sc_ends_there.nd (by rfl) (by first | exact Or.inl rfl | exact Or.inr rfl) (en_ty (bl_dict rfl) (by rfl) (hb "dict" (by decide)) boot_dict (ap_cons (En.v (en_sub (Tl.Room.hu hr) (ev_var 1) (ev_neg ev_int))) ap_nil)))
      (ss_cons (sm_for PassesOwn.never rfl (ii_any (En.v (en_sub (Tl.Room.hu hr) (ev_var 1) (ev_neg ev_int)))) (tg_nm sc_ends_there.nd (by rfl) (by first | exact Or.inl rfl | exact Or.inr rfl)) (ss_one (sm_sto (Tl.Room.hu hr) (i := 3) (by rfl) (by first | exact Or.inl rfl | exact Or.inr (Or.inl rfl) | exact Or.inr (Or.inr rfl)) (En.v (en_bin opT_add (ev_var 4) (ev_var 2))) ev_bl)))
      (ss_one (sm_ex (en_mut tyL PySem.F.plainAttrs_list PySem.F.slot_list_append PySem.F.type_list_append mtT_append 1 (by rfl) (by first | exact Or.inl rfl | exact Or.inr (Or.inl rfl) | exact Or.inr (Or.inr rfl)) (ar_cons (ev_var 3) ar_nil)))))))
      (ss_one (sm_ret (en_revL (ev_var 1))))))
/-! split_with -/
abbrev s_split_with : Stmt := top 52
def N_split_with : List Str := ["sizes", "gap", "whole", "wanted", "much", "ends", "here", "left", "first", "some", "at"]
def p_split_with : List Str := ["sizes", "gap"]
theorem sc_split_with : FnScope N_split_with p_split_with (C8.fnScope s_split_with) := C8.fnScope_by (by decide +kernel)
def f_split_with (g_size_there : Fm) (g_ends_there : Fm) : Fs :=
    sSeq (sSet 2 (fV (fBl gSum (fQ (fVar 0) (fQ0)))))
    (sSeq (sSet 3 (fV (fLc [4] (fiOf seqOf (fV (fLst (fA (fV (fOp2 dSub (fVar 2) (fVar 1))) (fA (fV (fOp2 dAdd (fVar 2) (fVar 1))) (fA0)))))) (.nm 4) (fT (fV (fOp2 dEq (fV (fOp2 dMod (fVar 4) (fC (.int 2)))) (fC (.int 0))))) (fVar 4))))
    (sSeq (sPar [5, 6] (fP (fO (fV (fCall g_ends_there (fMv (fVar 0) (fM0)) []))) (fP (fO (fV (fIfN (fT (fV (fOp2 dNe (fVar 0) (fV (fLst (fA0)))))) (fLst (fA (fC (.int 0)) (fA0))) (fLst (fA0))))) (fP0))))
    (sWhile (fT (fC (.bl true))) (sSeq (sSet 7 (fV (fLc [4] (fiOf seqOf (fVar 3)) (.nm 4) (fYes) (fV (fOp2 dSub (fV (fOp2 dDiv (fVar 4) (fC (.int 2)))) (fV (fCall g_size_there (fMv (fVar 0) (fMv (fVar 6) (fM0))) [])))))))
    (sSeq (sIf (fT (fV (fOp2 dIn (fC (.int 0)) (fVar 7)))) (sRet (fO (fVar 6))) (sNext))
    (sSeq (sSet 8 (fV (fIfN (fT (fV (fOp2 dNe (fVar 6) (fV (fLst (fA0)))))) (fOp2 dAdd (fV (fOp2 dIx (fVar 6) (fNeg (fC (.int 1))))) (fC (.int 1))) (fBl gLen (fQ (fVar 0) (fQ0))))))
    (sSeq (sSet 9 (fV (fLc [10] (fiA gRng2 (fA (fVar 8) (fA (fV (fBl gLen (fQ (fVar 0) (fQ0)))) (fA0)))) (.nm 10) (fT (fV (fBl gAny (fQ (fV (fLc [4] (fiOf seqOf (fVar 7)) (.nm 4) (fYes) (fV (fOp2 dIn (fV (fOp2 dSub (fVar 4) (fV (fOp2 dIx (fVar 0) (fVar 10))))) (fV (fOp2 dIx (fVar 5) (fV (fOp2 dAdd (fVar 10) (fC (.int 1)))))))))) (fQ0))))) (fVar 10))))
    (sSeq (sIf (fT (fV (fOp2 dEq (fVar 9) (fV (fLst (fA0)))))) (sRet (fO (fC .non))) (sNext))
    (sSet 6 (fV (fOp2 dAdd (fVar 6) (fV (fCut (fVar 9) (fPart0) (fPart (fC (.int 1))))))))))))))))
def m_split_with (g_size_there : Fm) (g_ends_there : Fm) : Fm := runP 2 (f_split_with g_size_there g_ends_there) 9
theorem ok_split_with {g_size_there : Fm} {g_ends_there : Fm} {a : Addr} {fd : FuncData} (F : C8.Fun K "split_with" "split_with" s_split_with a fd) (hb : NoMg mg blts) (c_size_there : Cal P w K mg base 1 "size_there" g_size_there []) (c_ends_there : Cal P w K mg base 1 "ends_there" g_ends_there []) : FnOk P w K mg base CX0 2 a fd p_split_with (spT K (m_split_with g_size_there g_ends_there)) :=
  def_okP F sc_split_with rfl fun cdv A outer s H E hr =>
    (ss_cons (sm_set sc_split_with.nd (by rfl) (by first | exact Or.inl rfl | exact Or.inr rfl) (En.v (en_bl (bl_sum rfl) (by rfl) (hb "sum" (by decide)) boot_sum (ap_cons (ev_var 0) ap_nil))))
      (ss_cons (sm_setLc (own := [("much", 4)]) rfl sc_split_with.nd (by rfl) (by rfl) (by rfl) (ii_any (En.v (en_lst (ar_cons (En.v (en_bin opT_sub (ev_var 2) (ev_var 1))) (ar_cons (En.v (en_bin opT_add (ev_var 2) (ev_var 1))) ar_nil))))) (blkOk_by (by rfl)) (fun s1 H1 C1 cl1 fp1 => (tg_nm sc_split_with.nd (by rfl) (by first | exact Or.inl rfl | exact Or.inr rfl))) (fun s1 H1 C1 cl1 fp1 => (ptsT_one (ts_cmp (opT_eq (Tl.Room.hu hr)) (En.v (en_bin opT_mod (ev_var 4) ev_int)) ev_int (by with_unfolding_all rfl)))) (fun s1 H1 C1 cl1 fp1 => (ev_var 4)))
      (ss_cons (sm_par rfl sc_split_with.nd (GNs.cons (by rfl) (by first | exact Or.inl rfl | exact Or.inr rfl) (by first | exact .inl rfl | exact .inr rfl) (GNs.cons (by rfl) (by first | exact Or.inl rfl | exact Or.inr rfl) (by first | exact .inl rfl | exact .inr rfl) GNs.nil)) (pn_cons (Ev.o (En.v (en_call c_ends_there hr (by decide) (by rfl) (am_v (ev_var 0) am_nil)))) (pn_cons (Ev.o (En.v (en_if (ts_cmp (opT_ne (Tl.Room.hu hr)) (ev_var 0) (En.v (en_lst ar_nil)) (by with_unfolding_all rfl)) (en_lst (ar_cons ev_int ar_nil)) (en_lst ar_nil)))) pn_nil)))
      (ss_one (sm_while PassesOwn.never (ts_val ev_bl) (ss_cons (sm_set sc_split_with.nd (by rfl) (by first | exact Or.inl rfl | exact Or.inr rfl) (En.v (en_lc (own := [("much", 4)]) rfl sc_split_with.nd (ii_any (ev_var 3)) (blkOk_by (by rfl)) (fun s1 H1 C1 cl1 fp1 => (tg_nm sc_split_with.nd (by rfl) (by first | exact Or.inl rfl | exact Or.inr rfl))) (fun s1 H1 C1 cl1 fp1 => ptsT_nil) (fun s1 H1 C1 cl1 fp1 => (En.v (en_bin opT_sub (En.v (en_bin opT_div (ev_var 4) ev_int)) (En.v (en_call c_size_there hr (by decide) (by rfl) (am_v (ev_var 0) (am_v (ev_var 6) am_nil))))))))))
      (ss_cons (sm_if (ts_cmp (opT_in (Tl.Room.hu hr)) ev_int (ev_var 7) (by with_unfolding_all rfl)) (ss_one (sm_ret (Ev.o (ev_var 6)))) ss_nil)
      (ss_cons (sm_set sc_split_with.nd (by rfl) (by first | exact Or.inl rfl | exact Or.inr rfl) (En.v (en_if (ts_cmp (opT_ne (Tl.Room.hu hr)) (ev_var 6) (En.v (en_lst ar_nil)) (by with_unfolding_all rfl)) (en_bin opT_add (En.v (en_sub (Tl.Room.hu hr) (ev_var 6) (ev_neg ev_int))) ev_int) (en_bl bl_len (by rfl) (hb "len" (by decide)) boot_len (ap_cons (ev_var 0) ap_nil)))))
      (ss_cons (sm_setLc (own := [("at", 10)]) rfl sc_split_with.nd (by rfl) (by rfl) (by rfl) (ii_range2 (by rfl) (hb "range" (by decide)) (ar_cons (ev_var 8) (ar_cons (En.v (en_bl bl_len (by rfl) (hb "len" (by decide)) boot_len (ap_cons (ev_var 0) ap_nil))) ar_nil))) (blkOk_by (by rfl)) (fun s1 H1 C1 cl1 fp1 => (tg_nm sc_split_with.nd (by rfl) (by first | exact Or.inl rfl | exact Or.inr rfl))) (fun s1 H1 C1 cl1 fp1 => (ptsT_one (ts_val (En.v (en_bl (bl_any rfl) (by rfl) (hb "any" (by decide)) boot_any (ap_cons (En.v (en_lc (own := [("much", 4)]) rfl sc_split_with.nd (ii_any (ev_var 7)) (blkOk_by (by rfl)) (fun s1 H1 C1 cl1 fp1 => (tg_nm sc_split_with.nd (by rfl) (by first | exact Or.inl rfl | exact Or.inr rfl))) (fun s1 H1 C1 cl1 fp1 => ptsT_nil) (fun s1 H1 C1 cl1 fp1 => (En.v (en_cmp (opT_in (Tl.Room.hu hr)) (En.v (en_bin opT_sub (ev_var 4) (En.v (en_sub (Tl.Room.hu hr) (ev_var 0) (ev_var 10))))) (En.v (en_sub (Tl.Room.hu hr) (ev_var 5) (En.v (en_bin opT_add (ev_var 10) ev_int)))) (by with_unfolding_all rfl)))))) ap_nil)))))) (fun s1 H1 C1 cl1 fp1 => (ev_var 10)))
      (ss_cons (sm_if (ts_cmp (opT_eq (Tl.Room.hu hr)) (ev_var 9) (En.v (en_lst ar_nil)) (by with_unfolding_all rfl)) (ss_one (sm_ret (Ev.o ev_non))) ss_nil)
      (ss_one (sm_set sc_split_with.nd (by rfl) (by first | exact Or.inl rfl | exact Or.inr rfl) (En.v (en_bin opT_add (ev_var 6) (En.v (en_cut (ev_var 9) pt0 (pt1 ev_int)))))))))))))))))
/-! first_split -/
abbrev s_first_split : Stmt := top 53
def N_first_split : List Str := ["sizes"]
def p_first_split : List Str := ["sizes"]
theorem sc_first_split : FnScope N_first_split p_first_split (C8.fnScope s_first_split) := C8.fnScope_by (by decide +kernel)
def f_first_split (g_split_with : Fm) (g_least_there : Fm) (g_check_sizes : Fm) : Fs :=
    sSeq (sEx (fCall g_check_sizes (fMv (fVar 0) (fM0)) []))
    (sRet (fCall g_split_with (fMv (fVar 0) (fMv (fV (fCall g_least_there (fMv (fVar 0) (fM0)) [])) (fM0))) []))
def m_first_split (g_split_with : Fm) (g_least_there : Fm) (g_check_sizes : Fm) : Fm := runP 1 (f_first_split g_split_with g_least_there g_check_sizes) 0
theorem ok_first_split {g_split_with : Fm} {g_least_there : Fm} {g_check_sizes : Fm} {a : Addr} {fd : FuncData} (F : C8.Fun K "first_split" "first_split" s_first_split a fd) (hb : NoMg mg blts) (c_split_with : Cal P w K mg base 2 "split_with" g_split_with []) (c_least_there : Cal P w K mg base 2 "least_there" g_least_there []) (c_check_sizes : Cal P w K mg base 4 "check_sizes" g_check_sizes []) : FnOk P w K mg base CX0 5 a fd p_first_split (spT K (m_first_split g_split_with g_least_there g_check_sizes)) :=
  def_okP F sc_first_split rfl fun cdv A outer s H E hr =>
    (ss_cons (sm_ex (en_call c_check_sizes hr (by decide) (by rfl) (am_v (ev_var 0) am_nil)))
      (ss_one (sm_ret (en_call c_split_with hr (by decide) (by rfl) (am_v (ev_var 0) (am_v (En.v (en_call c_least_there hr (by decide) (by rfl) (am_v (ev_var 0) am_nil))) am_nil))))))
/-! counts_there -/
abbrev s_counts_there : Stmt := top 55
def N_counts_there : List Str := ["sizes", "found", "size", "late", "number", "many"]
def p_counts_there : List Str := ["sizes"]
theorem sc_counts_there : FnScope N_counts_there p_counts_there (C8.fnScope s_counts_there) := C8.fnScope_by (by decide +kernel)
def f_counts_there : Fs :=
    sSeq (sSet 1 (fV (fLst (fA (fC (.int 1)) (fA0)))))
    (sSeq (sFor (.nm 2) (fiOf seqOf (fVar 0)) (sSeq (sOwn 3 (fOp2 dAdd (fVar 1) (fV (fOp2 dMul (fV (fLst (fA (fC (.int 0)) (fA0)))) (fVar 2)))))
    (sSeq (sFor (.tp [4, 5]) (fiA gEnum (fA (fVar 1) (fA0))) (sSto 3 (fV (fOp2 dAdd (fVar 4) (fVar 2))) (fV (fOp2 dAdd (fV (fOp2 dIx (fVar 3) (fV (fOp2 dAdd (fVar 4) (fVar 2))))) (fVar 5)))))
    (sSet 1 (fVar 3)))))
    (sRet (fO (fVar 1))))
def m_counts_there : Fm := runP 1 f_counts_there 5
theorem ok_counts_there {a : Addr} {fd : FuncData} (F : C8.Fun K "counts_there" "counts_there" s_counts_there a fd) (hb : NoMg mg blts) : FnOk P w K mg base CX0 1 a fd p_counts_there (spT K (m_counts_there)) :=
  def_okP F sc_counts_there rfl fun cdv A outer s H E hr =>
    (ss_cons (sm_set sc_counts_there.nd (by rfl) (by first | exact Or.inl rfl | exact Or.inr rfl) (En.v (en_lst (ar_cons ev_int ar_nil))))
      (ss_cons (sm_for PassesOwn.never rfl (ii_any (ev_var 0)) (tg_nm sc_counts_there.nd (by rfl) (by first | exact Or.inl rfl | exact Or.inr rfl)) (ss_cons (sm_own sc_counts_there.nd (by rfl) (by first | exact Or.inl rfl | exact Or.inr rfl) (en_bin opT_add (ev_var 1) (En.v (en_bin opT_mul (En.v (en_lst (ar_cons ev_int ar_nil))) (ev_var 2)))))
      (ss_cons (sm_for PassesOwn.never rfl (ii_enum (by rfl) (hb "enumerate" (by decide)) (ar_cons (ev_var 1) ar_nil)) (tg_tp rfl sc_counts_there.nd (GNs.cons (by rfl) (by first | exact Or.inl rfl | exact Or.inr rfl) (by first | exact .inl rfl | exact .inr rfl) (GNs.cons (by rfl) (by first | exact Or.inl rfl | exact Or.inr rfl) (by first | exact .inl rfl | exact .inr rfl) GNs.nil))) (ss_one (sm_sto (Tl.Room.hu hr) (i := 3) (by rfl) (by first | exact Or.inl rfl | exact Or.inr (Or.inl rfl) | exact Or.inr (Or.inr rfl)) (En.v (en_bin opT_add (ev_var 4) (ev_var 2))) (En.v (en_bin opT_add (En.v (en_sub (Tl.Room.hu hr) (ev_var 3) (En.v (en_bin opT_add (ev_var 4) (ev_var 2))))) (ev_var 5))))))
      (ss_one (sm_set sc_counts_there.nd (by rfl) (by first | exact Or.inl rfl | exact Or.inr rfl) (ev_var 3))))))
      (ss_one (sm_ret (Ev.o (ev_var 1))))))
/-! sum_counts -/
abbrev s_sum_counts : Stmt := top 56
def N_sum_counts : List Str := ["sizes"]
def p_sum_counts : List Str := ["sizes"]
theorem sc_sum_counts : FnScope N_sum_counts p_sum_counts (C8.fnScope s_sum_counts) := C8.fnScope_by (by decide +kernel)
def f_sum_counts (g_counts_there : Fm) (g_check_sizes : Fm) : Fs :=
    sSeq (sEx (fCall g_check_sizes (fMv (fVar 0) (fM0)) []))
    (sRet (fCall g_counts_there (fMv (fVar 0) (fM0)) []))
def m_sum_counts (g_counts_there : Fm) (g_check_sizes : Fm) : Fm := runP 1 (f_sum_counts g_counts_there g_check_sizes) 0
theorem ok_sum_counts {g_counts_there : Fm} {g_check_sizes : Fm} {a : Addr} {fd : FuncData} (F : C8.Fun K "sum_counts" "sum_counts" s_sum_counts a fd) (hb : NoMg mg blts) (c_counts_there : Cal P w K mg base 1 "counts_there" g_counts_there []) (c_check_sizes : Cal P w K mg base 4 "check_sizes" g_check_sizes []) : FnOk P w K mg base CX0 5 a fd p_sum_counts (spT K (m_sum_counts g_counts_there g_check_sizes)) :=
  def_okP F sc_sum_counts rfl fun cdv A outer s H E hr =>
    (ss_cons (sm_ex (en_call c_check_sizes hr (by decide) (by rfl) (am_v (ev_var 0) am_nil)))
      (ss_one (sm_ret (en_call c_counts_there hr (by decide) (by rfl) (am_v (ev_var 0) am_nil)))))
/-! tails_there -/
abbrev s_tails_there : Stmt := top 57
def N_tails_there : List Str := ["sizes", "number", "asked", "size", "more", "left", "rows", "at", "late"]
def p_tails_there : List Str := ["sizes", "number"]
theorem sc_tails_there : FnScope N_tails_there p_tails_there (C8.fnScope s_tails_there) := C8.fnScope_by (by decide +kernel)
def f_tails_there : Fs :=
    sSeq (sOwn 2 (fLst (fA (fV (fDisp (fDk (fVar 1) (fC (.bl true)) (fD0)))) (fA0))))
    (sSeq (sFor (.nm 3) (fiOf seqOf (fVar 0)) (sSeq (sOwn 4 (fDct0 false))
    (sSeq (sFor (.nm 5) (fiOf seqOf (fV (fOp2 dIx (fVar 2) (fNeg (fC (.int 1)))))) (sSeq (sSto 4 (fVar 5) (fC (.bl true)))
    (sIf (fT (fV (fOp2 dLe (fVar 3) (fVar 5)))) (sSto 4 (fV (fOp2 dSub (fVar 5) (fVar 3))) (fC (.bl true))) (sNext))))
    (sEx (fMut isL 2 gApp (fA (fVar 4) (fA0)))))))
    (sSeq (sSet 6 (fV (fLst (fA (fV (fDc [5] (fiOf seqOf (fV (fOp2 dIx (fVar 2) (fNeg (fC (.int 1)))))) (.nm 5) (fYes) (fVar 5) (fV (fBl gInt (fQ (fV (fOp2 dEq (fVar 5) (fC (.int 0)))) (fQ0)))))) (fA0)))))
    (sSeq (sFor (.nm 7) (fiA gRng3 (fA (fV (fOp2 dSub (fV (fBl gLen (fQ (fVar 0) (fQ0)))) (fC (.int 1)))) (fA (fNeg (fC (.int 1))) (fA (fNeg (fC (.int 1))) (fA0))))) (sSeq (sPar [3, 8] (fP (fO (fV (fOp2 dIx (fVar 0) (fVar 7)))) (fP (fO (fV (fOp2 dIx (fVar 6) (fC (.int 0))))) (fP0))))
    (sSet 6 (fV (fLst (fA (fV (fDc [5] (fiOf seqOf (fV (fOp2 dIx (fVar 2) (fVar 7)))) (.nm 5) (fYes) (fVar 5) (fV (fOp2 dAdd (fV (fOp2 dIx (fVar 8) (fVar 5))) (fV (fIfN (fT (fV (fOp2 dLe (fVar 3) (fVar 5)))) (fOp2 dIx (fVar 8) (fV (fOp2 dSub (fVar 5) (fVar 3)))) (fO (fC (.int 0))))))))) (fAS (fVar 6) (fA0))))))))
    (sRet (fO (fVar 6))))))
def m_tails_there : Fm := runP 2 f_tails_there 7
theorem ok_tails_there {a : Addr} {fd : FuncData} (F : C8.Fun K "tails_there" "tails_there" s_tails_there a fd) (hb : NoMg mg blts) : FnOk P w K mg base CX0 1 a fd p_tails_there (spT K (m_tails_there)) :=
  def_okP F sc_tails_there rfl fun cdv A outer s H E hr =>
    (ss_cons (sm_own sc_tails_there.nd (by rfl) (by first | exact Or.inl rfl | exact Or.inr rfl) (en_lst (ar_cons (En.v (en_disp (pps_cons (ev_var 1) ev_bl pps_nil) (tPs_cons tPs_nil))) ar_nil)))
      (ss_cons (sm_for PassesOwn.never rfl (ii_any (ev_var 0)) (tg_nm sc_tails_there.nd (by rfl) (by first | exact Or.inl rfl | exact Or.inr rfl)) (ss_cons (sm_own sc_tails_there.nd (by rfl) (by first | exact Or.inl rfl | exact Or.inr rfl) en_dctK)
      (ss_cons (sm_for PassesOwn.never rfl (ii_any (En.v (en_sub (Tl.Room.hu hr) (ev_var 2) (ev_neg ev_int)))) (tg_nm sc_tails_there.nd (by rfl) (by first | exact Or.inl rfl | exact Or.inr rfl)) (ss_cons (sm_sto (Tl.Room.hu hr) (i := 4) (by rfl) (by first | exact Or.inl rfl | exact Or.inr (Or.inl rfl) | exact Or.inr (Or.inr rfl)) (ev_var 5) ev_bl)
      (ss_one (sm_if (ts_cmp (opT_le (Tl.Room.hu hr)) (ev_var 3) (ev_var 5) (by with_unfolding_all rfl)) (ss_one (sm_sto (Tl.Room.hu hr) (i := 4) (by rfl) (by first | exact Or.inl rfl | exact Or.inr (Or.inl rfl) | exact Or.inr (Or.inr rfl)) (En.v (en_bin opT_sub (ev_var 5) (ev_var 3))) ev_bl)) ss_nil))))
      (ss_one (sm_ex (en_mut tyL PySem.F.plainAttrs_list PySem.F.slot_list_append PySem.F.type_list_append mtT_append 2 (by rfl) (by first | exact Or.inl rfl | exact Or.inr (Or.inl rfl) | exact Or.inr (Or.inr rfl)) (ar_cons (ev_var 4) ar_nil)))))))
      (ss_cons (sm_set sc_tails_there.nd (by rfl) (by first | exact Or.inl rfl | exact Or.inr rfl) (En.v (en_lst (ar_cons (En.v (en_dc (own := [("left", 5)]) rfl sc_tails_there.nd (ii_any (En.v (en_sub (Tl.Room.hu hr) (ev_var 2) (ev_neg ev_int)))) (blkOk_by (by rfl)) (fun s1 H1 C1 cl1 fp1 => (tg_nm sc_tails_there.nd (by rfl) (by first | exact Or.inl rfl | exact Or.inr rfl))) (fun s1 H1 C1 cl1 fp1 => ptsT_nil) (fun s1 H1 C1 cl1 fp1 => (ev_var 5)) (fun s1 H1 C1 cl1 fp1 => (En.v (en_ty bl_int (by rfl) (hb "int" (by decide)) boot_int (ap_cons (En.v (en_cmp (opT_eq (Tl.Room.hu hr)) (ev_var 5) ev_int (by with_unfolding_all rfl))) ap_nil)))))) ar_nil))))
      (ss_cons (sm_for PassesOwn.never rfl (ii_range3 (by rfl) (hb "range" (by decide)) (ar_cons (En.v (en_bin opT_sub (En.v (en_bl bl_len (by rfl) (hb "len" (by decide)) boot_len (ap_cons (ev_var 0) ap_nil))) ev_int)) (ar_cons (ev_neg ev_int) (ar_cons (ev_neg ev_int) ar_nil)))) (tg_nm sc_tails_there.nd (by rfl) (by first | exact Or.inl rfl | exact Or.inr rfl)) (ss_cons (sm_par rfl sc_tails_there.nd (GNs.cons (by rfl) (by first | exact Or.inl rfl | exact Or.inr rfl) (by first | exact .inl rfl | exact .inr rfl) (GNs.cons (by rfl) (by first | exact Or.inl rfl | exact Or.inr rfl) (by first | exact .inl rfl | exact .inr rfl) GNs.nil)) (pn_cons (Ev.o (En.v (en_sub (Tl.Room.hu hr) (ev_var 0) (ev_var 7)))) (pn_cons (Ev.o (En.v (en_sub (Tl.Room.hu hr) (ev_var 6) ev_int))) pn_nil)))
      (ss_one (sm_set sc_tails_there.nd (by rfl) (by first | exact Or.inl rfl | exact Or.inr rfl) (En.v (en_lst (ar_cons (En.v (en_dc (own := [("left", 5)]) rfl sc_tails_there.nd (ii_any (En.v (en_sub (Tl.Room.hu hr) (ev_var 2) (ev_var 7)))) (blkOk_by (by rfl)) (fun s1 H1 C1 cl1 fp1 => (tg_nm sc_tails_there.nd (by rfl) (by first | exact Or.inl rfl | exact Or.inr rfl))) (fun s1 H1 C1 cl1 fp1 => ptsT_nil) (fun s1 H1 C1 cl1 fp1 => (ev_var 5)) (fun s1 H1 C1 cl1 fp1 => (En.v (en_bin opT_add (En.v (en_sub (Tl.Room.hu hr) (ev_var 8) (ev_var 5))) (En.v (en_if (ts_cmp (opT_le (Tl.Room.hu hr)) (ev_var 3) (ev_var 5) (by with_unfolding_all rfl)) (en_sub (Tl.Room.hu hr) (ev_var 8) (En.v (en_bin opT_sub (ev_var 5) (ev_var 3)))) (Ev.o ev_int)))))))) (ar_star (ev_var 6) ar_nil))))))))
      (ss_one (sm_ret (Ev.o (ev_var 6))))))))
/-! check_number -/
abbrev s_check_number : Stmt := top 58
def N_check_number : List Str := ["number"]
def p_check_number : List Str := ["number"]
theorem sc_check_number : FnScope N_check_number p_check_number (C8.fnScope s_check_number) := C8.fnScope_by (by decide +kernel)
def f_check_number (g_is_count_d : Fm) : Fs :=
    sIf (fTN (fT (fV (fCall g_is_count_d (fMv (fVar 0) (fM0)) [.int 0])))) (sNever) (sNext)
def m_check_number (g_is_count_d : Fm) : Fm := runP 1 (f_check_number g_is_count_d) 0
theorem ok_check_number {g_is_count_d : Fm} {a : Addr} {fd : FuncData} (F : C8.Fun K "check_number" "check_number" s_check_number a fd) (hb : NoMg mg blts) (c_is_count_d : Cal P w K mg base 2 "is_count" g_is_count_d [.int 0]) : FnOk P w K mg base CX0 3 a fd p_check_number (spT K (m_check_number g_is_count_d)) :=
  def_okP F sc_check_number rfl fun cdv A outer s H E hr =>
    (ss_one (sm_if (ts_not (ts_val (En.v (en_call c_is_count_d hr (by decide) (by rfl) (am_v (ev_var 0) am_nil))))) (ss_one sm_never) ss_nil))
/-! ways_there -/
abbrev s_ways_there : Stmt := top 59
def N_ways_there : List Str := ["sizes", "number"]
def p_ways_there : List Str := ["sizes", "number"]
theorem sc_ways_there : FnScope N_ways_there p_ways_there (C8.fnScope s_ways_there) := C8.fnScope_by (by decide +kernel)
def f_ways_there (g_tails_there : Fm) : Fs :=
    sRet (fIfN (fT (fV (fOp2 dLe (fVar 1) (fV (fBl gSum (fQ (fVar 0) (fQ0))))))) (fOp2 dIx (fV (fOp2 dIx (fV (fCall g_tails_there (fMv (fVar 0) (fMv (fVar 1) (fM0))) [])) (fC (.int 0)))) (fVar 1)) (fO (fC (.int 0))))
def m_ways_there (g_tails_there : Fm) : Fm := runP 2 (f_ways_there g_tails_there) 0
theorem ok_ways_there {g_tails_there : Fm} {a : Addr} {fd : FuncData} (F : C8.Fun K "ways_there" "ways_there" s_ways_there a fd) (hb : NoMg mg blts) (c_tails_there : Cal P w K mg base 1 "tails_there" g_tails_there []) : FnOk P w K mg base CX0 2 a fd p_ways_there (spT K (m_ways_there g_tails_there)) :=
  def_okP F sc_ways_there rfl fun cdv A outer s H E hr =>
    (ss_one (sm_ret (en_if (ts_cmp (opT_le (Tl.Room.hu hr)) (ev_var 1) (En.v (en_bl (bl_sum rfl) (by rfl) (hb "sum" (by decide)) boot_sum (ap_cons (ev_var 0) ap_nil))) (by with_unfolding_all rfl)) (en_sub (Tl.Room.hu hr) (En.v (en_sub (Tl.Room.hu hr) (En.v (en_call c_tails_there hr (by decide) (by rfl) (am_v (ev_var 0) (am_v (ev_var 1) am_nil)))) ev_int)) (ev_var 1)) (Ev.o ev_int))))
/-! ways_to -/
abbrev s_ways_to : Stmt := top 60
def N_ways_to : List Str := ["sizes", "number"]
def p_ways_to : List Str := ["sizes", "number"]
theorem sc_ways_to : FnScope N_ways_to p_ways_to (C8.fnScope s_ways_to) := C8.fnScope_by (by decide +kernel)
def f_ways_to (g_ways_there : Fm) (g_check_number : Fm) (g_check_sizes : Fm) : Fs :=
    sSeq (sEx (fCall g_check_sizes (fMv (fVar 0) (fM0)) []))
    (sSeq (sEx (fCall g_check_number (fMv (fVar 1) (fM0)) []))
    (sRet (fCall g_ways_there (fMv (fVar 0) (fMv (fVar 1) (fM0))) [])))
def m_ways_to (g_ways_there : Fm) (g_check_number : Fm) (g_check_sizes : Fm) : Fm := runP 2 (f_ways_to g_ways_there g_check_number g_check_sizes) 0
theorem ok_ways_to {g_ways_there : Fm} {g_check_number : Fm} {g_check_sizes : Fm} {a : Addr} {fd : FuncData} (F : C8.Fun K "ways_to" "ways_to" s_ways_to a fd) (hb : NoMg mg blts) (c_ways_there : Cal P w K mg base 2 "ways_there" g_ways_there []) (c_check_number : Cal P w K mg base 3 "check_number" g_check_number []) (c_check_sizes : Cal P w K mg base 4 "check_sizes" g_check_sizes []) : FnOk P w K mg base CX0 5 a fd p_ways_to (spT K (m_ways_to g_ways_there g_check_number g_check_sizes)) :=
  def_okP F sc_ways_to rfl fun cdv A outer s H E hr =>
    (ss_cons (sm_ex (en_call c_check_sizes hr (by decide) (by rfl) (am_v (ev_var 0) am_nil)))
      (ss_cons (sm_ex (en_call c_check_number hr (by decide) (by rfl) (am_v (ev_var 1) am_nil)))
      (ss_one (sm_ret (en_call c_ways_there hr (by decide) (by rfl) (am_v (ev_var 0) (am_v (ev_var 1) am_nil)))))))
/-! sums_there2 -/
abbrev s_sums_there2 : Stmt := top 61
def N_sums_there2 : List Str := ["sizes", "found", "size", "number"]
def p_sums_there2 : List Str := ["sizes"]
theorem sc_sums_there2 : FnScope N_sums_there2 p_sums_there2 (C8.fnScope s_sums_there2) := C8.fnScope_by (by decide +kernel)
def f_sums_there2 : Fs :=
    sSeq (sOwn 1 (fDisp (fDk (fC (.int 0)) (fC (.bl true)) (fD0))))
    (sSeq (sFor (.nm 2) (fiOf seqOf (fVar 0)) (sEx (fMut isD 1 gUpd (fA (fV (fDc [3] (fiOf seqOf (fV (fBl gList (fQ (fVar 1) (fQ0))))) (.nm 3) (fYes) (fV (fOp2 dAdd (fVar 3) (fVar 2))) (fC (.bl true)))) (fA0)))))
    (sRet (fBl gSorted (fQ (fVar 1) (fQ0)))))
def m_sums_there2 : Fm := runP 1 f_sums_there2 3
theorem ok_sums_there2 {a : Addr} {fd : FuncData} (F : C8.Fun K "sums_there" "sums_there" s_sums_there2 a fd) (hb : NoMg mg blts) : FnOk P w K mg base CX0 1 a fd p_sums_there2 (spT K (m_sums_there2)) :=
  def_okP F sc_sums_there2 rfl fun cdv A outer s H E hr =>
    (ss_cons (sm_own sc_sums_there2.nd (by rfl) (by first | exact Or.inl rfl | exact Or.inr rfl) (en_disp (pps_cons ev_int ev_bl pps_nil) (tPs_cons tPs_nil)))
      (ss_cons (sm_for PassesOwn.never rfl (ii_any (ev_var 0)) (tg_nm sc_sums_there2.nd (by rfl) (by first | exact Or.inl rfl | exact Or.inr rfl)) (ss_one (sm_ex (en_mut tyD PySem.F.plainAttrs_dict PySem.F.slot_dict_update PySem.F.type_dict_update mtT_update 1 (by rfl) (by first | exact Or.inl rfl | exact Or.inr (Or.inl rfl) | exact Or.inr (Or.inr rfl)) (ar_cons (En.v (en_dc (own := [("number", 3)]) rfl sc_sums_there2.nd (ii_any (En.v (en_ty (bl_list rfl) (by rfl) (hb "list" (by decide)) boot_list (ap_cons (ev_var 1) ap_nil)))) (blkOk_by (by rfl)) (fun s1 H1 C1 cl1 fp1 => (tg_nm sc_sums_there2.nd (by rfl) (by first | exact Or.inl rfl | exact Or.inr rfl))) (fun s1 H1 C1 cl1 fp1 => ptsT_nil) (fun s1 H1 C1 cl1 fp1 => (En.v (en_bin opT_add (ev_var 3) (ev_var 2)))) (fun s1 H1 C1 cl1 fp1 => ev_bl))) ar_nil)))))
      (ss_one (sm_ret (en_bl (bl_sorted rfl (Tl.Room.hu hr)) (by rfl) (hb "sorted" (by decide)) boot_sorted (ap_cons (ev_var 1) ap_nil))))))
/-! sums_of -/
abbrev s_sums_of : Stmt := top 63
def N_sums_of : List Str := ["sizes"]
def p_sums_of : List Str := ["sizes"]
theorem sc_sums_of : FnScope N_sums_of p_sums_of (C8.fnScope s_sums_of) := C8.fnScope_by (by decide +kernel)
def f_sums_of (g_sums_there_sums : Fm) (g_check_sizes : Fm) : Fs :=
    sSeq (sEx (fCall g_check_sizes (fMv (fVar 0) (fM0)) []))
    (sRet (fCall g_sums_there_sums (fMv (fVar 0) (fM0)) []))
def m_sums_of (g_sums_there_sums : Fm) (g_check_sizes : Fm) : Fm := runP 1 (f_sums_of g_sums_there_sums g_check_sizes) 0
theorem ok_sums_of {g_sums_there_sums : Fm} {g_check_sizes : Fm} {a : Addr} {fd : FuncData} (F : C8.Fun K "sums_of" "sums_of" s_sums_of a fd) (hb : NoMg mg blts) (c_sums_there_sums : Cal P w K mg base 1 "sums_there_sums" g_sums_there_sums []) (c_check_sizes : Cal P w K mg base 4 "check_sizes" g_check_sizes []) : FnOk P w K mg base CX0 5 a fd p_sums_of (spT K (m_sums_of g_sums_there_sums g_check_sizes)) :=
  def_okP F sc_sums_of rfl fun cdv A outer s H E hr =>
    (ss_cons (sm_ex (en_call c_check_sizes hr (by decide) (by rfl) (am_v (ev_var 0) am_nil)))
      (ss_one (sm_ret (en_call c_sums_there_sums hr (by decide) (by rfl) (am_v (ev_var 0) am_nil)))))
/-! nearest_below -/
abbrev s_nearest_below : Stmt := top 64
def N_nearest_below : List Str := ["sizes", "room", "number"]
def p_nearest_below : List Str := ["sizes", "room"]
theorem sc_nearest_below : FnScope N_nearest_below p_nearest_below (C8.fnScope s_nearest_below) := C8.fnScope_by (by decide +kernel)
def f_nearest_below (g_sums_there_sums : Fm) (g_check_room : Fm) (g_check_sizes : Fm) : Fs :=
    sSeq (sEx (fCall g_check_sizes (fMv (fVar 0) (fM0)) []))
    (sSeq (sEx (fCall g_check_room (fMv (fVar 1) (fM0)) []))
    (sRet (fBl gMax (fQ (fV (fLc [2] (fiOf seqOf (fV (fCall g_sums_there_sums (fMv (fVar 0) (fM0)) []))) (.nm 2) (fT (fV (fOp2 dLe (fVar 2) (fVar 1)))) (fVar 2))) (fQ0)))))
def m_nearest_below (g_sums_there_sums : Fm) (g_check_room : Fm) (g_check_sizes : Fm) : Fm := runP 2 (f_nearest_below g_sums_there_sums g_check_room g_check_sizes) 1
theorem ok_nearest_below {g_sums_there_sums : Fm} {g_check_room : Fm} {g_check_sizes : Fm} {a : Addr} {fd : FuncData} (F : C8.Fun K "nearest_below" "nearest_below" s_nearest_below a fd) (hb : NoMg mg blts) (c_sums_there_sums : Cal P w K mg base 1 "sums_there_sums" g_sums_there_sums []) (c_check_room : Cal P w K mg base 3 "check_room" g_check_room []) (c_check_sizes : Cal P w K mg base 4 "check_sizes" g_check_sizes []) : FnOk P w K mg base CX0 5 a fd p_nearest_below (spT K (m_nearest_below g_sums_there_sums g_check_room g_check_sizes)) :=
  def_okP F sc_nearest_below rfl fun cdv A outer s H E hr =>
    (ss_cons (sm_ex (en_call c_check_sizes hr (by decide) (by rfl) (am_v (ev_var 0) am_nil)))
      (ss_cons (sm_ex (en_call c_check_room hr (by decide) (by rfl) (am_v (ev_var 1) am_nil)))
      (ss_one (sm_ret (en_bl (bl_max rfl) (by rfl) (hb "max" (by decide)) boot_max (ap_cons (En.v (en_lc (own := [("number", 2)]) rfl sc_nearest_below.nd (ii_any (En.v (en_call c_sums_there_sums hr (by decide) (by rfl) (am_v (ev_var 0) am_nil)))) (blkOk_by (by rfl)) (fun s1 H1 C1 cl1 fp1 => (tg_nm sc_nearest_below.nd (by rfl) (by first | exact Or.inl rfl | exact Or.inr rfl))) (fun s1 H1 C1 cl1 fp1 => (ptsT_one (ts_cmp (opT_le (Tl.Room.hu hr)) (ev_var 2) (ev_var 1) (by with_unfolding_all rfl)))) (fun s1 H1 C1 cl1 fp1 => (ev_var 2)))) ap_nil))))))
/-! _law_purse -/
abbrev s__law_purse : Stmt := top 66
def N__law_purse : List Str := ["script", "at", "seed"]
def p__law_purse : List Str := ["script", "at"]
theorem sc__law_purse : FnScope N__law_purse p__law_purse (C8.fnScope s__law_purse) := C8.fnScope_by (by decide +kernel)
def f__law_purse : Fs :=
    sSeq (sSet 2 (fV (fBl gSum (fQ (fV (fCut (fVar 0) (fPart (fVar 1)) (fPart (fV (fOp2 dAdd (fVar 1) (fC (.int 1))))))) (fQ0)))))
    (sRet (fLst (fA (fV (fOp2 dMod (fV (fBl gInt (fQ (fV (fBl gMax (fQ (fV (fOp2 dSub (fVar 2) (fV (fOp2 dPow (fC (.int 10)) (fC (.int 18)))))) (fQ (fC (.int 0)) (fQ0))))) (fQ0)))) (fV (fOp2 dPow (fV (fOp2 dPow (fC (.int 10)) (fC (.int 60)))) (fC (.int 8)))))) (fA (fV (fOp2 dMod (fV (fBl gInt (fQ (fVar 2) (fQ0)))) (fC (.int 2147483629)))) (fA (fC (.int 0)) (fA (fVar 1) (fA0)))))))
def m__law_purse : Fm := runP 2 f__law_purse 1
theorem ok__law_purse {a : Addr} {fd : FuncData} (F : C8.Fun K "_law_purse" "_law_purse" s__law_purse a fd) (hb : NoMg mg blts) : FnOk P w K mg base CX0 1 a fd p__law_purse (spT K (m__law_purse)) :=
  def_okP F sc__law_purse rfl fun cdv A outer s H E hr =>
    (ss_cons (sm_set sc__law_purse.nd (by rfl) (by first | exact Or.inl rfl | exact Or.inr rfl) (En.v (en_bl (bl_sum rfl) (by rfl) (hb "sum" (by decide)) boot_sum (ap_cons (En.v (en_cut (ev_var 0) (pt1 (ev_var 1)) (pt1 (En.v (en_bin opT_add (ev_var 1) ev_int))))) ap_nil))))
      (ss_one (sm_ret (en_lst (ar_cons (En.v (en_bin opT_mod (En.v (en_ty bl_int (by rfl) (hb "int" (by decide)) boot_int (ap_cons (En.v (en_bl (bl_max rfl) (by rfl) (hb "max" (by decide)) boot_max (ap_cons (En.v (en_bin opT_sub (ev_var 2) (En.v (en_bin opT_pow ev_int ev_int)))) (ap_cons ev_int ap_nil)))) ap_nil))) (En.v (en_bin opT_pow (En.v (en_bin opT_pow ev_int ev_int)) ev_int)))) (ar_cons (En.v (en_bin opT_mod (En.v (en_ty bl_int (by rfl) (hb "int" (by decide)) boot_int (ap_cons (ev_var 2) ap_nil))) ev_int)) (ar_cons ev_int (ar_cons (ev_var 1) ar_nil))))))))
/-! _law_mixed -/
abbrev s__law_mixed : Stmt := top 67
def N__law_mixed : List Str := ["seed", "spin", "at", "mixed"]
def p__law_mixed : List Str := ["seed", "spin", "at"]
theorem sc__law_mixed : FnScope N__law_mixed p__law_mixed (C8.fnScope s__law_mixed) := C8.fnScope_by (by decide +kernel)
def f__law_mixed : Fs :=
    sSeq (sSet 3 (fV (fOp2 dAdd (fV (fOp2 dMul (fVar 0) (fC (.int 69069)))) (fV (fOp2 dMul (fV (fOp2 dMul (fC (.int 104729)) (fVar 1))) (fVar 1))))))
    (sSeq (sSet 3 (fV (fOp2 dMod (fV (fBl gInt (fQ (fV (fOp2 dAdd (fV (fOp2 dAdd (fVar 3) (fV (fOp2 dMul (fC (.int 7919)) (fVar 2))))) (fVar 1))) (fQ0)))) (fC (.int 2147483647)))))
    (sSeq (sSet 3 (fV (fOp2 dMod (fV (fBl gInt (fQ (fV (fOp2 dAdd (fV (fOp2 dMul (fVar 3) (fVar 3))) (fC (.int 40503)))) (fQ0)))) (fC (.int 2147483629)))))
    (sRet (fOp2 dMod (fV (fBl gInt (fQ (fV (fOp2 dMul (fVar 3) (fC (.int 48271)))) (fQ0)))) (fC (.int 2147483587))))))
def m__law_mixed : Fm := runP 3 f__law_mixed 1
theorem ok__law_mixed {a : Addr} {fd : FuncData} (F : C8.Fun K "_law_mixed" "_law_mixed" s__law_mixed a fd) (hb : NoMg mg blts) : FnOk P w K mg base CX0 1 a fd p__law_mixed (spT K (m__law_mixed)) :=
  def_okP F sc__law_mixed rfl fun cdv A outer s H E hr =>
    (ss_cons (sm_set sc__law_mixed.nd (by rfl) (by first | exact Or.inl rfl | exact Or.inr rfl) (En.v (en_bin opT_add (En.v (en_bin opT_mul (ev_var 0) ev_int)) (En.v (en_bin opT_mul (En.v (en_bin opT_mul ev_int (ev_var 1))) (ev_var 1))))))
      (ss_cons (sm_set sc__law_mixed.nd (by rfl) (by first | exact Or.inl rfl | exact Or.inr rfl) (En.v (en_bin opT_mod (En.v (en_ty bl_int (by rfl) (hb "int" (by decide)) boot_int (ap_cons (En.v (en_bin opT_add (En.v (en_bin opT_add (ev_var 3) (En.v (en_bin opT_mul ev_int (ev_var 2))))) (ev_var 1))) ap_nil))) ev_int)))
      (ss_cons (sm_set sc__law_mixed.nd (by rfl) (by first | exact Or.inl rfl | exact Or.inr rfl) (En.v (en_bin opT_mod (En.v (en_ty bl_int (by rfl) (hb "int" (by decide)) boot_int (ap_cons (En.v (en_bin opT_add (En.v (en_bin opT_mul (ev_var 3) (ev_var 3))) ev_int)) ap_nil))) ev_int)))
      (ss_one (sm_ret (en_bin opT_mod (En.v (en_ty bl_int (by rfl) (hb "int" (by decide)) boot_int (ap_cons (En.v (en_bin opT_mul (ev_var 3) ev_int)) ap_nil))) ev_int))))))
/-! _law_draw -/
abbrev s__law_draw : Stmt := top 68
def N__law_draw : List Str := ["purse", "many", "drawn", "found", "piece"]
def p__law_draw : List Str := ["purse", "many"]
theorem sc__law_draw : FnScope N__law_draw p__law_draw (C8.fnScope s__law_draw) := C8.fnScope_by (by decide +kernel)
def f__law_draw (g__law_mixed : Fm) : Fs :=
    sSeq (sIf (fT (fV (fOp2 dGt (fV (fOp2 dIx (fVar 0) (fC (.int 0)))) (fC (.int 0))))) (sSeq (sSet 2 (fV (fOp2 dMod (fV (fBl gInt (fQ (fV (fOp2 dIx (fVar 0) (fC (.int 0)))) (fQ0)))) (fVar 1))))
    (sSeq (sSto 0 (fC (.int 0)) (fV (fOp2 dDiv (fV (fOp2 dIx (fVar 0) (fC (.int 0)))) (fVar 1))))
    (sRet (fO (fVar 2))))) (sNext))
    (sSeq (sSet 3 (fC (.int 0)))
    (sSeq (sFor (.nm 4) (fiA gRng1 (fA (fV (fOp2 dAdd (fC (.int 1)) (fV (fOp2 dDiv (fV (fBits (fVar 1))) (fC (.int 28)))))) (fA0))) (sSeq (sSto 0 (fC (.int 2)) (fV (fOp2 dAdd (fV (fOp2 dIx (fVar 0) (fC (.int 2)))) (fC (.int 1)))))
    (sSet 3 (fV (fOp2 dAdd (fV (fOp2 dMul (fVar 3) (fC (.int 2147483587)))) (fV (fCall g__law_mixed (fMv (fV (fOp2 dIx (fVar 0) (fC (.int 1)))) (fMv (fV (fOp2 dIx (fVar 0) (fC (.int 2)))) (fMv (fV (fOp2 dIx (fVar 0) (fC (.int 3)))) (fM0)))) [])))))))
    (sRet (fOp2 dMod (fV (fBl gInt (fQ (fVar 3) (fQ0)))) (fVar 1)))))
def m__law_draw (g__law_mixed : Fm) : Fm := runP 2 (f__law_draw g__law_mixed) 3
theorem ok__law_draw {g__law_mixed : Fm} {a : Addr} {fd : FuncData} (F : C8.Fun K "_law_draw" "_law_draw" s__law_draw a fd) (hb : NoMg mg blts) (c__law_mixed : Cal P w K mg base 1 "_law_mixed" g__law_mixed []) : FnOk P w K mg base CX0 2 a fd p__law_draw (spT K (m__law_draw g__law_mixed)) :=
  def_okP F sc__law_draw rfl fun cdv A outer s H E hr =>
    (ss_cons (sm_if (ts_cmp (opT_gt (Tl.Room.hu hr)) (En.v (en_sub (Tl.Room.hu hr) (ev_var 0) ev_int)) ev_int (by with_unfolding_all rfl)) (ss_cons (sm_set sc__law_draw.nd (by rfl) (by first | exact Or.inl rfl | exact Or.inr rfl) (En.v (en_bin opT_mod (En.v (en_ty bl_int (by rfl) (hb "int" (by decide)) boot_int (ap_cons (En.v (en_sub (Tl.Room.hu hr) (ev_var 0) ev_int)) ap_nil))) (ev_var 1))))
      (ss_cons (sm_sto (Tl.Room.hu hr) (i := 0) (by rfl) (by first | exact Or.inl rfl | exact Or.inr (Or.inl rfl) | exact Or.inr (Or.inr rfl)) ev_int (En.v (en_bin opT_div (En.v (en_sub (Tl.Room.hu hr) (ev_var 0) ev_int)) (ev_var 1))))
      (ss_one (sm_ret (Ev.o (ev_var 2)))))) ss_nil)
      (ss_cons (sm_set sc__law_draw.nd (by rfl) (by first | exact Or.inl rfl | exact Or.inr rfl) ev_int)
      (ss_cons (sm_for PassesOwn.never rfl (ii_range1 (by rfl) (hb "range" (by decide)) (ar_cons (En.v (en_bin opT_add ev_int (En.v (en_bin opT_div (En.v (en_bits (ev_var 1))) ev_int)))) ar_nil)) (tg_nm sc__law_draw.nd (by rfl) (by first | exact Or.inl rfl | exact Or.inr rfl)) (ss_cons (sm_sto (Tl.Room.hu hr) (i := 0) (by rfl) (by first | exact Or.inl rfl | exact Or.inr (Or.inl rfl) | exact Or.inr (Or.inr rfl)) ev_int (En.v (en_bin opT_add (En.v (en_sub (Tl.Room.hu hr) (ev_var 0) ev_int)) ev_int)))
      (ss_one (sm_set sc__law_draw.nd (by rfl) (by first | exact Or.inl rfl | exact Or.inr rfl) (En.v (en_bin opT_add (En.v (en_bin opT_mul (ev_var 3) ev_int)) (En.v (en_call c__law_mixed hr (by decide) (by rfl) (am_v (En.v (en_sub (Tl.Room.hu hr) (ev_var 0) ev_int)) (am_v (En.v (en_sub (Tl.Room.hu hr) (ev_var 0) ev_int)) (am_v (En.v (en_sub (Tl.Room.hu hr) (ev_var 0) ev_int)) am_nil)))))))))))
      (ss_one (sm_ret (en_bin opT_mod (En.v (en_ty bl_int (by rfl) (hb "int" (by decide)) boot_int (ap_cons (ev_var 3) ap_nil))) (ev_var 1)))))))
/-! _law_same -/
abbrev s__law_same : Stmt := top 69
def N__law_same : List Str := ["told", "due", "is_like", "key", "one", "other"]
def p__law_same : List Str := ["told", "due"]
theorem sc__law_same : FnScope N__law_same p__law_same (C8.fnScope s__law_same) := C8.fnScope_by (by decide +kernel)
def f__law_same (g__law_same : Fm) : Fs :=
    sSeq (sIf (fT (fIsi "dict" (fVar 1))) (sSeq (sSet 2 (fAnd (fIsi "dict" (fVar 0)) (fAnd (fV (fOp2 dEq (fV (fBl gLen (fQ (fVar 0) (fQ0)))) (fV (fBl gLen (fQ (fVar 1) (fQ0)))))) (fV (fBl gAll (fQ (fV (fLc [3] (fiOf seqOf (fVar 1)) (.nm 3) (fYes) (fV (fOp2 dIn (fVar 3) (fVar 0))))) (fQ0)))))))
    (sRet (fO (fAnd (fVar 2) (fV (fBl gAll (fQ (fV (fLc [3] (fiOf seqOf (fVar 1)) (.nm 3) (fYes) (fV (fCall g__law_same (fMv (fV (fOp2 dIx (fVar 0) (fVar 3))) (fMv (fV (fOp2 dIx (fVar 1) (fVar 3))) (fM0))) [])))) (fQ0)))))))) (sNext))
    (sSeq (sIf (fT (fIsi2 ["list", "tuple"] (fVar 1))) (sSeq (sSet 2 (fAnd (fV (fOp2 dEq (fIsi "list" (fVar 0)) (fIsi "list" (fVar 1)))) (fV (fOp2 dEq (fIsi "tuple" (fVar 0)) (fIsi "tuple" (fVar 1))))))
    (sRet (fO (fAnd (fVar 2) (fAnd (fV (fOp2 dEq (fV (fBl gLen (fQ (fVar 0) (fQ0)))) (fV (fBl gLen (fQ (fVar 1) (fQ0)))))) (fV (fBl gAll (fQ (fV (fLc [4, 5] (fiA gZip (fA (fVar 0) (fA (fVar 1) (fA0)))) (.tp [4, 5]) (fYes) (fV (fCall g__law_same (fMv (fVar 4) (fMv (fVar 5) (fM0))) [])))) (fQ0))))))))) (sNext))
    (sSeq (sSet 2 (fAnd (fNot (fIsi2 ["list", "tuple", "dict"] (fVar 0))) (fAnd (fV (fOp2 dEq (fIsi "int" (fVar 0)) (fIsi "int" (fVar 1)))) (fV (fOp2 dEq (fIsi "str" (fVar 0)) (fIsi "str" (fVar 1)))))))
    (sRet (fO (fAnd (fVar 2) (fAnd (fV (fOp2 dEq (fV (fOp2 dIs (fVar 0) (fC .non))) (fV (fOp2 dIs (fVar 1) (fC .non))))) (fAnd (fV (fOp2 dEq (fIsi "bool" (fVar 0)) (fIsi "bool" (fVar 1)))) (fV (fOp2 dEq (fVar 0) (fVar 1))))))))))
def m__law_same (g__law_same : Fm) : Fm := runP 2 (f__law_same g__law_same) 4
theorem ok__law_same {g__law_same : Fm} {a : Addr} {fd : FuncData} {k : Nat} (F : C8.Fun K "_law_same" "_law_same" s__law_same a fd) (hb : NoMg mg blts) (c__law_same : Cal P w K mg base k "_law_same" g__law_same []) : FnOk P w K mg base CX0 (k + 1) a fd p__law_same (spT K (m__law_same g__law_same)) :=
  def_okP F sc__law_same rfl fun cdv A outer s H E hr =>
    (ss_cons (sm_if (ts_val (ev_isi kit_dict (by rfl) (hb "isinstance" (by decide)) (by rfl) (hb "dict" (by decide)) boot_dict (ev_var 1))) (ss_cons (sm_set sc__law_same.nd (by rfl) (by first | exact Or.inl rfl | exact Or.inr rfl) (ev_and (ev_isi kit_dict (by rfl) (hb "isinstance" (by decide)) (by rfl) (hb "dict" (by decide)) boot_dict (ev_var 0)) (ev_and (En.v (en_cmp (opT_eq (Tl.Room.hu hr)) (En.v (en_bl bl_len (by rfl) (hb "len" (by decide)) boot_len (ap_cons (ev_var 0) ap_nil))) (En.v (en_bl bl_len (by rfl) (hb "len" (by decide)) boot_len (ap_cons (ev_var 1) ap_nil))) (by with_unfolding_all rfl))) (ev_one (En.v (en_bl (bl_all rfl) (by rfl) (hb "all" (by decide)) boot_all (ap_cons (En.v (en_lc (own := [("key", 3)]) rfl sc__law_same.nd (ii_any (ev_var 1)) (blkOk_by (by rfl)) (fun s1 H1 C1 cl1 fp1 => (tg_nm sc__law_same.nd (by rfl) (by first | exact Or.inl rfl | exact Or.inr rfl))) (fun s1 H1 C1 cl1 fp1 => ptsT_nil) (fun s1 H1 C1 cl1 fp1 => (En.v (en_cmp (opT_in (Tl.Room.hu hr)) (ev_var 3) (ev_var 0) (by with_unfolding_all rfl)))))) ap_nil)))))))
      (ss_one (sm_ret (Ev.o (ev_and (ev_var 2) (ev_one (En.v (en_bl (bl_all rfl) (by rfl) (hb "all" (by decide)) boot_all (ap_cons (En.v (en_lc (own := [("key", 3)]) rfl sc__law_same.nd (ii_any (ev_var 1)) (blkOk_by (by rfl)) (fun s1 H1 C1 cl1 fp1 => (tg_nm sc__law_same.nd (by rfl) (by first | exact Or.inl rfl | exact Or.inr rfl))) (fun s1 H1 C1 cl1 fp1 => ptsT_nil) (fun s1 H1 C1 cl1 fp1 => (En.v (en_call c__law_same hr (by omega) (by rfl) (am_v (En.v (en_sub (Tl.Room.hu hr) (ev_var 0) (ev_var 3))) (am_v (En.v (en_sub (Tl.Room.hu hr) (ev_var 1) (ev_var 3))) am_nil))))))) ap_nil))))))))) ss_nil)
      (ss_cons (sm_if (ts_val (ev_isiT (by rfl) (hb "isinstance" (by decide)) (Tys.cons kit_list (by rfl) (hb "list" (by decide)) boot_list (by decide) (by decide) (by rfl) (Tys.cons kit_tuple (by rfl) (hb "tuple" (by decide)) boot_tuple (by decide) (by decide) (by rfl) Tys.nil)) (ev_var 1))) (ss_cons (sm_set sc__law_same.nd (by rfl) (by first | exact Or.inl rfl | exact Or.inr rfl) (ev_and (En.v (en_cmp (opT_eq (Tl.Room.hu hr)) (ev_isi kit_list (by rfl) (hb "isinstance" (by decide)) (by rfl) (hb "list" (by decide)) boot_list (ev_var 0)) (ev_isi kit_list (by rfl) (hb "isinstance" (by decide)) (by rfl) (hb "list" (by decide)) boot_list (ev_var 1)) (by with_unfolding_all rfl))) (ev_one (En.v (en_cmp (opT_eq (Tl.Room.hu hr)) (ev_isi kit_tuple (by rfl) (hb "isinstance" (by decide)) (by rfl) (hb "tuple" (by decide)) boot_tuple (ev_var 0)) (ev_isi kit_tuple (by rfl) (hb "isinstance" (by decide)) (by rfl) (hb "tuple" (by decide)) boot_tuple (ev_var 1)) (by with_unfolding_all rfl))))))
      (ss_one (sm_ret (Ev.o (ev_and (ev_var 2) (ev_and (En.v (en_cmp (opT_eq (Tl.Room.hu hr)) (En.v (en_bl bl_len (by rfl) (hb "len" (by decide)) boot_len (ap_cons (ev_var 0) ap_nil))) (En.v (en_bl bl_len (by rfl) (hb "len" (by decide)) boot_len (ap_cons (ev_var 1) ap_nil))) (by with_unfolding_all rfl))) (ev_one (En.v (en_bl (bl_all rfl) (by rfl) (hb "all" (by decide)) boot_all (ap_cons (En.v (en_lc (own := [("one", 4), ("other", 5)]) rfl sc__law_same.nd (ii_zip (by rfl) (hb "zip" (by decide)) (ar_cons (ev_var 0) (ar_cons (ev_var 1) ar_nil))) (blkOk_by (by rfl)) (fun s1 H1 C1 cl1 fp1 => (tg_tp rfl sc__law_same.nd (GNs.cons (by rfl) (by first | exact Or.inl rfl | exact Or.inr rfl) (by first | exact .inl rfl | exact .inr rfl) (GNs.cons (by rfl) (by first | exact Or.inl rfl | exact Or.inr rfl) (by first | exact .inl rfl | exact .inr rfl) GNs.nil)))) (fun s1 H1 C1 cl1 fp1 => ptsT_nil) (fun s1 H1 C1 cl1 fp1 => (En.v (en_call c__law_same hr (by omega) (by rfl) (am_v (ev_var 4) (am_v (ev_var 5) am_nil))))))) ap_nil)))))))))) ss_nil)
      (ss_cons (sm_set sc__law_same.nd (by rfl) (by first | exact Or.inl rfl | exact Or.inr rfl) (ev_and (ev_not (ev_isiT (by rfl) (hb "isinstance" (by decide)) (Tys.cons kit_list (by rfl) (hb "list" (by decide)) boot_list (by decide) (by decide) (by rfl) (Tys.cons kit_tuple (by rfl) (hb "tuple" (by decide)) boot_tuple (by decide) (by decide) (by rfl) (Tys.cons kit_dict (by rfl) (hb "dict" (by decide)) boot_dict (by decide) (by decide) (by rfl) Tys.nil))) (ev_var 0))) (ev_and (En.v (en_cmp (opT_eq (Tl.Room.hu hr)) (ev_isi kit_int (by rfl) (hb "isinstance" (by decide)) (by rfl) (hb "int" (by decide)) boot_int (ev_var 0)) (ev_isi kit_int (by rfl) (hb "isinstance" (by decide)) (by rfl) (hb "int" (by decide)) boot_int (ev_var 1)) (by with_unfolding_all rfl))) (ev_one (En.v (en_cmp (opT_eq (Tl.Room.hu hr)) (ev_isi kit_str (by rfl) (hb "isinstance" (by decide)) (by rfl) (hb "str" (by decide)) boot_str (ev_var 0)) (ev_isi kit_str (by rfl) (hb "isinstance" (by decide)) (by rfl) (hb "str" (by decide)) boot_str (ev_var 1)) (by with_unfolding_all rfl)))))))
      (ss_one (sm_ret (Ev.o (ev_and (ev_var 2) (ev_and (En.v (en_cmp (opT_eq (Tl.Room.hu hr)) (En.v (en_cmp opT_is (ev_var 0) ev_non (by with_unfolding_all rfl))) (En.v (en_cmp opT_is (ev_var 1) ev_non (by with_unfolding_all rfl))) (by with_unfolding_all rfl))) (ev_and (En.v (en_cmp (opT_eq (Tl.Room.hu hr)) (ev_isi kit_bool (by rfl) (hb "isinstance" (by decide)) (by rfl) (hb "bool" (by decide)) boot_bool (ev_var 0)) (ev_isi kit_bool (by rfl) (hb "isinstance" (by decide)) (by rfl) (hb "bool" (by decide)) boot_bool (ev_var 1)) (by with_unfolding_all rfl))) (ev_one (En.v (en_cmp (opT_eq (Tl.Room.hu hr)) (ev_var 0) (ev_var 1) (by with_unfolding_all rfl)))))))))))))
/-! _law_purses -/
abbrev s__law_purses : Stmt := top 70
def N__law_purses : List Str := ["script", "few", "at"]
def p__law_purses : List Str := ["script", "few"]
theorem sc__law_purses : FnScope N__law_purses p__law_purses (C8.fnScope s__law_purses) := C8.fnScope_by (by decide +kernel)
def f__law_purses (g__law_purse : Fm) : F1 :=
    f1Lc [2] (fiA gRng1 (fA (fV (fBl gMax (fQ (fC (.int 1)) (fQ (fV (fBl gMin (fQ (fVar 1) (fQ (fV (fBl gLen (fQ (fVar 0) (fQ0)))) (fQ0))))) (fQ0))))) (fA0))) (.nm 2) (fCall g__law_purse (fMv (fVar 0) (fMv (fVar 2) (fM0))) [])
def m__law_purses (g__law_purse : Fm) : List SV → Option D := runN 2 (f__law_purses g__law_purse) 1
theorem ok__law_purses {g__law_purse : Fm} {a : Addr} {fd : FuncData} (F : C8.Fun K "_law_purses" "_law_purses" s__law_purses a fd) (hb : NoMg mg blts) (c__law_purse : Cal P w K mg base 1 "_law_purse" g__law_purse []) : FnOk P w K mg base CX0 2 a fd p__law_purses (spN K (m__law_purses g__law_purse)) :=
  def_okN F sc__law_purses rfl fun cdv A outer s H E hr =>
    (pss_one (ps_ret (e1_lc (own := [("at", 2)]) rfl sc__law_purses.nd (ii_range1 (by rfl) (hb "range" (by decide)) (ar_cons (En.v (en_bl (bl_max rfl) (by rfl) (hb "max" (by decide)) boot_max (ap_cons ev_int (ap_cons (En.v (en_bl (bl_min rfl) (by rfl) (hb "min" (by decide)) boot_min (ap_cons (ev_var 1) (ap_cons (En.v (en_bl bl_len (by rfl) (hb "len" (by decide)) boot_len (ap_cons (ev_var 0) ap_nil))) ap_nil)))) ap_nil)))) ar_nil)) (blkOk_by (by rfl)) (fun s1 H1 C1 cl1 fp1 => (tg_nm sc__law_purses.nd (by rfl) (by first | exact Or.inl rfl | exact Or.inr rfl))) (fun s1 H1 C1 cl1 fp1 => (en_call c__law_purse hr (by decide) (by rfl) (am_v (ev_var 0) (am_v (ev_var 2) am_nil)))))))
/-! _law_lots -/
abbrev s__law_lots : Stmt := top 71
def N__law_lots : List Str := ["many", "found", "at", "lot"]
def p__law_lots : List Str := ["many"]
theorem sc__law_lots : FnScope N__law_lots p__law_lots (C8.fnScope s__law_lots) := C8.fnScope_by (by decide +kernel)
def f__law_lots : Fs :=
    sSeq (sSet 1 (fV (fLst (fA (fV (fLst (fA0))) (fA0)))))
    (sSeq (sFor (.nm 2) (fiA gRng1 (fA (fVar 0) (fA0))) (sSet 1 (fV (fOp2 dAdd (fVar 1) (fV (fLc [3] (fiOf seqOf (fVar 1)) (.nm 3) (fYes) (fV (fOp2 dAdd (fVar 3) (fV (fLst (fA (fVar 2) (fA0))))))))))))
    (sRet (fBl gSorted (fQ (fVar 1) (fQ0)))))
def m__law_lots : Fm := runP 1 f__law_lots 3
theorem ok__law_lots {a : Addr} {fd : FuncData} (F : C8.Fun K "_law_lots" "_law_lots" s__law_lots a fd) (hb : NoMg mg blts) : FnOk P w K mg base CX0 1 a fd p__law_lots (spT K (m__law_lots)) :=
  def_okP F sc__law_lots rfl fun cdv A outer s H E hr =>
    (ss_cons (sm_set sc__law_lots.nd (by rfl) (by first | exact Or.inl rfl | exact Or.inr rfl) (En.v (en_lst (ar_cons (En.v (en_lst ar_nil)) ar_nil))))
      (ss_cons (sm_for PassesOwn.never rfl (ii_range1 (by rfl) (hb "range" (by decide)) (ar_cons (ev_var 0) ar_nil)) (tg_nm sc__law_lots.nd (by rfl) (by first | exact Or.inl rfl | exact Or.inr rfl)) (ss_one (sm_set sc__law_lots.nd (by rfl) (by first | exact Or.inl rfl | exact Or.inr rfl) (En.v (en_bin opT_add (ev_var 1) (En.v (en_lc (own := [("lot", 3)]) rfl sc__law_lots.nd (ii_any (ev_var 1)) (blkOk_by (by rfl)) (fun s1 H1 C1 cl1 fp1 => (tg_nm sc__law_lots.nd (by rfl) (by first | exact Or.inl rfl | exact Or.inr rfl))) (fun s1 H1 C1 cl1 fp1 => ptsT_nil) (fun s1 H1 C1 cl1 fp1 => (En.v (en_bin opT_add (ev_var 3) (En.v (en_lst (ar_cons (ev_var 2) ar_nil)))))))))))))
      (ss_one (sm_ret (en_bl (bl_sorted rfl (Tl.Room.hu hr)) (by rfl) (hb "sorted" (by decide)) boot_sorted (ap_cons (ev_var 1) ap_nil))))))
/-! _law_size -/
abbrev s__law_size : Stmt := top 72
def N__law_size : List Str := ["sizes", "lot", "thing"]
def p__law_size : List Str := ["sizes", "lot"]
theorem sc__law_size : FnScope N__law_size p__law_size (C8.fnScope s__law_size) := C8.fnScope_by (by decide +kernel)
def f__law_size : Fs :=
    sRet (fBl gSum (fQ (fV (fLc [2] (fiOf seqOf (fVar 1)) (.nm 2) (fYes) (fV (fOp2 dIx (fVar 0) (fVar 2))))) (fQ0)))
def m__law_size : Fm := runP 2 f__law_size 1
theorem ok__law_size {a : Addr} {fd : FuncData} (F : C8.Fun K "_law_size" "_law_size" s__law_size a fd) (hb : NoMg mg blts) : FnOk P w K mg base CX0 1 a fd p__law_size (spT K (m__law_size)) :=
  def_okP F sc__law_size rfl fun cdv A outer s H E hr =>
    (ss_one (sm_ret (en_bl (bl_sum rfl) (by rfl) (hb "sum" (by decide)) boot_sum (ap_cons (En.v (en_lc (own := [("thing", 2)]) rfl sc__law_size.nd (ii_any (ev_var 1)) (blkOk_by (by rfl)) (fun s1 H1 C1 cl1 fp1 => (tg_nm sc__law_size.nd (by rfl) (by first | exact Or.inl rfl | exact Or.inr rfl))) (fun s1 H1 C1 cl1 fp1 => ptsT_nil) (fun s1 H1 C1 cl1 fp1 => (En.v (en_sub (Tl.Room.hu hr) (ev_var 0) (ev_var 2)))))) ap_nil))))
/-! law -/
abbrev s_law : Stmt := top 73
def N_law : List Str := ["script", "purse", "sizes", "spin", "worths", "size", "whole", "room", "lots", "counts", "lot", "number", "fine", "told", "due", "near", "most", "thing", "best", "gaps", "split", "gap"]
def p_law : List Str := ["script"]
theorem sc_law : FnScope N_law p_law (C8.fnScope s_law) := C8.fnScope_by (by decide +kernel)
def f_law (g__law_purses : (List SV → Option D)) (g_size_of : Fm) (g_gap_counts : Fm) (g_gap_of : Fm) (g_least_gap : Fm) (g_first_split : Fm) (g__law_same : Fm) (g_does_fit : Fm) (g_worth_of : Fm) (g_bag_worth : Fm) (g_best_lot : Fm) (g_nearest_below : Fm) (g__law_size : Fm) (g_ways_to : Fm) (g_fitting_lots : Fm) (g_fitting_count : Fm) (g_sums_of : Fm) (g_sum_counts : Fm) (g__law_lots : Fm) (g__law_draw : Fm) : Fs :=
    sSeq (sFor1 1 (f1Call g__law_purses (fA (fVar 0) (fA (fC (.int 1)) (fA0)))) (sSeq (sSet 2 (fV (fLc [3] (fiA gRng1 (fA (fV (fCall g__law_draw (fMi (fVar 1) (fMv (fC (.int 9)) (fM0))) [])) (fA0))) (.nm 3) (fYes) (fV (fOp2 dAdd (fC (.int 1)) (fV (fCall g__law_draw (fMi (fVar 1) (fMv (fC (.int 9)) (fM0))) [])))))))
    (sSeq (sSet 4 (fV (fLc [5] (fiOf seqOf (fVar 2)) (.nm 5) (fYes) (fV (fCall g__law_draw (fMi (fVar 1) (fMv (fC (.int 12)) (fM0))) [])))))
    (sSeq (sSet 6 (fV (fBl gSum (fQ (fVar 2) (fQ0)))))
    (sSeq (sSet 7 (fV (fCall g__law_draw (fMi (fVar 1) (fMv (fV (fOp2 dAdd (fVar 6) (fC (.int 3)))) (fM0))) [])))
    (sSeq (sSet 8 (fV (fCall g__law_lots (fMv (fV (fBl gLen (fQ (fVar 2) (fQ0)))) (fM0)) [])))
    (sSeq (sSet 9 (fV (fLc [11] (fiA gRng1 (fA (fV (fOp2 dAdd (fVar 6) (fC (.int 1)))) (fA0))) (.nm 11) (fYes) (fV (fBl gLen (fQ (fV (fLc [10] (fiOf seqOf (fVar 8)) (.nm 10) (fT (fV (fOp2 dEq (fV (fCall g__law_size (fMv (fVar 2) (fMv (fVar 10) (fM0))) [])) (fVar 11)))) (fVar 10))) (fQ0)))))))
    (sSeq (sSet 12 (fV (fLc [10] (fiOf seqOf (fVar 8)) (.nm 10) (fT (fV (fOp2 dLe (fV (fCall g__law_size (fMv (fVar 2) (fMv (fVar 10) (fM0))) [])) (fVar 7)))) (fVar 10))))
    (sSeq (sSet 13 (fV (fLst (fA (fV (fCall g_sum_counts (fMv (fVar 2) (fM0)) [])) (fA (fV (fCall g_sums_of (fMv (fVar 2) (fM0)) [])) (fA (fV (fCall g_fitting_count (fMv (fVar 2) (fMv (fVar 7) (fM0))) [])) (fA (fV (fBl gLen (fQ (fV (fCall g_fitting_lots (fMv (fVar 2) (fMv (fVar 7) (fM0))) [])) (fQ0)))) (fA (fV (fCall g_ways_to (fMv (fVar 2) (fMv (fVar 7) (fM0))) [])) (fA0)))))))))
    (sSeq (sSet 14 (fV (fLst (fA (fVar 9) (fA (fV (fLc [11] (fiA gRng1 (fA (fV (fOp2 dAdd (fVar 6) (fC (.int 1)))) (fA0))) (.nm 11) (fT (fV (fOp2 dGt (fV (fOp2 dIx (fVar 9) (fVar 11))) (fC (.int 0))))) (fVar 11))) (fA (fV (fBl gSum (fQ (fV (fCut (fVar 9) (fPart0) (fPart (fV (fOp2 dAdd (fVar 7) (fC (.int 1))))))) (fQ0)))) (fA (fV (fBl gLen (fQ (fVar 12) (fQ0)))) (fA (fV (fOp2 dIx (fV (fOp2 dAdd (fVar 9) (fV (fLst (fA (fC (.int 0)) (fA (fC (.int 0)) (fA (fC (.int 0)) (fA0)))))))) (fVar 7))) (fA0)))))))))
    (sSeq (sIf (fTN (fT (fV (fCall g__law_same (fMv (fVar 13) (fMv (fVar 14) (fM0))) [])))) (sRet (fO (fC (.bl false)))) (sNext))
    (sSeq (sSet 15 (fV (fBl gMax (fQ (fV (fLc [10] (fiOf seqOf (fVar 12)) (.nm 10) (fYes) (fV (fCall g__law_size (fMv (fVar 2) (fMv (fVar 10) (fM0))) [])))) (fQ0)))))
    (sSeq (sIf (fTN (fT (fV (fCall g__law_same (fMv (fV (fLst (fA (fV (fCall g_nearest_below (fMv (fVar 2) (fMv (fVar 7) (fM0))) [])) (fA (fV (fCall g_bag_worth (fMv (fVar 2) (fMv (fVar 2) (fMv (fVar 7) (fM0)))) [])) (fA0))))) (fMv (fV (fLst (fA (fVar 15) (fA (fVar 15) (fA0))))) (fM0))) [])))) (sRet (fO (fC (.bl false)))) (sNext))
    (sSeq (sSet 16 (fV (fBl gMax (fQ (fV (fLc [10] (fiOf seqOf (fVar 12)) (.nm 10) (fYes) (fV (fBl gSum (fQ (fV (fLc [17] (fiOf seqOf (fVar 10)) (.nm 17) (fYes) (fV (fOp2 dIx (fVar 4) (fVar 17))))) (fQ0)))))) (fQ0)))))
    (sSeq (sSet 18 (fV (fCall g_best_lot (fMv (fVar 2) (fMv (fVar 4) (fMv (fVar 7) (fM0)))) [])))
    (sSeq (sIf (fTN (fT (fV (fCall g__law_same (fMv (fV (fLst (fA (fV (fCall g_bag_worth (fMv (fVar 2) (fMv (fVar 4) (fMv (fVar 7) (fM0)))) [])) (fA (fV (fCall g_worth_of (fMv (fVar 2) (fMv (fVar 4) (fMv (fVar 18) (fM0)))) [])) (fA (fV (fCall g_does_fit (fMv (fVar 2) (fMv (fVar 7) (fMv (fVar 18) (fM0)))) [])) (fA (fV (fOp2 dIn (fVar 18) (fVar 12))) (fA0))))))) (fMv (fV (fLst (fA (fVar 16) (fA (fVar 16) (fA (fC (.bl true)) (fA (fC (.bl true)) (fA0))))))) (fM0))) [])))) (sRet (fO (fC (.bl false)))) (sNext))
    (sSeq (sIf (fT (fV (fOp2 dNe (fVar 2) (fV (fLst (fA0)))))) (sSeq (sSet 19 (fV (fLc [11] (fiA gRng1 (fA (fV (fOp2 dAdd (fVar 6) (fC (.int 1)))) (fA0))) (.nm 11) (fT (fV (fOp2 dGt (fV (fOp2 dIx (fVar 9) (fVar 11))) (fC (.int 0))))) (fV (fBl gAbs (fQ (fV (fOp2 dSub (fVar 6) (fV (fOp2 dMul (fC (.int 2)) (fVar 11))))) (fQ0)))))))
    (sSeq (sSet 20 (fV (fCall g_first_split (fMv (fVar 2) (fM0)) [])))
    (sIf (fTO (fT (fV (fOp2 dNe (fV (fCall g_least_gap (fMv (fVar 2) (fM0)) [])) (fV (fBl gMin (fQ (fVar 19) (fQ0))))))) (fTO (fT (fV (fOp2 dNe (fV (fCall g_gap_of (fMv (fVar 2) (fMv (fVar 20) (fM0))) [])) (fV (fBl gMin (fQ (fVar 19) (fQ0))))))) (fT (fV (fOp2 dNe (fV (fBl gSorted (fQ (fV (fCall g_gap_counts (fMv (fVar 2) (fM0)) [])) (fQ0)))) (fV (fBl gSorted (fQ (fV (fBl gDict (fQ (fV (fLc [21] (fiOf seqOf (fVar 19)) (.nm 21) (fYes) (fV (fTup (fA (fVar 21) (fA (fC (.bl true)) (fA0))))))) (fQ0)))) (fQ0))))))))) (sRet (fO (fC (.bl false)))) (sNext)))) (sNext))
    (sIf (fT (fV (fOp2 dGt (fV (fCall g_size_of (fMv (fVar 2) (fMv (fVar 18) (fM0))) [])) (fVar 7)))) (sRet (fO (fC (.bl false)))) (sNext)))))))))))))))))))
    (sRet (fO (fC (.bl true))))
def m_law (g__law_purses : (List SV → Option D)) (g_size_of : Fm) (g_gap_counts : Fm) (g_gap_of : Fm) (g_least_gap : Fm) (g_first_split : Fm) (g__law_same : Fm) (g_does_fit : Fm) (g_worth_of : Fm) (g_bag_worth : Fm) (g_best_lot : Fm) (g_nearest_below : Fm) (g__law_size : Fm) (g_ways_to : Fm) (g_fitting_lots : Fm) (g_fitting_count : Fm) (g_sums_of : Fm) (g_sum_counts : Fm) (g__law_lots : Fm) (g__law_draw : Fm) : Fm := runP 1 (f_law g__law_purses g_size_of g_gap_counts g_gap_of g_least_gap g_first_split g__law_same g_does_fit g_worth_of g_bag_worth g_best_lot g_nearest_below g__law_size g_ways_to g_fitting_lots g_fitting_count g_sums_of g_sum_counts g__law_lots g__law_draw) 21
theorem ok_law {g__law_purses : (List SV → Option D)} {g_size_of : Fm} {g_gap_counts : Fm} {g_gap_of : Fm} {g_least_gap : Fm} {g_first_split : Fm} {g__law_same : Fm} {g_does_fit : Fm} {g_worth_of : Fm} {g_bag_worth : Fm} {g_best_lot : Fm} {g_nearest_below : Fm} {g__law_size : Fm} {g_ways_to : Fm} {g_fitting_lots : Fm} {g_fitting_count : Fm} {g_sums_of : Fm} {g_sum_counts : Fm} {g__law_lots : Fm} {g__law_draw : Fm} {a : Addr} {fd : FuncData} (F : C8.Fun K "law" "law" s_law a fd) (hb : NoMg mg blts) (c__law_purses : CalN P w K mg base 2 "_law_purses" g__law_purses) (c_size_of : Cal P w K mg base 5 "size_of" g_size_of []) (c_gap_counts : Cal P w K mg base 5 "gap_counts" g_gap_counts []) (c_gap_of : Cal P w K mg base 6 "gap_of" g_gap_of []) (c_least_gap : Cal P w K mg base 5 "least_gap" g_least_gap []) (c_first_split : Cal P w K mg base 5 "first_split" g_first_split []) (c__law_same : Cal P w K mg base 6 "_law_same" g__law_same []) (c_does_fit : Cal P w K mg base 5 "does_fit" g_does_fit []) (c_worth_of : Cal P w K mg base 5 "worth_of" g_worth_of []) (c_bag_worth : Cal P w K mg base 6 "bag_worth" g_bag_worth []) (c_best_lot : Cal P w K mg base 6 "best_lot" g_best_lot []) (c_nearest_below : Cal P w K mg base 5 "nearest_below" g_nearest_below []) (c__law_size : Cal P w K mg base 1 "_law_size" g__law_size []) (c_ways_to : Cal P w K mg base 5 "ways_to" g_ways_to []) (c_fitting_lots : Cal P w K mg base 5 "fitting_lots" g_fitting_lots []) (c_fitting_count : Cal P w K mg base 5 "fitting_count" g_fitting_count []) (c_sums_of : Cal P w K mg base 5 "sums_of" g_sums_of []) (c_sum_counts : Cal P w K mg base 5 "sum_counts" g_sum_counts []) (c__law_lots : Cal P w K mg base 1 "_law_lots" g__law_lots []) (c__law_draw : Cal P w K mg base 2 "_law_draw" g__law_draw []) : FnOk P w K mg base CX0 7 a fd p_law (spT K (m_law g__law_purses g_size_of g_gap_counts g_gap_of g_least_gap g_first_split g__law_same g_does_fit g_worth_of g_bag_worth g_best_lot g_nearest_below g__law_size g_ways_to g_fitting_lots g_fitting_count g_sums_of g_sum_counts g__law_lots g__law_draw)) :=
  def_okP F sc_law rfl fun cdv A outer s H E hr =>
    (ss_cons (sm_for1 (i := 1) PassesOwn.never rfl (e1_call c__law_purses hr (by decide) (by rfl) (ar_cons (ev_var 0) (ar_cons ev_int ar_nil))) (pg_name sc_law.nd (by rfl) (by first | exact Or.inl rfl | exact Or.inr rfl)) (ss_cons (sm_set sc_law.nd (by rfl) (by first | exact Or.inl rfl | exact Or.inr rfl) (En.v (en_lc (own := [("spin", 3)]) rfl sc_law.nd (ii_range1 (by rfl) (hb "range" (by decide)) (ar_cons (En.v (en_call c__law_draw hr (by decide) (by rfl) (am_i (ev_var 1) (am_v ev_int am_nil)))) ar_nil)) (blkOk_by (by rfl)) (fun s1 H1 C1 cl1 fp1 => (tg_nm sc_law.nd (by rfl) (by first | exact Or.inl rfl | exact Or.inr rfl))) (fun s1 H1 C1 cl1 fp1 => ptsT_nil) (fun s1 H1 C1 cl1 fp1 => (En.v (en_bin opT_add ev_int (En.v (en_call c__law_draw hr (by decide) (by rfl) (am_i (ev_var 1) (am_v ev_int am_nil))))))))))
      (ss_cons (sm_set sc_law.nd (by rfl) (by first | exact Or.inl rfl | exact Or.inr rfl) (En.v (en_lc (own := [("size", 5)]) rfl sc_law.nd (ii_any (ev_var 2)) (blkOk_by (by rfl)) (fun s1 H1 C1 cl1 fp1 => (tg_nm sc_law.nd (by rfl) (by first | exact Or.inl rfl | exact Or.inr rfl))) (fun s1 H1 C1 cl1 fp1 => ptsT_nil) (fun s1 H1 C1 cl1 fp1 => (En.v (en_call c__law_draw hr (by decide) (by rfl) (am_i (ev_var 1) (am_v ev_int am_nil))))))))
      (ss_cons (sm_set sc_law.nd (by rfl) (by first | exact Or.inl rfl | exact Or.inr rfl) (En.v (en_bl (bl_sum rfl) (by rfl) (hb "sum" (by decide)) boot_sum (ap_cons (ev_var 2) ap_nil))))
      (ss_cons (sm_set sc_law.nd (by rfl) (by first | exact Or.inl rfl | exact Or.inr rfl) (En.v (en_call c__law_draw hr (by decide) (by rfl) (am_i (ev_var 1) (am_v (En.v (en_bin opT_add (ev_var 6) ev_int)) am_nil)))))
      (ss_cons (sm_set sc_law.nd (by rfl) (by first | exact Or.inl rfl | exact Or.inr rfl) (En.v (en_call c__law_lots hr (by decide) (by rfl) (am_v (En.v (en_bl bl_len (by rfl) (hb "len" (by decide)) boot_len (ap_cons (ev_var 2) ap_nil))) am_nil))))
      (ss_cons (sm_set sc_law.nd (by rfl) (by first | exact Or.inl rfl | exact Or.inr rfl) (En.v (en_lc (own := [("number", 11)]) rfl sc_law.nd (ii_range1 (by rfl) (hb "range" (by decide)) (ar_cons (En.v (en_bin opT_add (ev_var 6) ev_int)) ar_nil)) (blkOk_by (by rfl)) (fun s1 H1 C1 cl1 fp1 => (tg_nm sc_law.nd (by rfl) (by first | exact Or.inl rfl | exact Or.inr rfl))) (fun s1 H1 C1 cl1 fp1 => ptsT_nil) (fun s1 H1 C1 cl1 fp1 => (En.v (en_bl bl_len (by rfl) (hb "len" (by decide)) boot_len (ap_cons (En.v (en_lc (own := [("lot", 10)]) rfl sc_law.nd (ii_any (ev_var 8)) (blkOk_by (by rfl)) (fun s1 H1 C1 cl1 fp1 => (tg_nm sc_law.nd (by rfl) (by first | exact Or.inl rfl | exact Or.inr rfl))) (fun s1 H1 C1 cl1 fp1 => (ptsT_one (ts_cmp (opT_eq (Tl.Room.hu hr)) (En.v (en_call c__law_size hr (by decide) (by rfl) (am_v (ev_var 2) (am_v (ev_var 10) am_nil)))) (ev_var 11) (by with_unfolding_all rfl)))) (fun s1 H1 C1 cl1 fp1 => (ev_var 10)))) ap_nil)))))))
      (ss_cons (sm_setLc (own := [("lot", 10)]) rfl sc_law.nd (by rfl) (by rfl) (by rfl) (ii_any (ev_var 8)) (blkOk_by (by rfl)) (fun s1 H1 C1 cl1 fp1 => (tg_nm sc_law.nd (by rfl) (by first | exact Or.inl rfl | exact Or.inr rfl))) (fun s1 H1 C1 cl1 fp1 => (ptsT_one (ts_cmp (opT_le (Tl.Room.hu hr)) (En.v (en_call c__law_size hr (by decide) (by rfl) (am_v (ev_var 2) (am_v (ev_var 10) am_nil)))) (ev_var 7) (by with_unfolding_all rfl)))) (fun s1 H1 C1 cl1 fp1 => (ev_var 10)))
      (ss_cons (sm_set sc_law.nd (by rfl) (by first | exact Or.inl rfl | exact Or.inr rfl) (En.v (en_lst (ar_cons (En.v (en_call c_sum_counts hr (by decide) (by rfl) (am_v (ev_var 2) am_nil))) (ar_cons (En.v (en_call c_sums_of hr (by decide) (by rfl) (am_v (ev_var 2) am_nil))) (ar_cons (En.v (en_call c_fitting_count hr (by decide) (by rfl) (am_v (ev_var 2) (am_v (ev_var 7) am_nil)))) (ar_cons (En.v (en_bl bl_len (by rfl) (hb "len" (by decide)) boot_len (ap_cons (En.v (en_call c_fitting_lots hr (by decide) (by rfl) (am_v (ev_var 2) (am_v (ev_var 7) am_nil)))) ap_nil))) (ar_cons (En.v (en_call c_ways_to hr (by decide) (by rfl) (am_v (ev_var 2) (am_v (ev_var 7) am_nil)))) ar_nil))))))))
      (ss_cons (sm_set sc_law.nd (by rfl) (by first | exact Or.inl rfl | exact Or.inr rfl) (En.v (en_lst (ar_cons (ev_var 9) (ar_cons (En.v (en_lc (own := [("number", 11)]) rfl sc_law.nd (ii_range1 (by rfl) (hb "range" (by decide)) (ar_cons (En.v (en_bin opT_add (ev_var 6) ev_int)) ar_nil)) (blkOk_by (by rfl)) (fun s1 H1 C1 cl1 fp1 => (tg_nm sc_law.nd (by rfl) (by first | exact Or.inl rfl | exact Or.inr rfl))) (fun s1 H1 C1 cl1 fp1 => (ptsT_one (ts_cmp (opT_gt (Tl.Room.hu hr)) (En.v (en_sub (Tl.Room.hu hr) (ev_var 9) (ev_var 11))) ev_int (by with_unfolding_all rfl)))) (fun s1 H1 C1 cl1 fp1 => (ev_var 11)))) (ar_cons (En.v (en_bl (bl_sum rfl) (by rfl) (hb "sum" (by decide)) boot_sum (ap_cons (En.v (en_cut (ev_var 9) pt0 (pt1 (En.v (en_bin opT_add (ev_var 7) ev_int))))) ap_nil))) (ar_cons (En.v (en_bl bl_len (by rfl) (hb "len" (by decide)) boot_len (ap_cons (ev_var 12) ap_nil))) (ar_cons (En.v (en_sub (Tl.Room.hu hr) (En.v (en_bin opT_add (ev_var 9) (En.v (en_lst (ar_cons ev_int (ar_cons ev_int (ar_cons ev_int ar_nil))))))) (ev_var 7))) ar_nil))))))))
      (ss_cons (sm_if (ts_not (ts_val (En.v (en_call c__law_same hr (by decide) (by rfl) (am_v (ev_var 13) (am_v (ev_var 14) am_nil)))))) (ss_one (sm_ret (Ev.o ev_bl))) ss_nil)
      (ss_cons (sm_set sc_law.nd (by rfl) (by first | exact Or.inl rfl | exact Or.inr rfl) (En.v (en_bl (bl_max rfl) (by rfl) (hb "max" (by decide)) boot_max (ap_cons (En.v (en_lc (own := [("lot", 10)]) rfl sc_law.nd (ii_any (ev_var 12)) (blkOk_by (by rfl)) (fun s1 H1 C1 cl1 fp1 => (tg_nm sc_law.nd (by rfl) (by first | exact Or.inl rfl | exact Or.inr rfl))) (fun s1 H1 C1 cl1 fp1 => ptsT_nil) (fun s1 H1 C1 cl1 fp1 => (En.v (en_call c__law_size hr (by decide) (by rfl) (am_v (ev_var 2) (am_v (ev_var 10) am_nil))))))) ap_nil))))
      (ss_cons (sm_if (ts_not (ts_val (En.v (en_call c__law_same hr (by decide) (by rfl) (am_v (En.v (en_lst (ar_cons (En.v (en_call c_nearest_below hr (by decide) (by rfl) (am_v (ev_var 2) (am_v (ev_var 7) am_nil)))) (ar_cons (En.v (en_call c_bag_worth hr (by decide) (by rfl) (am_v (ev_var 2) (am_v (ev_var 2) (am_v (ev_var 7) am_nil))))) ar_nil)))) (am_v (En.v (en_lst (ar_cons (ev_var 15) (ar_cons (ev_var 15) ar_nil)))) am_nil)))))) (ss_one (sm_ret (Ev.o ev_bl))) ss_nil)
      (ss_cons (sm_set sc_law.nd (by rfl) (by first | exact Or.inl rfl | exact Or.inr rfl) (En.v (en_bl (bl_max rfl) (by rfl) (hb "max" (by decide)) boot_max (ap_cons (En.v (en_lc (own := [("lot", 10)]) rfl sc_law.nd (ii_any (ev_var 12)) (blkOk_by (by rfl)) (fun s1 H1 C1 cl1 fp1 => (tg_nm sc_law.nd (by rfl) (by first | exact Or.inl rfl | exact Or.inr rfl))) (fun s1 H1 C1 cl1 fp1 => ptsT_nil) (fun s1 H1 C1 cl1 fp1 => (En.v (en_bl (bl_sum rfl) (by rfl) (hb "sum" (by decide)) boot_sum (ap_cons (En.v (en_lc (own := [("thing", 17)]) rfl sc_law.nd (ii_any (ev_var 10)) (blkOk_by (by rfl)) (fun s1 H1 C1 cl1 fp1 => (tg_nm sc_law.nd (by rfl) (by first | exact Or.inl rfl | exact Or.inr rfl))) (fun s1 H1 C1 cl1 fp1 => ptsT_nil) (fun s1 H1 C1 cl1 fp1 => (En.v (en_sub (Tl.Room.hu hr) (ev_var 4) (ev_var 17)))))) ap_nil)))))) ap_nil))))
      (ss_cons (sm_set sc_law.nd (by rfl) (by first | exact Or.inl rfl | exact Or.inr rfl) (En.v (en_call c_best_lot hr (by decide) (by rfl) (am_v (ev_var 2) (am_v (ev_var 4) (am_v (ev_var 7) am_nil))))))
      (ss_cons (sm_if (ts_not (ts_val (En.v (en_call c__law_same hr (by decide) (by rfl) (am_v (En.v (en_lst (ar_cons (En.v (en_call c_bag_worth hr (by decide) (by rfl) (am_v (ev_var 2) (am_v (ev_var 4) (am_v (ev_var 7) am_nil))))) (ar_cons (En.v (en_call c_worth_of hr (by decide) (by rfl) (am_v (ev_var 2) (am_v (ev_var 4) (am_v (ev_var 18) am_nil))))) (ar_cons (En.v (en_call c_does_fit hr (by decide) (by rfl) (am_v (ev_var 2) (am_v (ev_var 7) (am_v (ev_var 18) am_nil))))) (ar_cons (En.v (en_cmp (opT_in (Tl.Room.hu hr)) (ev_var 18) (ev_var 12) (by with_unfolding_all rfl))) ar_nil)))))) (am_v (En.v (en_lst (ar_cons (ev_var 16) (ar_cons (ev_var 16) (ar_cons ev_bl (ar_cons ev_bl ar_nil)))))) am_nil)))))) (ss_one (sm_ret (Ev.o ev_bl))) ss_nil)
      (ss_cons (sm_if (ts_cmp (opT_ne (Tl.Room.hu hr)) (ev_var 2) (En.v (en_lst ar_nil)) (by with_unfolding_all rfl)) (ss_cons (sm_setLc (own := [("number", 11)]) rfl sc_law.nd (by rfl) (by rfl) (by rfl) (ii_range1 (by rfl) (hb "range" (by decide)) (ar_cons (En.v (en_bin opT_add (ev_var 6) ev_int)) ar_nil)) (blkOk_by (by rfl)) (fun s1 H1 C1 cl1 fp1 => (tg_nm sc_law.nd (by rfl) (by first | exact Or.inl rfl | exact Or.inr rfl))) (fun s1 H1 C1 cl1 fp1 => (ptsT_one (ts_cmp (opT_gt (Tl.Room.hu hr)) (En.v (en_sub (Tl.Room.hu hr) (ev_var 9) (ev_var 11))) ev_int (by with_unfolding_all rfl)))) (fun s1 H1 C1 cl1 fp1 => (En.v (en_bl bl_abs (by rfl) (hb "abs" (by decide)) boot_abs (ap_cons (En.v (en_bin opT_sub (ev_var 6) (En.v (en_bin opT_mul ev_int (ev_var 11))))) ap_nil)))))
      (ss_cons (sm_set sc_law.nd (by rfl) (by first | exact Or.inl rfl | exact Or.inr rfl) (En.v (en_call c_first_split hr (by decide) (by rfl) (am_v (ev_var 2) am_nil))))
      (ss_one (sm_if (Tw.t (tw_or (ts_cmp (opT_ne (Tl.Room.hu hr)) (En.v (en_call c_least_gap hr (by decide) (by rfl) (am_v (ev_var 2) am_nil))) (En.v (en_bl (bl_min rfl) (by rfl) (hb "min" (by decide)) boot_min (ap_cons (ev_var 19) ap_nil))) (by with_unfolding_all rfl)) (tw_or (ts_cmp (opT_ne (Tl.Room.hu hr)) (En.v (en_call c_gap_of hr (by decide) (by rfl) (am_v (ev_var 2) (am_v (ev_var 20) am_nil)))) (En.v (en_bl (bl_min rfl) (by rfl) (hb "min" (by decide)) boot_min (ap_cons (ev_var 19) ap_nil))) (by with_unfolding_all rfl)) (tw_or1 (ts_cmp (opT_ne (Tl.Room.hu hr)) (En.v (en_bl (bl_sorted rfl (Tl.Room.hu hr)) (by rfl) (hb "sorted" (by decide)) boot_sorted (ap_cons (En.v (en_call c_gap_counts hr (by decide) (by rfl) (am_v (ev_var 2) am_nil))) ap_nil))) (En.v (en_bl (bl_sorted rfl (Tl.Room.hu hr)) (by rfl) (hb "sorted" (by decide)) boot_sorted (ap_cons (En.v (en_ty (bl_dict rfl) (by rfl) (hb "dict" (by decide)) boot_dict (ap_cons (En.v (en_lc (own := [("gap", 21)]) rfl sc_law.nd (ii_any (ev_var 19)) (blkOk_by (by rfl)) (fun s1 H1 C1 cl1 fp1 => (tg_nm sc_law.nd (by rfl) (by first | exact Or.inl rfl | exact Or.inr rfl))) (fun s1 H1 C1 cl1 fp1 => ptsT_nil) (fun s1 H1 C1 cl1 fp1 => (En.v (en_tup (ar_cons (ev_var 21) (ar_cons ev_bl ar_nil))))))) ap_nil))) ap_nil))) (by with_unfolding_all rfl)))))) (ss_one (sm_ret (Ev.o ev_bl))) ss_nil)))) ss_nil)
      (ss_one (sm_if (ts_cmp (opT_gt (Tl.Room.hu hr)) (En.v (en_call c_size_of hr (by decide) (by rfl) (am_v (ev_var 2) (am_v (ev_var 18) am_nil)))) (ev_var 7) (by with_unfolding_all rfl)) (ss_one (sm_ret (Ev.o ev_bl))) ss_nil)))))))))))))))))))
      (ss_one (sm_ret (Ev.o ev_bl))))
end
end K85

set_option Elab.async false
set_option linter.all false
set_option autoImplicit false
set_option maxRecDepth 100000
namespace K85
open PySem PySem.Spec PyProof.Rows L2 L2.Tl
noncomputable section
def g_is_whole : Fm := m_is_whole 
def g_is_count : Fm := m_is_count (g_is_whole)
def g_are_sizes : Fm := m_are_sizes (g_is_count)
def g_check_sizes : Fm := m_check_sizes (g_are_sizes)
def g_are_worths_there : Fm := m_are_worths_there (g_is_count)
def g_is_lot_there : Fm := m_is_lot_there (g_is_count)
def g_check_worths : Fm := m_check_worths (g_are_worths_there)
def g_check_lot : Fm := m_check_lot (g_is_lot_there)
def g_check_room : Fm := m_check_room (g_is_count)
def g_size_there : Fm := m_size_there 
def g_size_of : Fm := m_size_of (g_size_there) (g_check_lot) (g_check_sizes)
def g_worth_of : Fm := m_worth_of (g_check_lot) (g_check_worths) (g_check_sizes)
def g_does_fit : Fm := m_does_fit (g_size_there) (g_check_lot) (g_check_room) (g_check_sizes)
def g_count_from : Fm := m_count_from 
def g_fitting_there : Fm := m_fitting_there (g_count_from)
def g_fitting_count : Fm := m_fitting_count (g_fitting_there) (g_check_room) (g_check_sizes)
def g_all_fitting : Fm := m_all_fitting 
def g_check_many : Fm := m_check_many (g_fitting_there)
def g_fitting_lots : Fm := m_fitting_lots (g_all_fitting) (g_check_many) (g_check_room) (g_check_sizes)
def g_check_bag : Fm := m_check_bag (g_check_room) (g_check_worths) (g_check_sizes)
def g_asked_rooms : Fm := m_asked_rooms 
def g_better : Fm := m_better 
def g_bests_there : Fm := m_bests_there (g_better) (g_asked_rooms)
def g_worth_there : Fm := m_worth_there (g_bests_there)
def g_bag_worth : Fm := m_bag_worth (g_worth_there) (g_check_bag)
def g_next_things : Fm := m_next_things 
def g_best_lot : Fm := m_best_lot (g_next_things) (g_bests_there) (g_check_bag)
def g_is_split_there : Fm := m_is_split_there (g_is_lot_there)
def g_check_split : Fm := m_check_split (g_is_split_there) (g_check_sizes)
def g_gap_there : Fm := m_gap_there (g_size_there)
def g_gap_of : Fm := m_gap_of (g_gap_there) (g_check_split)
def g_sums_there : Fm := m_sums_there 
def g_least_there : Fm := m_least_there (g_sums_there)
def g_least_gap : Fm := m_least_gap (g_least_there) (g_check_sizes)
def g_gap_counts : Fm := m_gap_counts (g_sums_there) (g_check_sizes)
def g_ends_there : Fm := m_ends_there 
def g_split_with : Fm := m_split_with (g_size_there) (g_ends_there)
def g_first_split : Fm := m_first_split (g_split_with) (g_least_there) (g_check_sizes)
def g_counts_there : Fm := m_counts_there 
def g_sum_counts : Fm := m_sum_counts (g_counts_there) (g_check_sizes)
def g_tails_there : Fm := m_tails_there 
def g_check_number : Fm := m_check_number (g_is_count)
def g_ways_there : Fm := m_ways_there (g_tails_there)
def g_ways_to : Fm := m_ways_to (g_ways_there) (g_check_number) (g_check_sizes)
def g_sums_there2 : Fm := m_sums_there2 
def g_sums_of : Fm := m_sums_of (g_sums_there2) (g_check_sizes)
def g_nearest_below : Fm := m_nearest_below (g_sums_there2) (g_check_room) (g_check_sizes)
def g__law_purse : Fm := m__law_purse 
def g__law_mixed : Fm := m__law_mixed 
def g__law_draw : Fm := m__law_draw (g__law_mixed)
def g__law_same : Nat → Fm
  | 0 => fun _ => none
  | k + 1 => m__law_same (g__law_same k)
def g__law_purses : List SV → Option D := m__law_purses (g__law_purse)
def g__law_lots : Fm := m__law_lots 
def g__law_size : Fm := m__law_size 
def g_law : Fm := m_law (g__law_purses) (g_size_of) (g_gap_counts) (g_gap_of) (g_least_gap) (g_first_split) (g__law_same 6) (g_does_fit) (g_worth_of) (g_bag_worth) (g_best_lot) (g_nearest_below) (g__law_size) (g_ways_to) (g_fitting_lots) (g_fitting_count) (g_sums_of) (g_sum_counts) (g__law_lots) (g__law_draw)
end
end K85

set_option Elab.async false
set_option linter.all false
set_option autoImplicit false
set_option maxRecDepth 100000
namespace K85
open PySem PySem.Spec PyProof.Rows L2 L2.Tl
/-! ### values: the checks -/
theorem v_is_count (i m : Int) : g_is_count [.fz (.int i), .fz (.int m)] = some (.val (.bl (decide (max m 0 ≤ i))), []) := rfl
/-- a list of ints -/
abbrev iL (is : List Int) : D := .lst (is.map .int)
theorem blsOf_mapF {α : Type} (p : α → Bool) (xs : List α) : blsOf (xs.map fun x => .bl (p x)) = some (xs.map p) := by
  rw [← blsOf_map, List.map_map]; rfl
theorem intsOf_mapF {α : Type} (p : α → Int) (xs : List α) : intsOf (xs.map fun x => .int (p x)) = some (xs.map p) := by
  rw [← intsOf_map, List.map_map]; rfl
@[simp] theorem isiD_lst (xs : List D) : isiD "list" (.lst xs) = some true := rfl
theorem sz63 {n : Nat} (h : n ≤ 1000000) : n ≤ sizeLine := Nat.le_trans h (by rw [sizeLine_eq]; decide)
theorem v_are_sizes (is : List Int) (h : ∀ i ∈ is, 1 ≤ i) (hl : is.length ≤ sizeLine) : g_are_sizes [.fz (iL is)] = some (.val (.bl true), []) := by
  simp [g_are_sizes, m_are_sizes, f_are_sizes, hl]
  rw [lcM_mapF D.int (fun i => .bl (decide (1 ≤ i))) (fun i _ => by simp [lcTurn, v_is_count]; omega)]
  simp [blsOf_mapF]
  exact h
theorem v_check_sizes (is : List Int) (h : ∀ i ∈ is, 1 ≤ i) (hl : is.length ≤ sizeLine) : g_check_sizes [.fz (iL is)] = some (.val .non, []) := by
  simp [g_check_sizes, m_check_sizes, f_check_sizes, v_are_sizes is h hl]
theorem v_check_room (r : Int) (h : 0 ≤ r) : g_check_room [.fz (.int r)] = some (.val .non, []) := by
  simp [g_check_room, m_check_room, f_check_room, v_is_count, h]
theorem v_are_worths (is ws : List Int) (h : ∀ i ∈ ws, 0 ≤ i) (he : ws.length = is.length) (hl : ws.length ≤ sizeLine) : g_are_worths_there [.fz (iL is), .fz (iL ws)] = some (.val (.bl true), []) := by
  simp [g_are_worths_there, m_are_worths_there, f_are_worths_there, hl, he]
  rw [← he]
  simp [hl]
  rw [lcM_mapF D.int (fun i => .bl (decide (0 ≤ i))) (fun i _ => by simp [lcTurn, v_is_count])]
  simp [blsOf_mapF]
  exact h
theorem v_check_worths (is ws : List Int) (h : ∀ i ∈ ws, 0 ≤ i) (he : ws.length = is.length) (hl : ws.length ≤ sizeLine) : g_check_worths [.fz (iL is), .fz (iL ws)] = some (.val .non, []) := by
  simp [g_check_worths, m_check_worths, f_check_worths, v_are_worths is ws h he hl]
/-- a lot: places in order -/
def Lot (n : Nat) (lot : List Int) : Prop := lot.Pairwise (· < ·) ∧ ∀ i ∈ lot, 0 ≤ i ∧ i < n
def sz (sizes lot : List Int) : Int := (lot.map (ig sizes)).sum
theorem v_size_there (is lot : List Int) (h : ∀ i ∈ lot, 0 ≤ i ∧ i < is.length) (hl : lot.length ≤ sizeLine) : g_size_there [.fz (iL is), .fz (iL lot)] = some (.val (.int (sz is lot)), []) := by
  simp [g_size_there, m_size_there, f_size_there, hl]
  rw [lcM_mapF D.int (fun i => .int (ig is i)) (fun i hi => by simp [lcTurn, atI_ig (h i hi).1 (h i hi).2])]
  simp [intsOf_mapF, sz]
theorem v_law_size (is lot : List Int) (h : ∀ i ∈ lot, 0 ≤ i ∧ i < is.length) (hl : lot.length ≤ sizeLine) : g__law_size [.fz (iL is), .fz (iL lot)] = some (.val (.int (sz is lot)), []) := by
  simp [g__law_size, m__law_size, f__law_size, hl]
  rw [lcM_mapF D.int (fun i => .int (ig is i)) (fun i hi => by simp [lcTurn, atI_ig (h i hi).1 (h i hi).2])]
  simp [intsOf_mapF, sz]
theorem zip_tail : ∀ {l : List Int}, l.Pairwise (· < ·) → ∀ a b, (a, b) ∈ l.zip l.tail → a < b
  | [], _, a, b, h => by simp at h
  | [_], _, a, b, h => by simp at h
  | x :: y :: l, hp, a, b, h => by
    rw [List.pairwise_cons] at hp
    simp only [List.tail_cons, List.zip_cons_cons, List.mem_cons, Prod.mk.injEq] at h
    rcases h with ⟨rfl, rfl⟩ | h
    · exact hp.1 _ (by simp)
    · exact zip_tail hp.2 a b h
theorem v_is_lot (is lot : List Int) (h : Lot is.length lot) (hl : lot.length ≤ sizeLine) : g_is_lot_there [.fz (iL is), .fz (iL lot)] = some (.val (.bl true), []) := by
  simp [g_is_lot_there, m_is_lot_there, f_is_lot_there, hl]
  rw [lcM_mapF D.int (fun i => .bl true) (fun i hi => by simp [lcTurn, v_is_count, h.2 i hi])]
  simp [blsOf_mapF (fun _ => true), cutD_from]
  rw [← List.map_tail, zipD_ints]
  simp
  rw [if_pos (by omega)]
  rw [lcM_mapF (fun p : Int × Int => D.tup [.int p.1, .int p.2]) (fun p => .bl (decide (p.1 < p.2))) (fun p hp => by simp [lcTurn])]
  simp [blsOf_mapF (fun p : Int × Int => decide (p.1 < p.2))]
  exact fun a b hab => zip_tail h.1 a b hab
theorem v_check_lot (is lot : List Int) (h : Lot is.length lot) (hl : lot.length ≤ sizeLine) : g_check_lot [.fz (iL is), .fz (iL lot)] = some (.val .non, []) := by
  simp [g_check_lot, m_check_lot, f_check_lot, v_is_lot is lot h hl]
/-- sizes of the law -/
structure Szs (is : List Int) : Prop where
  pos : ∀ i ∈ is, 1 ≤ i
  len : is.length ≤ 8
theorem Szs.le {is : List Int} (h : Szs is) : is.length ≤ sizeLine := Nat.le_trans h.len (by rw [sizeLine_eq]; decide)
theorem Lot.length_le : ∀ {n : Nat} {lot : List Int}, Lot n lot → lot.length ≤ n := fun {n lot} h => by
  have key : ∀ (lot : List Int) (a : Int), lot.Pairwise (· < ·) → (∀ i ∈ lot, a ≤ i ∧ i < n) → a ≤ n → (lot.length : Int) ≤ n - a := by
    intro lot
    induction lot with
    | nil => intro a _ _ h; simp; omega
    | cons b t ih =>
      intro a hp hb _
      rw [List.pairwise_cons] at hp
      have h1 := hb b (by simp)
      have := ih (b + 1) hp.2 (fun i hi => by have := hp.1 i hi; have := hb i (by simp [hi]); omega) (by omega)
      simp only [List.length_cons]
      push_cast
      omega
  have := key lot 0 h.1 h.2 (by omega)
  omega
theorem Lot.le {n : Nat} {lot : List Int} (h : Lot n lot) (hn : n ≤ 8) : lot.length ≤ sizeLine := Nat.le_trans (Nat.le_trans h.length_le hn) (by rw [sizeLine_eq]; decide)
theorem v_size_of (is lot : List Int) (hs : Szs is) (h : Lot is.length lot) : g_size_of [.fz (iL is), .fz (iL lot)] = some (.val (.int (sz is lot)), []) := by
  simp [g_size_of, m_size_of, f_size_of, v_check_sizes is hs.pos hs.le, v_check_lot is lot h (h.le hs.len), v_size_there is lot h.2 (h.le hs.len)]
theorem v_worth_of (is ws lot : List Int) (hs : Szs is) (hw : ∀ i ∈ ws, 0 ≤ i) (he : ws.length = is.length) (h : Lot is.length lot) : g_worth_of [.fz (iL is), .fz (iL ws), .fz (iL lot)] = some (.val (.int (sz ws lot)), []) := by
  simp [g_worth_of, m_worth_of, f_worth_of, v_check_sizes is hs.pos hs.le, v_check_lot is lot h (h.le hs.len), v_check_worths is ws hw he (he ▸ hs.le), h.le hs.len]
  rw [lcM_mapF D.int (fun i => .int (ig ws i)) (fun i hi => by simp [lcTurn, atI_ig (h.2 i hi).1 (by rw [he]; exact (h.2 i hi).2)])]
  simp [intsOf_mapF, sz]
theorem v_does_fit (is lot : List Int) (r : Int) (hr : 0 ≤ r) (hs : Szs is) (h : Lot is.length lot) : g_does_fit [.fz (iL is), .fz (.int r), .fz (iL lot)] = some (.val (.bl (decide (sz is lot ≤ r))), []) := by
  simp [g_does_fit, m_does_fit, f_does_fit, v_check_sizes is hs.pos hs.le, v_check_room r hr, v_check_lot is lot h (h.le hs.len), v_size_there is lot h.2 (h.le hs.len)]
end K85

set_option Elab.async false
set_option linter.all false
set_option autoImplicit false
set_option maxRecDepth 100000
namespace K85
open PySem PySem.Spec PyProof.Rows L2 L2.Tl
/-! ### dicts of ints -/
/-- {k: True for k in ks} -/
def encT (ks : List Int) : D := .dct false (ks.map fun k => (.int k, .bl true))
/-- {k: g k for k in ks} -/
def encR (ks : List Int) (g : Int → D) : D := .dct false (ks.map fun k => (.int k, g k))
def insT (ks : List Int) (k : Int) : List Int := if k ∈ ks then ks else ks ++ [k]
theorem mem_insT {ks : List Int} {k x : Int} : x ∈ insT ks k ↔ x ∈ ks ∨ x = k := by
  unfold insT
  split
  · constructor
    · exact .inl
    · rintro (h | rfl)
      · exact h
      · assumption
  · simp
theorem nd_insT {ks : List Int} {k : Int} (h : ks.Nodup) : (insT ks k).Nodup := by
  unfold insT
  split
  · exact h
  · rename_i hk
    exact List.nodup_append.mpr ⟨h, by simp, fun a ha b hb e => by simp at hb; subst hb; subst e; exact hk ha⟩
theorem len_insT (ks : List Int) (k : Int) : (insT ks k).length ≤ ks.length + 1 := by
  unfold insT
  split <;> simp
@[simp] theorem kEq_int (i j : Int) : kEq (.int i) (.int j) = decide (i = j) := kEq_kD (.inl i) (.inl j) |>.trans (by simp)
theorem any_key (ks : List Int) (g : Int → D) (k : Int) : ((ks.map fun x => (D.int x, g x)).any fun kv => kEq kv.1 (.int k)) = decide (k ∈ ks) := by
  induction ks with
  | nil => simp
  | cons x ks ih =>
    simp only [List.map_cons, List.any_cons, kEq_int, ih]
    by_cases h : x = k
    · subst h; simp
    · simp [h, Ne.symm h]
theorem kvPut_T (ks : List Int) (k : Int) : kvPut (ks.map fun x => (D.int x, D.bl true)) (.int k) (.bl true) = (insT ks k).map fun x => (D.int x, D.bl true) := by
  unfold kvPut insT
  rw [any_key ks (fun _ => .bl true)]
  by_cases h : k ∈ ks
  · rw [if_pos (by simpa using h), if_pos h, List.map_map]
    refine List.map_congr_left fun x _ => ?_
    simp only [Function.comp]
    split <;> rfl
  · rw [if_neg (by simpa using h), if_neg h]
    simp
theorem dSto_T {ks : List Int} {k : Int} (h : ks.length < sizeLine) : dSto (encT ks) (.int k) (.bl true) = some (encT (insT ks k)) := by
  show (if isKey false (.int k) = true ∧ (ks.map fun k => (D.int k, D.bl true)).length < sizeLine then some (D.dct false (kvPut (ks.map fun k => (D.int k, D.bl true)) (.int k) (.bl true))) else none) = _
  rw [if_pos ⟨rfl, by simpa using h⟩, kvPut_T]
  rfl
theorem kvGet_R (ks : List Int) (g : Int → D) (k : Int) : kvGet (ks.map fun x => (D.int x, g x)) (.int k) = if k ∈ ks then some (g k) else none := by
  unfold kvGet
  induction ks with
  | nil => simp
  | cons x ks ih =>
    simp only [List.map_cons, List.find?_cons, kEq_int]
    by_cases h : x = k
    · subst h; simp
    · simp [h, Ne.symm h]
      simpa using ih
theorem dIx_R {ks : List Int} {g : Int → D} {k : Int} (h : k ∈ ks) : dIx (encR ks g) (.int k) = some (.val (g k)) := by
  show (if isKey false (.int k) = true then (kvGet (ks.map fun x => (D.int x, g x)) (.int k)).map OV.val else none) = _
  rw [if_pos (show isKey false (.int k) = true from rfl), kvGet_R, if_pos h]
  rfl
theorem kvMerge_nd (g : Int → D) : ∀ (ks : List Int) (done : List Int), (done ++ ks).Nodup → kvMerge (done.map fun x => (D.int x, g x)) (ks.map fun x => (D.int x, g x)) = (done ++ ks).map fun x => (D.int x, g x)
  | [], done, _ => by simp [kvMerge]
  | k :: ks, done, h => by
    have hk : k ∉ done := fun hm => by
      have := (List.nodup_append.mp h).2.2 k hm k (by simp)
      exact this rfl
    have e : kvPut (done.map fun x => (D.int x, g x)) (.int k) (g k) = (done ++ [k]).map fun x => (D.int x, g x) := by
      unfold kvPut
      rw [any_key, if_neg (by simpa using hk)]
      simp
    show kvMerge (kvPut _ _ _) _ = _
    rw [e, kvMerge_nd g ks (done ++ [k]) (by simpa using h)]
    simp
theorem kvMerge_R {ks : List Int} (g : Int → D) (h : ks.Nodup) : kvMerge [] (ks.map fun x => (D.int x, g x)) = ks.map fun x => (D.int x, g x) := by
  simpa using kvMerge_nd g ks [] (by simpa using h)
@[simp] theorem seqOf_T (ks : List Int) : seqOf (encT ks) = some (ks.map .int) := by
  simp [encT, seqOf]
@[simp] theorem seqOf_R (ks : List Int) (g : Int → D) : seqOf (encR ks g) = some (ks.map .int) := by
  simp [encR, seqOf]
/-! ### the rooms that are asked for -/
def stepK (size : Int) (acc : List Int) (left : Int) : List Int := if size ≤ left then insT (insT acc left) (left - size) else insT acc left
def nextK (size : Int) (ks : List Int) : List Int := ks.foldl (stepK size) []
theorem nd_stepK {size left : Int} {acc : List Int} (h : acc.Nodup) : (stepK size acc left).Nodup := by
  unfold stepK
  split
  · exact nd_insT (nd_insT h)
  · exact nd_insT h
theorem len_stepK (size left : Int) (acc : List Int) : (stepK size acc left).length ≤ acc.length + 2 := by
  unfold stepK
  split
  · have := len_insT acc left; have := len_insT (insT acc left) (left - size); omega
  · have := len_insT acc left; omega
theorem foldK {size : Int} : ∀ (ks acc : List Int), acc.Nodup → (ks.foldl (stepK size) acc).Nodup ∧ (ks.foldl (stepK size) acc).length ≤ acc.length + 2 * ks.length ∧
    ∀ x, x ∈ ks.foldl (stepK size) acc ↔ x ∈ acc ∨ x ∈ ks ∨ (x + size ∈ ks ∧ 0 ≤ x)
  | [], acc, h => ⟨h, by simp, fun x => by simp⟩
  | k :: ks, acc, h => by
    obtain ⟨a, b, c⟩ := foldK (size := size) ks (stepK size acc k) (nd_stepK h)
    refine ⟨a, ?_, fun x => ?_⟩
    · have := len_stepK size k acc
      simp only [List.foldl_cons, List.length_cons]
      omega
    · simp only [List.foldl_cons, c, List.mem_cons]
      unfold stepK
      split
      · rename_i hs
        rw [mem_insT, mem_insT]
        constructor
        · rintro (((h | rfl) | rfl) | h | h)
          · exact .inl h
          · exact .inr (.inl (.inl rfl))
          · exact .inr (.inr ⟨.inl (by omega), by omega⟩)
          · exact .inr (.inl (.inr h))
          · exact .inr (.inr ⟨.inr h.1, h.2⟩)
        · rintro (h | (rfl | h) | ⟨h | h, h0⟩)
          · exact .inl (.inl (.inl h))
          · exact .inl (.inl (.inr rfl))
          · exact .inr (.inl h)
          · exact .inl (.inr (by omega))
          · exact .inr (.inr ⟨h, h0⟩)
      · rename_i hs
        rw [mem_insT]
        constructor
        · rintro ((h | rfl) | h | h)
          · exact .inl h
          · exact .inr (.inl (.inl rfl))
          · exact .inr (.inl (.inr h))
          · exact .inr (.inr ⟨.inr h.1, h.2⟩)
        · rintro (h | (rfl | h) | ⟨h | h, h0⟩)
          · exact .inl (.inl h)
          · exact .inl (.inr rfl)
          · exact .inr (.inl h)
          · omega
          · exact .inr (.inr ⟨h, h0⟩)
theorem nextK_mem {size : Int} {ks : List Int} {x : Int} : x ∈ nextK size ks ↔ x ∈ ks ∨ (x + size ∈ ks ∧ 0 ≤ x) := by
  have := (foldK (size := size) ks [] .nil).2.2 x
  simpa [nextK] using this
theorem nextK_nd (size : Int) (ks : List Int) : (nextK size ks).Nodup := (foldK (size := size) ks [] .nil).1
theorem nextK_len (size : Int) (ks : List Int) : (nextK size ks).length ≤ 2 * ks.length := by simpa [nextK] using (foldK (size := size) ks [] .nil).2.1
end K85

set_option Elab.async false
set_option linter.all false
set_option autoImplicit false
set_option maxRecDepth 100000
namespace K85
open PySem PySem.Spec PyProof.Rows L2 L2.Tl
/-! ### counts from below: count_from -/
/-- the lots of l that fit x -/
def nle : List Int → Int → Nat
  | [], _ => 1
  | s :: l, x => nle l x + if s ≤ x then nle l (x - s) else 0
def askedK : List Int → List Int → List (List Int)
  | [], ks => [ks]
  | s :: l, ks => ks :: askedK l (nextK s ks)
def plO (z : Option SV) : Bool := match z with
  | some (.own _) => false
  | some (.inp _) => false
  | _ => true
theorem plO_cases {z : Option SV} (h : plO z = true) : z = none ∨ ∃ d, z = some (.fz d) := by
  cases z with
  | none => exact .inl rfl
  | some x => cases x with
    | fz d => exact .inr ⟨d, rfl⟩
    | own d => cases h
    | inp d => cases h
theorem cf_in (a0 a1 a2 a3 a4 a8 a9 : Option SV) (size : Int) : ∀ (ks acc : List Int) (l : Option SV), plO l = true → acc.length + 2 * ks.length ≤ 1000000 → ∃ l', plO l' = true ∧ loopM (.nm 7) (sSeq (sSto 6 (fVar 7) (fC (.bl true)))
    (sIf (fT (fV (fOp2 dLe (fVar 5) (fVar 7)))) (sSto 6 (fV (fOp2 dSub (fVar 7) (fVar 5))) (fC (.bl true))) (sNext))) (ks.map .int) [a0, a1, a2, a3, a4, some (.fz (.int size)), some (.own (encT acc)), l, a8, a9] =
      some (.next, [a0, a1, a2, a3, a4, some (.fz (.int size)), some (.own (encT (ks.foldl (stepK size) acc))), l', a8, a9])
  | [], acc, l, hp, _ => ⟨l, hp, rfl⟩
  | k :: ks, acc, l, hp, h => by
    have h1 : acc.length < sizeLine := by rw [sizeLine_eq]; simp at h; omega
    have h2 : (insT acc k).length < sizeLine := by have := len_insT acc k; rw [sizeLine_eq]; simp at h; omega
    have h3 := len_stepK size k acc
    obtain ⟨l', hp', e⟩ := cf_in a0 a1 a2 a3 a4 a8 a9 size ks (stepK size acc k) (some (.fz (.int k))) rfl (by simp at h; omega)
    refine ⟨l', hp', ?_⟩
    rw [List.map_cons, List.foldl_cons, ← e]
    by_cases hs : size ≤ k
    · simp [loopM, dSto_T h1, dSto_T h2, hs, stepK]
    · simp [loopM, dSto_T h1, hs, stepK]
theorem cf_out (a0 a1 a2 a3 a8 a9 : Option SV) : ∀ (l : List Int) (done : List D) (ks : List Int) (x y z : Option SV), plO z = true → ks.length * 2 ^ l.length ≤ 1000 → done.length + l.length ≤ 1000 → ∃ x' y' z', plO z' = true ∧ loopM (.nm 5) (sSeq (sOwn 6 (fDct0 false))
    (sSeq (sFor (.nm 7) (fiOf seqOf (fV (fOp2 dIx (fVar 4) (fNeg (fC (.int 1)))))) (sSeq (sSto 6 (fVar 7) (fC (.bl true)))
    (sIf (fT (fV (fOp2 dLe (fVar 5) (fVar 7)))) (sSto 6 (fV (fOp2 dSub (fVar 7) (fVar 5))) (fC (.bl true))) (sNext))))
    (sEx (fMut isL 4 gApp (fA (fVar 6) (fA0)))))) (l.map .int) [a0, a1, a2, a3, some (.own (.lst (done ++ [encT ks]))), x, y, z, a8, a9] =
      some (.next, [a0, a1, a2, a3, some (.own (.lst (done ++ (askedK l ks).map encT))), x', y', z', a8, a9])
  | [], done, ks, x, y, z, hq, _, _ => ⟨x, y, z, hq, rfl⟩
  | s :: l, done, ks, x, y, z, hq, h, hd => by
    have hp : 1 ≤ 2 ^ l.length := Nat.one_le_two_pow
    have hk : ks.length * 1 ≤ 1000 := by
      refine Nat.le_trans (Nat.mul_le_mul_left _ ?_) h
      exact Nat.one_le_two_pow
    obtain ⟨l', hq', e1⟩ := cf_in a0 a1 a2 a3 (some (.own (.lst (done ++ [encT ks])))) a8 a9 s ks [] z hq (by simp; omega)
    have e2 : atI (done ++ [encT ks]) (-1) = some (encT ks) := atI_last (by simp)
    have h4 : (nextK s ks).length * 2 ^ l.length ≤ 1000 := by
      have := nextK_len s ks
      simp only [List.length_cons, Nat.pow_succ] at h
      calc (nextK s ks).length * 2 ^ l.length ≤ (2 * ks.length) * 2 ^ l.length := Nat.mul_le_mul_right _ this
        _ = ks.length * (2 ^ l.length * 2) := by rw [Nat.mul_comm 2, Nat.mul_assoc, Nat.mul_comm 2]
        _ ≤ 1000 := h
    obtain ⟨x', y', z', hq2, e3⟩ := cf_out a0 a1 a2 a3 a8 a9 l (done ++ [encT ks]) (nextK s ks) (some (.fz (.int s))) (some (.fz (encT (nextK s ks)))) l' hq' h4 (by simp at hd ⊢; omega)
    refine ⟨x', y', z', hq2, ?_⟩
    have hz : (done ++ [encT ks]).length < sizeLine := by rw [sizeLine_eq]; simp at hd ⊢; omega
    have e4 : encT [] = .dct false [] := rfl
    rw [e4] at e1
    rw [List.map_cons]
    simp [loopM, e2, e1, isL, gApp]
    rw [if_pos (by simpa using hz)]
    simp
    simpa [askedK, nextK] using e3
end K85
namespace K85
open PySem PySem.Spec PyProof.Rows L2 L2.Tl
theorem rngD_down (k : Nat) : rngD (k : Int) (-1) (k + 1) = .int k :: rngD ((k : Int) - 1) (-1) k := by
  unfold rngD
  rw [List.range_succ_eq_map, List.map_cons, List.map_map]
  have h1 : (D.int ((k : Int) + ((0 : Nat) : Int) * -1)) = .int k := by simp
  rw [h1]
  refine congrArg _ (List.map_congr_left fun i _ => ?_)
  show D.int _ = D.int _
  congr 1
  push_cast
  omega
def rowsK : List Int → List Int → List D
  | [], ks => [encR ks fun _ => .int 1]
  | s :: l, ks => encR ks (fun x => .int (nle (s :: l) x)) :: rowsK l (nextK s ks)
theorem askedK_length : ∀ (l ks : List Int), (askedK l ks).length = l.length + 1
  | [], _ => rfl
  | s :: l, ks => by simp [askedK, askedK_length l]
theorem rowsK_length : ∀ (l ks : List Int), (rowsK l ks).length = l.length + 1
  | [], _ => rfl
  | s :: l, ks => by simp [rowsK, rowsK_length l]
/-- the rows behind a place -/
theorem down_at : ∀ (l ks : List Int) (k : Nat), k < l.length → ∃ s K, l[k]? = some s ∧ (askedK l ks)[k]? = some K ∧ (rowsK l ks).drop (k + 1) = rowsK (l.drop (k + 1)) (nextK s K) ∧ (rowsK l ks).drop k = encR K (fun x => .int (nle (s :: l.drop (k + 1)) x)) :: rowsK (l.drop (k + 1)) (nextK s K)
  | [], _, _, h => by simp at h
  | s :: l, ks, 0, _ => ⟨s, ks, rfl, rfl, rfl, rfl⟩
  | s :: l, ks, k + 1, h => by
    obtain ⟨s', K, a, b, c, d⟩ := down_at l (nextK s ks) k (by simpa using h)
    exact ⟨s', K, by simpa using a, by simpa [askedK] using b, by simpa [rowsK] using c, by simpa [rowsK] using d⟩
theorem rowsK_head (l ks : List Int) : (rowsK l ks)[0]? = some (encR ks fun x => .int (nle l x)) := by
  cases l <;> rfl
theorem cf_down (a1 a3 : Option SV) (l ks : List Int) (hl : l.length ≤ 8) (hk : ∀ K ∈ askedK l ks, K.length ≤ 1000 ∧ K.Nodup) : ∀ (k : Nat) (x y z u v : Option SV), plO z = true → k ≤ l.length → ∃ x' y' z' u' v', loopM (.nm 8) (sSeq (sPar [5, 9] (fP (fO (fV (fOp2 dIx (fVar 0) (fVar 8)))) (fP (fO (fV (fOp2 dIx (fVar 2) (fV (fOp2 dAdd (fVar 8) (fC (.int 1))))))) (fP0))))
    (sSto 2 (fVar 8) (fV (fDc [7] (fiOf seqOf (fV (fOp2 dIx (fVar 4) (fVar 8)))) (.nm 7) (fYes) (fVar 7) (fV (fOp2 dAdd (fV (fOp2 dIx (fVar 9) (fVar 7))) (fV (fIfN (fT (fV (fOp2 dLe (fVar 5) (fVar 7)))) (fOp2 dIx (fVar 9) (fV (fOp2 dSub (fVar 7) (fVar 5)))) (fO (fC (.int 0)))))))))))
    (rngD ((k : Int) - 1) (-1) k) [some (.fz (iL l)), a1, some (.own (.lst (List.replicate k (.dct false []) ++ (rowsK l ks).drop k))), a3, some (.own (.lst ((askedK l ks).map encT))), x, y, z, u, v] =
      some (.next, [some (.fz (iL l)), a1, some (.own (.lst (rowsK l ks))), a3, some (.own (.lst ((askedK l ks).map encT))), x', y', z', u', v'])
  | 0, x, y, z, u, v, _, _ => ⟨x, y, z, u, v, by simp [rngD, loopM]⟩
  | k + 1, x, y, z, u, v, hz, h => by
    obtain ⟨s, K, h1, h2, h3, h4⟩ := down_at l ks k h
    have hK := hk K (List.mem_of_getElem? h2)
    obtain ⟨x', y', z', u', v', e⟩ := cf_down a1 a3 l ks hl hk k (some (.fz (.int s))) y z (some (.fz (.int k))) (some (.fz (encR (nextK s K) fun x => .int (nle (l.drop (k + 1)) x)))) hz (Nat.le_of_succ_le h)
    refine ⟨x', y', z', u', v', ?_⟩
    have e1 : atI (l.map D.int) (k : Int) = some (.int s) := atK (by simp [h1])
    have e2 : atI (List.replicate (k + 1) (D.dct false []) ++ (rowsK l ks).drop (k + 1)) ((k : Int) + 1) = some (encR (nextK s K) fun x => .int (nle (l.drop (k + 1)) x)) := by
      have : ((k : Int) + 1) = ((k + 1 : Nat) : Int) := by push_cast; rfl
      rw [this]
      refine atK ?_
      rw [List.getElem?_append_right (by simp), h3]
      simpa using rowsK_head (l.drop (k + 1)) (nextK s K)
    have e3 : atI ((askedK l ks).map encT) (k : Int) = some (encT K) := atK (by simp [h2])
    rw [show ((k + 1 : Nat) : Int) - 1 = k by push_cast; omega, rngD_down]
    have hmem : ∀ q ∈ K, q ∈ nextK s K ∧ (s ≤ q → q - s ∈ nextK s K) := fun q hq => ⟨nextK_mem.mpr (.inl hq), fun hs => nextK_mem.mpr (.inr ⟨by simpa using hq, by omega⟩)⟩
    have hdc := fun (L : D) => dcM_mapF (vs := [7]) (t := .nm 7) (c := fYes) (fk := fVar 7) (fv := fV (fOp2 dAdd (fV (fOp2 dIx (fVar 9) (fVar 7))) (fV (fIfN (fT (fV (fOp2 dLe (fVar 5) (fVar 7)))) (fOp2 dIx (fVar 9) (fV (fOp2 dSub (fVar 7) (fVar 5)))) (fO (fC (.int 0)))))))
      (δ := [some (.fz (iL l)), a1, some (.own L), a3, some (.own (.lst ((askedK l ks).map encT))), some (.fz (.int s)), y, none, some (.fz (.int k)), some (.fz (encR (nextK s K) fun x => .int (nle (l.drop (k + 1)) x)))])
      D.int (fun q => (.int q, .int (nle (s :: l.drop (k + 1)) q))) (xs := K) (acc := []) (fun q hq => by
        obtain ⟨m1, m2⟩ := hmem q hq
        by_cases hs : s ≤ q
        · simp [dcTurn, dIx_R m1, hs, dIx_R (m2 hs), isKey1, nle]
        · simp [dcTurn, dIx_R m1, hs, isKey1, nle])
    have hset : (List.replicate (k + 1) (D.dct false []) ++ (rowsK l ks).drop (k + 1)).set k (encR K fun x => .int (nle (s :: l.drop (k + 1)) x)) = List.replicate k (D.dct false []) ++ (rowsK l ks).drop k := by
      rw [h4, h3, List.replicate_succ', List.append_assoc, List.set_append_right _ _ (by simp)]
      simp
    have hKl : K.length ≤ sizeLine := Nat.le_trans hK.1 (by rw [sizeLine_eq]; decide)
    have hm := kvMerge_R (fun q => .int (nle (s :: l.drop (k + 1)) q)) hK.2
    have hix : ixN ((List.replicate (k + 1) (D.dct false []) ++ (rowsK l ks).drop (k + 1)).length) (k : Int) = some k := by
      unfold ixN
      rw [if_pos (Int.natCast_nonneg k), if_pos (by simp; omega)]
      simp
    have hsto : dSto (.lst (List.replicate (k + 1) (D.dct false []) ++ (rowsK l ks).drop (k + 1))) (.int k) (.dct false (K.map fun q => (D.int q, D.int (nle (s :: l.drop (k + 1)) q)))) = some (.lst (List.replicate k (D.dct false []) ++ (rowsK l ks).drop k)) := by
      show (ixN _ (k : Int)).map _ = _
      rw [hix]
      simp only [Option.map_some]
      rw [← hset]
      rfl
    rcases plO_cases hz with rfl | ⟨dz, rfl⟩
    · simp [loopM, e1, e2, e3, hKl, hdc, hm, hsto]
      simpa using e
    · simp [loopM, e1, e2, e3, hKl, hdc, hm, hsto]
      simpa using e
end K85
namespace K85
open PySem PySem.Spec PyProof.Rows L2 L2.Tl
theorem askedK_ok : ∀ (l ks : List Int), ks.Nodup → ∀ K ∈ askedK l ks, K.length ≤ ks.length * 2 ^ l.length ∧ K.Nodup
  | [], ks, h, K, hK => by
    simp [askedK] at hK
    subst hK
    exact ⟨by simp, h⟩
  | s :: l, ks, h, K, hK => by
    simp only [askedK, List.mem_cons] at hK
    rcases hK with rfl | hK
    · refine ⟨?_, h⟩
      have : 1 ≤ 2 ^ (s :: l).length := Nat.one_le_two_pow
      exact Nat.le_mul_of_pos_right _ this
    · obtain ⟨a, b⟩ := askedK_ok l (nextK s ks) (nextK_nd s ks) K hK
      refine ⟨Nat.le_trans a ?_, b⟩
      have := nextK_len s ks
      simp only [List.length_cons, Nat.pow_succ]
      calc (nextK s ks).length * 2 ^ l.length ≤ (2 * ks.length) * 2 ^ l.length := Nat.mul_le_mul_right _ this
        _ = ks.length * (2 ^ l.length * 2) := by rw [Nat.mul_comm 2, Nat.mul_assoc, Nat.mul_comm 2]
theorem pow8 {n : Nat} (h : n ≤ 8) : 2 ^ n ≤ 256 := by
  have : 2 ^ n ≤ 2 ^ 8 := Nat.pow_le_pow_right (by decide) h
  simpa using this
theorem askedK_last (l ks : List Int) : ∃ K, (askedK l ks).getLast? = some K ∧ (rowsK l ks).drop l.length = [encR K fun _ => .int 1] := by
  induction l generalizing ks with
  | nil => exact ⟨ks, rfl, rfl⟩
  | cons s l ih =>
    obtain ⟨K, a, b⟩ := ih (nextK s ks)
    refine ⟨K, ?_, by simpa [rowsK] using b⟩
    have : askedK l (nextK s ks) ≠ [] := fun z => by rw [z] at a; cases a
    rw [askedK, List.getLast?_cons, a]
    rfl
theorem v_count_from (is : List Int) (r : Int) (hs : Szs is) : g_count_from [.fz (iL is), .fz (.int r)] = some (.new (.lst (rowsK is [r])), []) := by
  have hl := hs.len
  have hp := pow8 hl
  have hok : ∀ K ∈ askedK is [r], K.length ≤ 1000 ∧ K.Nodup := fun K hK => by
    obtain ⟨a, b⟩ := askedK_ok is [r] (by simp) K hK
    exact ⟨by simp at a; omega, b⟩
  have e0 : D.dct false (kvMerge [] [(.int r, .bl true)]) = encT [r] := rfl
  have h8 : is.length ≤ 16777216 := by omega
  have h9 : is.length + 1 ≤ 16777216 := by omega
  obtain ⟨x', y', z', hq, e1⟩ := cf_out (some (.fz (iL is))) (some (.fz (.int r))) (some (.own (.lst (is.map (fun _ => D.dct false []) ++ [.dct false []])))) none none none is [] [r] none none none rfl (by simp; omega) (by simp; omega)
  obtain ⟨K, k1, k2⟩ := askedK_last is [r]
  have e2 : atI ((askedK is [r]).map encT) (-1) = some (encT K) := atI_last (by simp [k1])
  simp [g_count_from, m_count_from, f_count_from, sizeLine_eq, h8]
  rw [lcM_mapF D.int (fun i => .dct false []) (fun i _ => by simp [lcTurn])]
  simp at e1
  have hK := hok K (List.mem_of_getLast? k1)
  have hK2 : K.length ≤ 16777216 := by omega
  have hdc := fun (a b c d e f g h i : Option SV) => dcM_mapF (vs := [7]) (t := .nm 7) (c := fYes) (fk := fVar 7) (fv := fC (.int 1)) (δ := [a, b, c, d, e, f, g, none, h, i]) D.int (fun q => (.int q, .int 1)) (xs := K) (acc := []) (fun q hq => by simp [dcTurn])
  have hm := kvMerge_R (fun _ => .int 1) hK.2
  have hsto : dSto (.lst (is.map (fun _ => D.dct false []) ++ [D.dct false []])) (.int is.length) (.dct false (K.map fun q => (D.int q, D.int 1))) = some (.lst (List.replicate is.length (D.dct false []) ++ (rowsK is [r]).drop is.length)) := by
    show (ixN _ (is.length : Int)).map _ = _
    rw [k2]
    have : ixN (is.map (fun _ => D.dct false []) ++ [D.dct false []]).length (is.length : Int) = some is.length := by
      unfold ixN
      rw [if_pos (Int.natCast_nonneg _), if_pos (by simp; omega)]
      simp
    rw [this]
    simp only [Option.map_some]
    rw [List.set_append_right _ _ (by simp)]
    simp [encR, List.map_const']
  have hb1 : b62 ((is.length : Int) - 1) = true := b62_of (by omega) (by omega)
  have hb2 : b62 (-1) = true := b62_of (by omega) (by omega)
  have ht : ((is.length : Int) - 1 - -1).toNat = is.length := by omega
  obtain ⟨x2, y2, z2, u2, v2, e3⟩ := cf_down (some (.fz (.int r))) none is [r] hl hok is.length x' y' z' none none hq (Nat.le_refl _)
  rcases plO_cases hq with rfl | ⟨dz, rfl⟩
  · simp [sizeLine_eq, h9, e0, e1, e2, hK2, hdc, hm, hsto, hb1, hb2, ht, e3]
  · simp [sizeLine_eq, h9, e0, e1, e2, hK2, hdc, hm, hsto, hb1, hb2, ht, e3]
end K85

set_option Elab.async false
set_option linter.all false
set_option autoImplicit false
set_option maxRecDepth 100000
namespace K85
open PySem PySem.Spec PyProof.Rows L2 L2.Tl
theorem v_fitting_there (is : List Int) (r : Int) (hs : Szs is) : g_fitting_there [.fz (iL is), .fz (.int r)] = some (.val (.int (nle is r)), []) := by
  have h0 : atI (rowsK is [r]) 0 = some (encR [r] fun x => .int (nle is x)) := atK (k := 0) (rowsK_head is [r])
  have h1 : dIx (encR [r] fun x => .int (nle is x)) (.int r) = some (.val (.int (nle is r))) := dIx_R (by simp)
  simp [g_fitting_there, m_fitting_there, f_fitting_there, v_count_from is r hs, h0, h1]
theorem v_fitting_count (is : List Int) (r : Int) (hs : Szs is) (hr : 0 ≤ r) : g_fitting_count [.fz (iL is), .fz (.int r)] = some (.val (.int (nle is r)), []) := by
  simp [g_fitting_count, m_fitting_count, f_fitting_count, v_check_sizes is hs.pos hs.le, v_check_room r hr, v_fitting_there is r hs]
theorem nle_le : ∀ (l : List Int) (x : Int), nle l x ≤ 2 ^ l.length
  | [], _ => by simp [nle]
  | s :: l, x => by
    have a := nle_le l x
    have b := nle_le l (x - s)
    simp only [nle, List.length_cons, Nat.pow_succ]
    split <;> omega
theorem v_check_many (is : List Int) (r : Int) (hs : Szs is) : g_check_many [.fz (iL is), .fz (.int r)] = some (.val .non, []) := by
  have h := nle_le is r
  have hp := pow8 hs.len
  have h3 : ¬ (3000 < (nle is r : Int)) := by omega
  simp [g_check_many, m_check_many, f_check_many, v_fitting_there is r hs, h3]
/-! ### numbers made by lots: tails_there -/
/-- the lots of l that make x -/
def cnt : List Int → Int → Nat
  | [], x => if x = 0 then 1 else 0
  | s :: l, x => cnt l x + if s ≤ x then cnt l (x - s) else 0
def rowsW : List Int → List Int → List D
  | [], ks => [encR ks fun x => .int (cnt [] x)]
  | s :: l, ks => encR ks (fun x => .int (cnt (s :: l) x)) :: rowsW l (nextK s ks)
theorem next_pow {s : Int} {ks : List Int} {n : Nat} (h : ks.length * 2 ^ (n + 1) ≤ 1000) : (nextK s ks).length * 2 ^ n ≤ 1000 := by
  have := nextK_len s ks
  calc (nextK s ks).length * 2 ^ n ≤ (2 * ks.length) * 2 ^ n := Nat.mul_le_mul_right _ this
    _ = ks.length * (2 ^ n * 2) := by rw [Nat.mul_comm 2, Nat.mul_assoc, Nat.mul_comm 2]
    _ ≤ 1000 := by rw [← Nat.pow_succ]; exact h
theorem tw_in (a0 a1 a2 a6 a7 a8 : Option SV) (size : Int) : ∀ (ks acc : List Int) (l : Option SV), plO l = true → acc.length + 2 * ks.length ≤ 1000000 → ∃ l', plO l' = true ∧ loopM (.nm 5) (sSeq (sSto 4 (fVar 5) (fC (.bl true)))
    (sIf (fT (fV (fOp2 dLe (fVar 3) (fVar 5)))) (sSto 4 (fV (fOp2 dSub (fVar 5) (fVar 3))) (fC (.bl true))) (sNext))) (ks.map .int) [a0, a1, a2, some (.fz (.int size)), some (.own (encT acc)), l, a6, a7, a8] =
      some (.next, [a0, a1, a2, some (.fz (.int size)), some (.own (encT (ks.foldl (stepK size) acc))), l', a6, a7, a8])
  | [], acc, l, hp, _ => ⟨l, hp, rfl⟩
  | k :: ks, acc, l, hp, h => by
    have h1 : acc.length < sizeLine := by rw [sizeLine_eq]; simp at h; omega
    have h2 : (insT acc k).length < sizeLine := by have := len_insT acc k; rw [sizeLine_eq]; simp at h; omega
    have h3 := len_stepK size k acc
    obtain ⟨l', hp', e⟩ := tw_in a0 a1 a2 a6 a7 a8 size ks (stepK size acc k) (some (.fz (.int k))) rfl (by simp at h; omega)
    refine ⟨l', hp', ?_⟩
    rw [List.map_cons, List.foldl_cons, ← e]
    by_cases hs : size ≤ k
    · simp [loopM, dSto_T h1, dSto_T h2, hs, stepK]
    · simp [loopM, dSto_T h1, hs, stepK]
theorem tw_out (a0 a1 a6 a7 a8 : Option SV) : ∀ (l : List Int) (done : List D) (ks : List Int) (x y z : Option SV), plO z = true → ks.length * 2 ^ l.length ≤ 1000 → done.length + l.length ≤ 1000 → ∃ x' y' z', plO z' = true ∧ loopM (.nm 3) (sSeq (sOwn 4 (fDct0 false))
    (sSeq (sFor (.nm 5) (fiOf seqOf (fV (fOp2 dIx (fVar 2) (fNeg (fC (.int 1)))))) (sSeq (sSto 4 (fVar 5) (fC (.bl true)))
    (sIf (fT (fV (fOp2 dLe (fVar 3) (fVar 5)))) (sSto 4 (fV (fOp2 dSub (fVar 5) (fVar 3))) (fC (.bl true))) (sNext))))
    (sEx (fMut isL 2 gApp (fA (fVar 4) (fA0)))))) (l.map .int) [a0, a1, some (.own (.lst (done ++ [encT ks]))), x, y, z, a6, a7, a8] =
      some (.next, [a0, a1, some (.own (.lst (done ++ (askedK l ks).map encT))), x', y', z', a6, a7, a8])
  | [], done, ks, x, y, z, hq, _, _ => ⟨x, y, z, hq, rfl⟩
  | s :: l, done, ks, x, y, z, hq, h, hd => by
    have hp : 1 ≤ 2 ^ l.length := Nat.one_le_two_pow
    have hk : ks.length * 1 ≤ 1000 := Nat.le_trans (Nat.mul_le_mul_left _ Nat.one_le_two_pow) h
    obtain ⟨l', hq', e1⟩ := tw_in a0 a1 (some (.own (.lst (done ++ [encT ks])))) a6 a7 a8 s ks [] z hq (by simp; omega)
    have e2 : atI (done ++ [encT ks]) (-1) = some (encT ks) := atI_last (by simp)
    have h4 : (nextK s ks).length * 2 ^ l.length ≤ 1000 := next_pow h
    obtain ⟨x', y', z', hq2, e3⟩ := tw_out a0 a1 a6 a7 a8 l (done ++ [encT ks]) (nextK s ks) (some (.fz (.int s))) (some (.fz (encT (nextK s ks)))) l' hq' h4 (by simp at hd ⊢; omega)
    refine ⟨x', y', z', hq2, ?_⟩
    have hz : (done ++ [encT ks]).length < sizeLine := by rw [sizeLine_eq]; simp at hd ⊢; omega
    have e4 : encT [] = .dct false [] := rfl
    rw [e4] at e1
    rw [List.map_cons]
    simp [loopM, e2, e1]
    rw [if_pos (by simpa using hz)]
    simp
    simpa [askedK, nextK] using e3
theorem ar_in (a0 a1 a2 : Option SV) (size : Int) : ∀ (ks acc : List Int) (l : Option SV), plO l = true → acc.length + 2 * ks.length ≤ 1000000 → ∃ l', plO l' = true ∧ loopM (.nm 5) (sSeq (sSto 4 (fVar 5) (fC (.bl true)))
    (sIf (fT (fV (fOp2 dLe (fVar 3) (fVar 5)))) (sSto 4 (fV (fOp2 dSub (fVar 5) (fVar 3))) (fC (.bl true))) (sNext))) (ks.map .int) [a0, a1, a2, some (.fz (.int size)), some (.own (encT acc)), l] =
      some (.next, [a0, a1, a2, some (.fz (.int size)), some (.own (encT (ks.foldl (stepK size) acc))), l'])
  | [], acc, l, hp, _ => ⟨l, hp, rfl⟩
  | k :: ks, acc, l, hp, h => by
    have h1 : acc.length < sizeLine := by rw [sizeLine_eq]; simp at h; omega
    have h2 : (insT acc k).length < sizeLine := by have := len_insT acc k; rw [sizeLine_eq]; simp at h; omega
    have h3 := len_stepK size k acc
    obtain ⟨l', hp', e⟩ := ar_in a0 a1 a2 size ks (stepK size acc k) (some (.fz (.int k))) rfl (by simp at h; omega)
    refine ⟨l', hp', ?_⟩
    rw [List.map_cons, List.foldl_cons, ← e]
    by_cases hs : size ≤ k
    · simp [loopM, dSto_T h1, dSto_T h2, hs, stepK]
    · simp [loopM, dSto_T h1, hs, stepK]
theorem ar_out (a0 a1 : Option SV) : ∀ (l : List Int) (done : List D) (ks : List Int) (x y z : Option SV), plO z = true → ks.length * 2 ^ l.length ≤ 1000 → done.length + l.length ≤ 1000 → ∃ x' y' z', plO z' = true ∧ loopM (.nm 3) (sSeq (sOwn 4 (fDct0 false))
    (sSeq (sFor (.nm 5) (fiOf seqOf (fV (fOp2 dIx (fVar 2) (fNeg (fC (.int 1)))))) (sSeq (sSto 4 (fVar 5) (fC (.bl true)))
    (sIf (fT (fV (fOp2 dLe (fVar 3) (fVar 5)))) (sSto 4 (fV (fOp2 dSub (fVar 5) (fVar 3))) (fC (.bl true))) (sNext))))
    (sEx (fMut isL 2 gApp (fA (fVar 4) (fA0)))))) (l.map .int) [a0, a1, some (.own (.lst (done ++ [encT ks]))), x, y, z] =
      some (.next, [a0, a1, some (.own (.lst (done ++ (askedK l ks).map encT))), x', y', z'])
  | [], done, ks, x, y, z, hq, _, _ => ⟨x, y, z, hq, rfl⟩
  | s :: l, done, ks, x, y, z, hq, h, hd => by
    have hp : 1 ≤ 2 ^ l.length := Nat.one_le_two_pow
    have hk : ks.length * 1 ≤ 1000 := Nat.le_trans (Nat.mul_le_mul_left _ Nat.one_le_two_pow) h
    obtain ⟨l', hq', e1⟩ := ar_in a0 a1 (some (.own (.lst (done ++ [encT ks])))) s ks [] z hq (by simp; omega)
    have e2 : atI (done ++ [encT ks]) (-1) = some (encT ks) := atI_last (by simp)
    have h4 : (nextK s ks).length * 2 ^ l.length ≤ 1000 := next_pow h
    obtain ⟨x', y', z', hq2, e3⟩ := ar_out a0 a1 l (done ++ [encT ks]) (nextK s ks) (some (.fz (.int s))) (some (.fz (encT (nextK s ks)))) l' hq' h4 (by simp at hd ⊢; omega)
    refine ⟨x', y', z', hq2, ?_⟩
    have hz : (done ++ [encT ks]).length < sizeLine := by rw [sizeLine_eq]; simp at hd ⊢; omega
    have e4 : encT [] = .dct false [] := rfl
    rw [e4] at e1
    rw [List.map_cons]
    simp [loopM, e2, e1]
    rw [if_pos (by simpa using hz)]
    simp
    simpa [askedK, nextK] using e3
theorem v_asked_rooms (is : List Int) (r : Int) (hs : Szs is) : g_asked_rooms [.fz (iL is), .fz (.int r)] = some (.new (.lst ((askedK is [r]).map encT)), []) := by
  have hl := hs.len
  have hp := pow8 hl
  have e0 : D.dct false (kvMerge [] [(.int r, .bl true)]) = encT [r] := rfl
  have h8 : is.length ≤ 16777216 := by omega
  obtain ⟨x', y', z', hq, e1⟩ := ar_out (some (.fz (iL is))) (some (.fz (.int r))) is [] [r] none none none rfl (by simp; omega) (by simp; omega)
  simp at e1
  simp [g_asked_rooms, m_asked_rooms, f_asked_rooms, sizeLine_eq, h8, e0, e1]
end K85

set_option Elab.async false
set_option linter.all false
set_option autoImplicit false
set_option maxRecDepth 100000
namespace K85
open PySem PySem.Spec PyProof.Rows L2 L2.Tl
theorem downW_at : ∀ (l ks : List Int) (k : Nat), k < l.length → ∃ s K, l[k]? = some s ∧ (askedK l ks)[k]? = some K ∧ (rowsW l ks).drop (k + 1) = rowsW (l.drop (k + 1)) (nextK s K) ∧ (rowsW l ks).drop k = encR K (fun x => .int (cnt (s :: l.drop (k + 1)) x)) :: rowsW (l.drop (k + 1)) (nextK s K)
  | [], _, _, h => by simp at h
  | s :: l, ks, 0, _ => ⟨s, ks, rfl, rfl, rfl, rfl⟩
  | s :: l, ks, k + 1, h => by
    obtain ⟨s', K, a, b, c, d⟩ := downW_at l (nextK s ks) k (by simpa using h)
    exact ⟨s', K, by simpa using a, by simpa [askedK] using b, by simpa [rowsW] using c, by simpa [rowsW] using d⟩
theorem rowsW_head (l ks : List Int) : (rowsW l ks)[0]? = some (encR ks fun x => .int (cnt l x)) := by
  cases l <;> rfl
theorem rowsW_length : ∀ (l ks : List Int), (rowsW l ks).length = l.length + 1
  | [], _ => rfl
  | s :: l, ks => by simp [rowsW, rowsW_length l]
theorem askedW_last (l ks : List Int) : ∃ K, (askedK l ks).getLast? = some K ∧ (rowsW l ks).drop l.length = [encR K fun x => .int (cnt [] x)] := by
  induction l generalizing ks with
  | nil => exact ⟨ks, rfl, rfl⟩
  | cons s l ih =>
    obtain ⟨K, a, b⟩ := ih (nextK s ks)
    refine ⟨K, ?_, by simpa [rowsW] using b⟩
    rw [askedK, List.getLast?_cons, a]
    rfl
theorem tw_down (a1 a4 : Option SV) (l ks : List Int) (hl : l.length ≤ 8) (hk : ∀ K ∈ askedK l ks, K.length ≤ 1000 ∧ K.Nodup) : ∀ (k : Nat) (x z u v : Option SV), plO z = true → k ≤ l.length → ∃ x' z' u' v', loopM (.nm 7) (sSeq (sPar [3, 8] (fP (fO (fV (fOp2 dIx (fVar 0) (fVar 7)))) (fP (fO (fV (fOp2 dIx (fVar 6) (fC (.int 0))))) (fP0))))
    (sSet 6 (fV (fLst (fA (fV (fDc [5] (fiOf seqOf (fV (fOp2 dIx (fVar 2) (fVar 7)))) (.nm 5) (fYes) (fVar 5) (fV (fOp2 dAdd (fV (fOp2 dIx (fVar 8) (fVar 5))) (fV (fIfN (fT (fV (fOp2 dLe (fVar 3) (fVar 5)))) (fOp2 dIx (fVar 8) (fV (fOp2 dSub (fVar 5) (fVar 3)))) (fO (fC (.int 0))))))))) (fAS (fVar 6) (fA0)))))))
    (rngD ((k : Int) - 1) (-1) k) [some (.fz (iL l)), a1, some (.own (.lst ((askedK l ks).map encT))), x, a4, z, some (.fz (.lst ((rowsW l ks).drop k))), u, v] =
      some (.next, [some (.fz (iL l)), a1, some (.own (.lst ((askedK l ks).map encT))), x', a4, z', some (.fz (.lst (rowsW l ks))), u', v'])
  | 0, x, z, u, v, _, _ => ⟨x, z, u, v, by simp [rngD, loopM]⟩
  | k + 1, x, z, u, v, hz, h => by
    obtain ⟨s, K, h1, h2, h3, h4⟩ := downW_at l ks k h
    have hK := hk K (List.mem_of_getElem? h2)
    obtain ⟨x', z', u', v', e⟩ := tw_down a1 a4 l ks hl hk k (some (.fz (.int s))) z (some (.fz (.int k))) (some (.fz (encR (nextK s K) fun x => .int (cnt (l.drop (k + 1)) x)))) hz (Nat.le_of_succ_le h)
    refine ⟨x', z', u', v', ?_⟩
    have e1 : atI (l.map D.int) (k : Int) = some (.int s) := atK (by simp [h1])
    have e2 : atI ((rowsW l ks).drop (k + 1)) 0 = some (encR (nextK s K) fun x => .int (cnt (l.drop (k + 1)) x)) := by
      rw [h3]
      exact atK (k := 0) (rowsW_head _ _)
    have e3 : atI ((askedK l ks).map encT) (k : Int) = some (encT K) := atK (by simp [h2])
    rw [show ((k + 1 : Nat) : Int) - 1 = k by push_cast; omega, rngD_down]
    have hmem : ∀ q ∈ K, q ∈ nextK s K ∧ (s ≤ q → q - s ∈ nextK s K) := fun q hq => ⟨nextK_mem.mpr (.inl hq), fun hs => nextK_mem.mpr (.inr ⟨by simpa using hq, by omega⟩)⟩
    have hdc := fun (L : D) => dcM_mapF (vs := [5]) (t := .nm 5) (c := fYes) (fk := fVar 5) (fv := fV (fOp2 dAdd (fV (fOp2 dIx (fVar 8) (fVar 5))) (fV (fIfN (fT (fV (fOp2 dLe (fVar 3) (fVar 5)))) (fOp2 dIx (fVar 8) (fV (fOp2 dSub (fVar 5) (fVar 3)))) (fO (fC (.int 0)))))))
      (δ := [some (.fz (iL l)), a1, some (.own (.lst ((askedK l ks).map encT))), some (.fz (.int s)), a4, none, some (.fz L), some (.fz (.int k)), some (.fz (encR (nextK s K) fun x => .int (cnt (l.drop (k + 1)) x)))])
      D.int (fun q => (.int q, .int (cnt (s :: l.drop (k + 1)) q))) (xs := K) (acc := []) (fun q hq => by
        obtain ⟨m1, m2⟩ := hmem q hq
        by_cases hs : s ≤ q
        · simp [dcTurn, dIx_R m1, hs, dIx_R (m2 hs), cnt]
        · simp [dcTurn, dIx_R m1, hs, cnt])
    have hm := kvMerge_R (fun q => .int (cnt (s :: l.drop (k + 1)) q)) hK.2
    have hKl : K.length ≤ 16777216 := by omega
    have hlen : (rowsW l ks).length - (k + 1) + 1 ≤ 16777216 := by rw [rowsW_length]; omega
    have h4' : (rowsW l ks).drop k = D.dct false (K.map fun q => (D.int q, D.int (cnt (s :: l.drop (k + 1)) q))) :: (rowsW l ks).drop (k + 1) := by rw [h4, h3]; rfl
    rw [h4'] at e
    rcases plO_cases hz with rfl | ⟨dz, rfl⟩
    · simp [loopM, e1, e2, e3, hKl, hdc, hm, sizeLine_eq, fAS, hlen]
      simpa using e
    · simp [loopM, e1, e2, e3, hKl, hdc, hm, sizeLine_eq, fAS, hlen]
      simpa using e
theorem v_tails_there (is : List Int) (r : Int) (hs : Szs is) : g_tails_there [.fz (iL is), .fz (.int r)] = some (.val (.lst (rowsW is [r])), []) := by
  have hl := hs.len
  have hp := pow8 hl
  have hok : ∀ K ∈ askedK is [r], K.length ≤ 1000 ∧ K.Nodup := fun K hK => by
    obtain ⟨a, b⟩ := askedK_ok is [r] (by simp) K hK
    exact ⟨by simp at a; omega, b⟩
  have e0 : D.dct false (kvMerge [] [(.int r, .bl true)]) = encT [r] := rfl
  have h8 : is.length ≤ 16777216 := by omega
  obtain ⟨x', y', z', hq, e1⟩ := tw_out (some (.fz (iL is))) (some (.fz (.int r))) none none none is [] [r] none none none rfl (by simp; omega) (by simp; omega)
  obtain ⟨K, k1, k2⟩ := askedW_last is [r]
  have e2 : atI ((askedK is [r]).map encT) (-1) = some (encT K) := atI_last (by simp [k1])
  simp at e1
  have hK := hok K (List.mem_of_getLast? k1)
  have hK2 : K.length ≤ 16777216 := by omega
  have hdc := fun (a b c d e f g h : Option SV) => dcM_mapF (vs := [5]) (t := .nm 5) (c := fYes) (fk := fVar 5) (fv := fV (fBl gInt (fQ (fV (fOp2 dEq (fVar 5) (fC (.int 0)))) (fQ0)))) (δ := [a, b, c, d, e, none, f, g, h]) D.int (fun q => (.int q, .int (cnt [] q))) (xs := K) (acc := []) (fun q hq => by
    by_cases h0 : q = 0
    · simp [dcTurn, cnt, h0]
    · simp [dcTurn, cnt, h0])
  have hm := kvMerge_R (fun q => .int (cnt [] q)) hK.2
  have k3 : [D.dct false (K.map fun q => (D.int q, D.int (cnt [] q)))] = (rowsW is [r]).drop is.length := by rw [k2]; rfl
  have hlen : (rowsW is [r]).length ≤ 16777216 + is.length := by rw [rowsW_length]; omega
  have hb1 : b62 ((is.length : Int) - 1) = true := b62_of (by omega) (by omega)
  have hb2 : b62 (-1) = true := b62_of (by omega) (by omega)
  have ht : ((is.length : Int) - 1 - -1).toNat = is.length := by omega
  obtain ⟨x2, z2, u2, v2, e3⟩ := tw_down (some (.fz (.int r))) y' is [r] hl hok is.length x' z' none none hq (Nat.le_refl _)
  rcases plO_cases hq with rfl | ⟨dz, rfl⟩
  · simp [g_tails_there, m_tails_there, f_tails_there, sizeLine_eq, h8, e0, e1, e2, hK2, hdc, hm, k3, hlen, hb1, hb2, ht, e3]
  · simp [g_tails_there, m_tails_there, f_tails_there, sizeLine_eq, h8, e0, e1, e2, hK2, hdc, hm, k3, hlen, hb1, hb2, ht, e3]
theorem cnt_zero : ∀ (l : List Int) (x : Int), (∀ i ∈ l, 1 ≤ i) → l.sum < x → cnt l x = 0
  | [], x, _, h => by simp at h; simp [cnt]; omega
  | s :: l, x, hp, h => by
    have h1 := hp s (by simp)
    simp only [List.sum_cons] at h
    simp only [cnt]
    rw [cnt_zero l x (fun i hi => hp i (List.mem_cons_of_mem _ hi)) (by omega)]
    split
    · rw [cnt_zero l (x - s) (fun i hi => hp i (List.mem_cons_of_mem _ hi)) (by omega)]
    · rfl
theorem v_ways_there (is : List Int) (r : Int) (hs : Szs is) : g_ways_there [.fz (iL is), .fz (.int r)] = some (.val (.int (cnt is r)), []) := by
  have h0 : atI (rowsW is [r]) 0 = some (encR [r] fun x => .int (cnt is x)) := atK (k := 0) (rowsW_head is [r])
  have h1 : dIx (encR [r] fun x => .int (cnt is x)) (.int r) = some (.val (.int (cnt is r))) := dIx_R (by simp)
  by_cases h : r ≤ is.sum
  · simp [g_ways_there, m_ways_there, f_ways_there, v_tails_there is r hs, h0, h1, h]
  · simp [g_ways_there, m_ways_there, f_ways_there, v_tails_there is r hs, h0, h1, h, cnt_zero is r hs.pos (by omega)]
theorem v_ways_to (is : List Int) (r : Int) (hs : Szs is) (hr : 0 ≤ r) : g_ways_to [.fz (iL is), .fz (.int r)] = some (.val (.int (cnt is r)), []) := by
  simp [g_ways_to, m_ways_to, f_ways_to, g_check_number, m_check_number, f_check_number, v_check_sizes is hs.pos hs.le, v_is_count, hr, v_ways_there is r hs]
end K85

set_option Elab.async false
set_option linter.all false
set_option autoImplicit false
set_option maxRecDepth 100000
namespace K85
open PySem PySem.Spec PyProof.Rows L2 L2.Tl
/-! ### counts_there -/
/-- a list by its places -/
def fL (m : Nat) (c : Nat → Nat) : List D := (List.range m).map fun i => .int (c i)
theorem fL_length (m : Nat) (c : Nat → Nat) : (fL m c).length = m := by simp [fL]
theorem fL_at {m i : Nat} (c : Nat → Nat) (h : i < m) : atI (fL m c) (i : Int) = some (.int (c i)) := atK (by simp [fL, h])
theorem fL_set {m i : Nat} (c : Nat → Nat) (v : Nat) (h : i < m) : dSto (.lst (fL m c)) (.int i) (.int v) = some (.lst (fL m fun x => if x = i then v else c x)) := by
  show (ixN (fL m c).length (i : Int)).map _ = _
  have : ixN (fL m c).length (i : Int) = some i := by
    unfold ixN
    rw [fL_length, if_pos (Int.natCast_nonneg _), if_pos (by omega)]
    simp
  rw [this]
  simp only [Option.map_some]
  congr 2
  refine List.ext_getElem? fun j => ?_
  by_cases hj : j = i
  · subst hj
    rw [List.getElem?_set_self (by rw [fL_length]; exact h)]
    simp [fL, h]
  · rw [List.getElem?_set_ne (Ne.symm hj)]
    simp only [fL, List.getElem?_map]
    by_cases hm : j < m
    · simp [hm, hj]
    · simp [hm]
theorem fL_zero (m s : Nat) (c : Nat → Nat) : fL m c ++ List.replicate s (.int 0) = fL (m + s) fun x => if x < m then c x else 0 := by
  refine List.ext_getElem? fun j => ?_
  by_cases h : j < m
  · rw [List.getElem?_append_left (by rw [fL_length]; exact h)]
    simp [fL, h, show j < m + s by omega]
  · rw [List.getElem?_append_right (by rw [fL_length]; omega), fL_length]
    by_cases h2 : j < m + s
    · simp [fL, h, h2, show j - m < s by omega]
    · simp [fL, h2, show ¬ j - m < s by omega]
/-- the enumerated places from i on -/
theorem enum_fL (c : Nat → Nat) : ∀ (n i : Nat), enumD i ((List.range' i n).map fun x : Nat => D.int (c x : Int)) = (List.range' i n).map fun x : Nat => D.tup [.int (x : Int), .int (c x : Int)]
  | 0, _ => rfl
  | n + 1, i => by
    simp only [List.range'_succ, List.map_cons, enumD]
    rw [enum_fL c n (i + 1)]
theorem ct_in (a0 a1 : Option SV) (m s : Nat) (c : Nat → Nat) : ∀ (n i : Nat) (x y : Option SV), i + n = m → ∃ x' y', loopM (.tp [4, 5]) (sSto 3 (fV (fOp2 dAdd (fVar 4) (fVar 2))) (fV (fOp2 dAdd (fV (fOp2 dIx (fVar 3) (fV (fOp2 dAdd (fVar 4) (fVar 2))))) (fVar 5))))
    ((List.range' i n).map fun x : Nat => D.tup [.int (x : Int), .int (c x : Int)]) [a0, a1, some (.fz (.int s)), some (.own (.lst (fL (m + s) fun x => (if x < m then c x else 0) + if s ≤ x ∧ x - s < i then c (x - s) else 0))), x, y] =
      some (.next, [a0, a1, some (.fz (.int s)), some (.own (.lst (fL (m + s) fun x => (if x < m then c x else 0) + if s ≤ x ∧ x - s < m then c (x - s) else 0))), x', y'])
  | 0, i, x, y, h => by
    have : i = m := by omega
    subst this
    exact ⟨x, y, rfl⟩
  | n + 1, i, x, y, h => by
    obtain ⟨x', y', e⟩ := ct_in a0 a1 m s c n (i + 1) (some (.fz (.int i))) (some (.fz (.int (c i)))) (by omega)
    refine ⟨x', y', ?_⟩
    rw [← e]
    have hlt : i + s < m + s := by omega
    have e1 := fL_at (fun x => (if x < m then c x else 0) + if s ≤ x ∧ x - s < i then c (x - s) else 0) hlt
    have e2 := fL_set (m := m + s) (i := i + s) (fun x => (if x < m then c x else 0) + if s ≤ x ∧ x - s < i then c (x - s) else 0) (((if i + s < m then c (i + s) else 0) + if s ≤ i + s ∧ i + s - s < i then c (i + s - s) else 0) + c i) hlt
    have e3 : ((i : Int) + (s : Int)) = ((i + s : Nat) : Int) := by push_cast; rfl
    have e4 : (fL (m + s) fun x => if x = i + s then ((if i + s < m then c (i + s) else 0) + if s ≤ i + s ∧ i + s - s < i then c (i + s - s) else 0) + c i else (if x < m then c x else 0) + if s ≤ x ∧ x - s < i then c (x - s) else 0) = fL (m + s) fun x => (if x < m then c x else 0) + if s ≤ x ∧ x - s < i + 1 then c (x - s) else 0 := by
      unfold fL
      refine List.map_congr_left fun x hx => ?_
      congr 2
      by_cases hx2 : x = i + s
      · subst hx2
        simp
      · dsimp only
        rw [if_neg hx2]
        congr 1
        by_cases hs : s ≤ x
        · have : (x - s < i) ↔ (x - s < i + 1) := by omega
          simp [hs, this]
        · simp [hs]
    rw [e4] at e2
    simp only [List.range'_succ, List.map_cons]
    have e5 : (((if i + s < m then c (i + s) else 0) + if s ≤ i + s ∧ i + s - s < i then c (i + s - s) else 0 : Nat) : Int) + (c i : Int) = ((((if i + s < m then c (i + s) else 0) + if s ≤ i + s ∧ i + s - s < i then c (i + s - s) else 0) + c i : Nat) : Int) := by push_cast; rfl
    simp only [loopM, tgSet_tp, List.map_cons, List.map_nil, setAll_cons, setAll_nil, setO_val, List.set_cons_succ, List.set_cons_zero, Option.bind_some, sSto_eq, fV_eq, fOp2_eq, fVar_eq, List.getElem?_cons_succ, List.getElem?_cons_zero, Option.map_some, OVd_val, peek_val, peek_slot, svD_own, dAdd_int, e3, dIx_lst, e1, e5, esc_val, rootAt_eq, setRoot_eq, e2]
end K85

set_option Elab.async false
set_option linter.all false
set_option autoImplicit false
set_option maxRecDepth 100000
namespace K85
open PySem PySem.Spec PyProof.Rows L2 L2.Tl
theorem dMul_lst (xs : List D) (k : Int) : dMul (.lst xs) (.int k) = if k < 2 ^ 60 ∧ -(2 ^ 60) < k ∧ xs.length * k.toNat ≤ sizeLine then some (.new (.lst (List.replicate k.toNat xs).flatten)) else none := rfl
theorem dMul_zero (s : Nat) (h : s ≤ 1000) : dMul (.lst [.int 0]) (.int s) = some (.new (.lst (List.replicate s (.int 0)))) := by
  have hc : (s : Int) < 2 ^ 60 ∧ -(2 ^ 60) < (s : Int) ∧ [D.int 0].length * (s : Int).toNat ≤ sizeLine := by
    refine ⟨by omega, by omega, ?_⟩
    rw [sizeLine_eq]
    simp
    omega
  rw [dMul_lst, if_pos hc]
  simp
theorem cnt_append (s : Int) (hs : 0 ≤ s) : ∀ (l : List Int) (x : Int), (∀ i ∈ l, 0 ≤ i) → cnt (l ++ [s]) x = cnt l x + if s ≤ x then cnt l (x - s) else 0
  | [], x, _ => rfl
  | a :: l, x, h => by
    have ha := h a (by simp)
    have ih := cnt_append s hs l x fun i hi => h i (List.mem_cons_of_mem _ hi)
    have ih2 := cnt_append s hs l (x - a) fun i hi => h i (List.mem_cons_of_mem _ hi)
    show cnt (l ++ [s]) x + (if a ≤ x then cnt (l ++ [s]) (x - a) else 0) = (cnt l x + if a ≤ x then cnt l (x - a) else 0) + if s ≤ x then cnt l (x - s) + (if a ≤ x - s then cnt l (x - s - a) else 0) else 0
    rw [ih, ih2]
    have e : x - a - s = x - s - a := by omega
    rw [e]
    generalize cnt l x = A
    generalize cnt l (x - a) = B
    generalize cnt l (x - s) = C
    generalize cnt l (x - s - a) = E
    by_cases h1 : a ≤ x
    · by_cases h2 : s ≤ x
      · by_cases h3 : s ≤ x - a
        · rw [if_pos h1, if_pos h2, if_pos h3, if_pos h1, if_pos h2, if_pos (by omega)]; omega
        · rw [if_pos h1, if_pos h2, if_neg h3, if_pos h1, if_pos h2, if_neg (by omega)]; omega
      · rw [if_pos h1, if_neg h2, if_neg (by omega), if_pos h1, if_neg h2]
        omega
    · by_cases h2 : s ≤ x
      · rw [if_neg h1, if_pos h2, if_neg h1, if_pos h2, if_neg (by omega)]
        omega
      · rw [if_neg h1, if_neg h2, if_neg h1, if_neg h2]
end K85

set_option Elab.async false
set_option linter.all false
set_option autoImplicit false
set_option maxRecDepth 100000
namespace K85
open PySem PySem.Spec PyProof.Rows L2 L2.Tl
theorem ct_step {pre : List Int} (hp : ∀ i ∈ pre, 1 ≤ i) {m s : Nat} (hm : (m : Int) = 1 + pre.sum) : (fL (m + s) fun x => (if x < m then cnt pre x else 0) + if s ≤ x ∧ x - s < m then cnt pre ((x - s : Nat) : Int) else 0) = fL (m + s) fun x => cnt (pre ++ [(s : Int)]) x := by
  unfold fL
  refine List.map_congr_left fun x _ => ?_
  congr 2
  dsimp only
  rw [cnt_append _ (by omega) pre x fun i hi => by have := hp i hi; omega]
  congr 1
  · by_cases h : x < m
    · rw [if_pos h]
    · rw [if_neg h, cnt_zero pre x hp (by omega)]
  · by_cases h : s ≤ x
    · have e : ((x - s : Nat) : Int) = (x : Int) - s := by omega
      rw [if_pos (show (s : Int) ≤ x by omega), ← e]
      by_cases h2 : x - s < m
      · rw [if_pos ⟨h, h2⟩]
      · rw [if_neg (fun z => h2 z.2), cnt_zero pre _ hp (by omega)]
    · rw [if_neg (fun z => h z.1), if_neg (by omega)]
end K85

set_option Elab.async false
set_option linter.all false
set_option autoImplicit false
set_option maxRecDepth 100000
namespace K85
open PySem PySem.Spec PyProof.Rows L2 L2.Tl
/-! ### the sums of all lots -/
def sm : List Int → List Int
  | [] => [0]
  | s :: l => sm l ++ (sm l).map (s + ·)
theorem sm_nonneg : ∀ {l : List Int}, (∀ i ∈ l, 0 ≤ i) → ∀ x ∈ sm l, 0 ≤ x ∧ x ≤ l.sum
  | [], _, x, h => by simp [sm] at h; subst h; simp
  | s :: l, hp, x, h => by
    have h0 := hp s (by simp)
    have ih := sm_nonneg (l := l) fun i hi => hp i (List.mem_cons_of_mem _ hi)
    simp only [sm, List.mem_append, List.mem_map] at h
    simp only [List.sum_cons]
    rcases h with h | ⟨y, h, rfl⟩
    · have := ih x h; omega
    · have := ih y h; omega
theorem sm_zero : ∀ l : List Int, 0 ∈ sm l
  | [] => by simp [sm]
  | s :: l => by simp only [sm, List.mem_append]; exact .inl (sm_zero l)
theorem sm_compl : ∀ {l : List Int} {x : Int}, x ∈ sm l → l.sum - x ∈ sm l
  | [], x, h => by simp [sm] at h; subst h; simp [sm]
  | s :: l, x, h => by
    simp only [sm, List.mem_append, List.mem_map] at h ⊢
    simp only [List.sum_cons]
    rcases h with h | ⟨y, h, rfl⟩
    · exact .inr ⟨_, sm_compl h, by omega⟩
    · exact .inl (by have := sm_compl h; rwa [show s + l.sum - (s + y) = l.sum - y by omega])
theorem count_shift (s x : Int) (l : List Int) : (l.map (s + ·)).count x = l.count (x - s) := by
  induction l with
  | nil => rfl
  | cons a l ih =>
    simp only [List.map_cons, List.count_cons, ih]
    congr 1
    by_cases h : s + a = x
    · have : a = x - s := by omega
      simp [h, this]
      omega
    · have : ¬ a = x - s := by omega
      simp [h, this]
theorem cnt_sm : ∀ {l : List Int}, (∀ i ∈ l, 0 ≤ i) → ∀ x, cnt l x = (sm l).count x
  | [], _, x => by
    by_cases h : x = 0
    · subst h; rfl
    · simp [cnt, sm, h, List.count_cons]; omega
  | s :: l, hp, x => by
    have hl := fun i hi => hp i (List.mem_cons_of_mem _ hi)
    simp only [cnt, sm, List.count_append, count_shift, cnt_sm hl]
    congr 1
    split
    · rfl
    · rename_i h
      exact (List.count_eq_zero.mpr fun hm => by have := (sm_nonneg hl _ hm).1; omega).symm
theorem nle_sm : ∀ {l : List Int}, (∀ i ∈ l, 0 ≤ i) → ∀ x, 0 ≤ x → nle l x = (sm l).countP (fun y => decide (y ≤ x))
  | [], _, x, h => by simp [nle, sm, h]
  | s :: l, hp, x, h0 => by
    have hl := fun i hi => hp i (List.mem_cons_of_mem _ hi)
    simp only [nle, sm, List.countP_append, List.countP_map, nle_sm hl x h0]
    congr 1
    split
    · rename_i h
      rw [nle_sm hl (x - s) (by omega)]
      exact List.countP_congr fun y _ => by simp; omega
    · rename_i h
      exact (List.countP_eq_zero.mpr fun y hm => by have := (sm_nonneg hl _ hm).1; simp; omega).symm
theorem sm_snoc (s : Int) : ∀ l : List Int, (sm (l ++ [s])).Perm (sm l ++ (sm l).map (s + ·))
  | [] => by simp [sm]
  | a :: l => by
    have ih := sm_snoc s l
    show (sm (l ++ [s]) ++ (sm (l ++ [s])).map (a + ·)).Perm ((sm l ++ (sm l).map (a + ·)) ++ (sm l ++ (sm l).map (a + ·)).map (s + ·))
    refine (ih.append (ih.map _)).trans ?_
    simp only [List.map_append, List.map_map]
    have e : (List.map ((fun x => a + x) ∘ fun x => s + x) (sm l)) = List.map ((fun x => s + x) ∘ fun x => a + x) (sm l) := List.map_congr_left fun x _ => by simp only [Function.comp]; omega
    rw [e]
    simp only [List.append_assoc]
    refine List.Perm.append_left _ ?_
    simp only [← List.append_assoc]
    exact List.Perm.append_right _ List.perm_append_comm
/-! ### all lots, as the law makes them -/
def lotsN : Nat → List (List Int)
  | 0 => [[]]
  | n + 1 => lotsN n ++ (lotsN n).map (· ++ [(n : Int)])
theorem lotsN_length : ∀ n, (lotsN n).length = 2 ^ n
  | 0 => rfl
  | n + 1 => by simp [lotsN, lotsN_length n, Nat.pow_succ]; omega
theorem lotsN_mem : ∀ {n : Nat} {lot : List Int}, lot ∈ lotsN n ↔ Lot n lot
  | 0, lot => by
    constructor
    · intro h
      simp [lotsN] at h
      subst h
      exact ⟨.nil, by simp⟩
    · intro h
      cases lot with
      | nil => simp [lotsN]
      | cons a l => have := h.2 a (by simp); omega
  | n + 1, lot => by
    simp only [lotsN, List.mem_append, List.mem_map]
    constructor
    · rintro (h | ⟨l, h, rfl⟩)
      · obtain ⟨a, b⟩ := lotsN_mem.mp h
        exact ⟨a, fun i hi => by have := b i hi; omega⟩
      · obtain ⟨a, b⟩ := lotsN_mem.mp h
        refine ⟨List.pairwise_append.mpr ⟨a, by simp, fun x hx y hy => ?_⟩, fun i hi => ?_⟩
        · simp at hy; subst hy; exact (b x hx).2
        · simp at hi
          rcases hi with hi | rfl
          · have := b i hi; omega
          · omega
    · rintro ⟨a, b⟩
      rcases List.eq_nil_or_concat lot with rfl | ⟨l, x, rfl⟩
      · exact .inl (lotsN_mem.mpr ⟨.nil, by simp⟩)
      · have hx := b x (by simp)
        simp only [List.concat_eq_append] at a b ⊢
        obtain ⟨a1, _, a2⟩ := List.pairwise_append.mp a
        by_cases hn : x = n
        · subst hn
          exact .inr ⟨l, lotsN_mem.mpr ⟨a1, fun i hi => ⟨(b i (by simp [hi])).1, a2 i hi _ (by simp)⟩⟩, rfl⟩
        · refine .inl (lotsN_mem.mpr ⟨a, fun i hi => ?_⟩)
          have hi' : i ∈ l ∨ i = x := by simpa using hi
          rcases hi' with h | rfl
          · have := a2 i h x (by simp); have := b i hi; omega
          · omega
theorem ig_append_left {l m : List Int} {i : Int} (h0 : 0 ≤ i) (h : i < l.length) : ig (l ++ m) i = ig l i := by
  unfold ig
  rw [List.getElem?_append_left (by omega)]
theorem ig_append_len (l m : List Int) (s : Int) : ig (l ++ s :: m) l.length = s := by simp [ig]
theorem sz_append_left {l m lot : List Int} (h : ∀ i ∈ lot, 0 ≤ i ∧ i < l.length) : sz (l ++ m) lot = sz l lot := by
  unfold sz
  exact congrArg List.sum (List.map_congr_left fun i hi => ig_append_left (h i hi).1 (h i hi).2)
theorem sz_snoc (l lot : List Int) (i : Int) : sz l (lot ++ [i]) = sz l lot + ig l i := by simp [sz]
theorem lots_sm (l : List Int) : ((lotsN l.length).map (sz l)).Perm (sm l) := by
  suffices ∀ (k : Nat) (l : List Int), l.length = k → ((lotsN k).map (sz l)).Perm (sm l) from this _ l rfl
  intro k
  induction k with
  | zero => intro l h; rw [List.length_eq_zero_iff.mp h]; exact .refl _
  | succ k ih =>
    intro l h
    rcases List.eq_nil_or_concat l with rfl | ⟨l, s, rfl⟩
    · simp at h
    · simp only [List.concat_eq_append] at h ⊢
      have hl : l.length = k := by simpa using h
      have e1 : (lotsN k).map (sz (l ++ [s])) = (lotsN k).map (sz l) := List.map_congr_left fun lot hm => sz_append_left fun i hi => by rw [hl]; exact (lotsN_mem.mp hm).2 i hi
      have e2 : ((lotsN k).map (· ++ [(k : Int)])).map (sz (l ++ [s])) = ((lotsN k).map (sz l)).map (s + ·) := by
        rw [List.map_map, List.map_map]
        refine List.map_congr_left fun lot hm => ?_
        simp only [Function.comp, sz_snoc]
        rw [sz_append_left fun i hi => by rw [hl]; exact (lotsN_mem.mp hm).2 i hi, ← hl, ig_append_len]
        omega
      rw [lotsN, List.map_append, e1, e2]
      exact ((ih l hl).append ((ih l hl).map _)).trans (sm_snoc s l).symm
/-! ### sizes and worths of all lots -/
def prs : List Int → List Int → List (Int × Int)
  | s :: l, w :: ws => prs l ws ++ (prs l ws).map fun p => (s + p.1, w + p.2)
  | _, _ => [(0, 0)]
theorem prs_snoc (s w : Int) : ∀ l ws : List Int, ws.length = l.length → (prs (l ++ [s]) (ws ++ [w])).Perm (prs l ws ++ (prs l ws).map fun p => (s + p.1, w + p.2))
  | [], [], _ => by simp [prs]
  | [], _ :: _, h => by simp at h
  | _ :: _, [], h => by simp at h
  | a :: l, b :: ws, h => by
    have ih := prs_snoc s w l ws (by simpa using h)
    show (prs (l ++ [s]) (ws ++ [w]) ++ (prs (l ++ [s]) (ws ++ [w])).map (fun p => (a + p.1, b + p.2))).Perm ((prs l ws ++ (prs l ws).map fun p => (a + p.1, b + p.2)) ++ (prs l ws ++ (prs l ws).map fun p => (a + p.1, b + p.2)).map fun p => (s + p.1, w + p.2))
    refine (ih.append (ih.map _)).trans ?_
    simp only [List.map_append, List.map_map]
    have e : (List.map ((fun p : Int × Int => (a + p.1, b + p.2)) ∘ fun p => (s + p.1, w + p.2)) (prs l ws)) = List.map ((fun p => (s + p.1, w + p.2)) ∘ fun p : Int × Int => (a + p.1, b + p.2)) (prs l ws) := List.map_congr_left fun x _ => by simp only [Function.comp, Prod.mk.injEq]; omega
    rw [e]
    simp only [List.append_assoc]
    refine List.Perm.append_left _ ?_
    simp only [← List.append_assoc]
    exact List.Perm.append_right _ List.perm_append_comm
theorem lots_prs (l ws : List Int) (h : ws.length = l.length) : ((lotsN l.length).map fun lot => (sz l lot, sz ws lot)).Perm (prs l ws) := by
  suffices ∀ (k : Nat) (l ws : List Int), l.length = k → ws.length = k → ((lotsN k).map fun lot => (sz l lot, sz ws lot)).Perm (prs l ws) from this _ l ws rfl h
  intro k
  induction k with
  | zero => intro l ws h1 h2; rw [List.length_eq_zero_iff.mp h1, List.length_eq_zero_iff.mp h2]; exact .refl _
  | succ k ih =>
    intro l ws h1 h2
    rcases List.eq_nil_or_concat l with rfl | ⟨l, s, rfl⟩
    · simp at h1
    rcases List.eq_nil_or_concat ws with rfl | ⟨ws, w, rfl⟩
    · simp at h2
    simp only [List.concat_eq_append] at h1 h2 ⊢
    have hl : l.length = k := by simpa using h1
    have hw : ws.length = k := by simpa using h2
    have e1 : (lotsN k).map (fun lot => (sz (l ++ [s]) lot, sz (ws ++ [w]) lot)) = (lotsN k).map fun lot => (sz l lot, sz ws lot) := List.map_congr_left fun lot hm => by
      rw [sz_append_left fun i hi => by rw [hl]; exact (lotsN_mem.mp hm).2 i hi, sz_append_left fun i hi => by rw [hw]; exact (lotsN_mem.mp hm).2 i hi]
    have e2 : ((lotsN k).map (· ++ [(k : Int)])).map (fun lot => (sz (l ++ [s]) lot, sz (ws ++ [w]) lot)) = ((lotsN k).map fun lot => (sz l lot, sz ws lot)).map fun p => (s + p.1, w + p.2) := by
      rw [List.map_map, List.map_map]
      refine List.map_congr_left fun lot hm => ?_
      simp only [Function.comp, sz_snoc]
      rw [sz_append_left fun i hi => by rw [hl]; exact (lotsN_mem.mp hm).2 i hi, sz_append_left fun i hi => by rw [hw]; exact (lotsN_mem.mp hm).2 i hi]
      have i1 := ig_append_len l [] s
      have i2 := ig_append_len ws [] w
      rw [hl] at i1
      rw [hw] at i2
      rw [i1, i2]
      simp only [Prod.mk.injEq]
      omega
    rw [lotsN, List.map_append, e1, e2]
    exact ((ih l ws hl hw).append ((ih l ws hl hw).map _)).trans (prs_snoc s w l ws (by omega)).symm
/-- the best worth within a room -/
def bst : List Int → List Int → Int → Int
  | s :: l, w :: ws, x => if s ≤ x then max (bst l ws x) (bst l ws (x - s) + w) else bst l ws x
  | _, _, _ => 0
theorem bst_le : ∀ {l ws : List Int} (_ : ∀ i ∈ l, 0 ≤ i) {x : Int} {p : Int × Int}, p ∈ prs l ws → p.1 ≤ x → 0 ≤ p.1 ∧ p.2 ≤ bst l ws x
  | [], _, _, x, p, hm, h => by simp [prs] at hm; subst hm; simp [bst]
  | _ :: _, [], _, x, p, hm, h => by simp [prs] at hm; subst hm; simp [bst]
  | s :: l, w :: ws, hp, x, p, hm, h => by
    have h0 := hp s (by simp)
    have hl := fun i hi => hp i (List.mem_cons_of_mem _ hi)
    simp only [prs, List.mem_append, List.mem_map] at hm
    simp only [bst]
    rcases hm with hm | ⟨q, hm, rfl⟩
    · have := bst_le hl hm h
      split <;> omega
    · simp only at h ⊢
      have := bst_le hl hm (x := x - s) (by omega)
      rw [if_pos (by omega)]
      omega
theorem bst_mem : ∀ (l ws : List Int) {x : Int}, 0 ≤ x → ∃ p ∈ prs l ws, p.1 ≤ x ∧ p.2 = bst l ws x
  | [], _, x, h => ⟨(0, 0), by simp [prs], h, rfl⟩
  | _ :: _, [], x, h => ⟨(0, 0), by simp [prs], h, rfl⟩
  | s :: l, w :: ws, x, h => by
    obtain ⟨p, a, b, c⟩ := bst_mem l ws h
    simp only [bst, prs, List.mem_append, List.mem_map]
    by_cases hs : s ≤ x
    · rw [if_pos hs]
      obtain ⟨q, a2, b2, c2⟩ := bst_mem l ws (x := x - s) (by omega)
      by_cases hm : bst l ws (x - s) + w ≤ bst l ws x
      · exact ⟨p, .inl a, b, by omega⟩
      · exact ⟨_, .inr ⟨q, a2, rfl⟩, by simp only; omega, by simp only; omega⟩
    · rw [if_neg hs]
      exact ⟨p, .inl a, b, c⟩
theorem bst_nonneg : ∀ (l ws : List Int) (x : Int), (∀ i ∈ ws, 0 ≤ i) → 0 ≤ bst l ws x
  | [], _, x, h => by simp [bst]
  | _ :: _, [], x, h => by simp [bst]
  | s :: l, w :: ws, x, h => by
    have := bst_nonneg l ws x fun i hi => h i (List.mem_cons_of_mem _ hi)
    simp only [bst]
    split <;> omega
/-- where something is won, some thing is the first of a best lot -/
theorem bst_next : ∀ (l ws : List Int) (x : Int), ws.length = l.length → 0 < bst l ws x → ∃ (k : Nat) (s w : Int), l[k]? = some s ∧ ws[k]? = some w ∧ s ≤ x ∧ bst (l.drop (k + 1)) (ws.drop (k + 1)) (x - s) + w = bst l ws x
  | [], _, x, _, h => by simp [bst] at h
  | _ :: _, [], x, e, h => by simp at e
  | s :: l, w :: ws, x, e, h => by
    by_cases hs : s ≤ x ∧ bst l ws x ≤ bst l ws (x - s) + w
    · refine ⟨0, s, w, rfl, rfl, hs.1, ?_⟩
      simp only [bst, List.drop_succ_cons, List.drop_zero]
      rw [if_pos hs.1]
      omega
    · have e2 : bst (s :: l) (w :: ws) x = bst l ws x := by
        simp only [bst]
        split <;> omega
      rw [e2] at h ⊢
      obtain ⟨k, s', w', a, b, c, d⟩ := bst_next l ws x (by simpa using e) h
      exact ⟨k + 1, s', w', by simpa using a, by simpa using b, c, by simpa using d⟩
theorem prs_sm : ∀ (l : List Int), prs l l = (sm l).map fun x => (x, x)
  | [] => rfl
  | s :: l => by simp [prs, sm, prs_sm l]
/-! ### counts together -/
theorem sum_cnt {l : List Int} (hp : ∀ i ∈ l, 0 ≤ i) : ∀ n : Nat, ((List.range n).map fun i : Nat => cnt l i).sum = (sm l).countP fun y => decide (y < (n : Int))
  | 0 => by
    symm
    simp only [List.range_zero, List.map_nil, List.sum_nil]
    exact List.countP_eq_zero.mpr fun y hy => by have := (sm_nonneg hp y hy).1; simp; omega
  | n + 1 => by
    rw [List.range_succ, List.map_append, List.sum_append, sum_cnt hp n]
    simp only [List.map_cons, List.map_nil, List.sum_cons, List.sum_nil, Nat.add_zero, cnt_sm hp]
    induction sm l with
    | nil => rfl
    | cons a t ih =>
      simp only [List.countP_cons, List.count_cons]
      have : ∀ (A B C x y z : Nat), A + B = C → x + y = z → A + x + (B + y) = C + z := by omega
      refine this _ _ _ _ _ _ ih ?_
      by_cases h1 : a < n
      · have h2 : ¬ (a = n) := by omega
        have h3 : a < (n + 1 : Nat) := by omega
        simp [h1, h2]
        omega
      · by_cases h2 : a = n
        · subst h2; simp; omega
        · have h3 : ¬ a < ((n : Int) + 1) := by omega
          simp [h1, h2, h3]
/-! ### gaps -/
def absI (i : Int) : Int := if i < 0 then -i else i
theorem absI_neg (i : Int) : absI (-i) = absI i := by unfold absI; split <;> split <;> omega
theorem gap_iff (s : Int) (l : List Int) (g : Int) : (∃ n ∈ sm (s :: l), absI ((s :: l).sum - 2 * n) = g) ↔ ∃ x ∈ sm l, absI (2 * (s + x) - (s :: l).sum) = g := by
  simp only [List.sum_cons, sm, List.mem_append, List.mem_map]
  constructor
  · rintro ⟨n, h | ⟨y, h, rfl⟩, rfl⟩
    · exact ⟨_, sm_compl h, by congr 1; omega⟩
    · exact ⟨y, h, by rw [← absI_neg]; congr 1; omega⟩
  · rintro ⟨x, h, rfl⟩
    exact ⟨s + x, .inr ⟨x, h, rfl⟩, by rw [← absI_neg]; congr 1; omega⟩
theorem sm_next : ∀ {l : List Int} {y : Int}, y ∈ sm l → y ≠ 0 → ∃ (k : Nat) (s : Int), l[k]? = some s ∧ y - s ∈ sm (l.drop (k + 1))
  | [], y, h, h0 => by simp [sm] at h; exact absurd h h0
  | s :: l, y, h, h0 => by
    simp only [sm, List.mem_append, List.mem_map] at h
    rcases h with h | ⟨z, h, rfl⟩
    · obtain ⟨k, s', a, b⟩ := sm_next h h0
      exact ⟨k + 1, s', by simpa using a, by simpa using b⟩
    · exact ⟨0, s, rfl, by simpa [show s + z - s = z by omega] using h⟩
/-- two lists in order with the same items -/
theorem sorted_eq : ∀ {a b : List Int}, a.Pairwise (· < ·) → b.Pairwise (· < ·) → (∀ x, x ∈ a ↔ x ∈ b) → a = b
  | [], [], _, _, _ => rfl
  | [], y :: b, _, _, h => by have := (h y).mpr (by simp); simp at this
  | x :: a, [], _, _, h => by have := (h x).mp (by simp); simp at this
  | x :: a, y :: b, ha, hb, h => by
    rw [List.pairwise_cons] at ha hb
    have e : x = y := by
      have h1 := (h x).mp (by simp)
      have h2 := (h y).mpr (by simp)
      simp only [List.mem_cons] at h1 h2
      rcases h1 with h1 | h1
      · exact h1
      · rcases h2 with h2 | h2
        · exact h2.symm
        · have := ha.1 _ h2; have := hb.1 _ h1; omega
    subst e
    refine congrArg _ (sorted_eq ha.2 hb.2 fun z => ?_)
    constructor
    · intro hz
      have h1 := (h z).mp (by simp [hz])
      simp only [List.mem_cons] at h1
      rcases h1 with rfl | h1
      · exact absurd (ha.1 _ hz) (by omega)
      · exact h1
    · intro hz
      have h1 := (h z).mpr (by simp [hz])
      simp only [List.mem_cons] at h1
      rcases h1 with rfl | h1
      · exact absurd (hb.1 _ hz) (by omega)
      · exact h1
theorem sorted_lt {a : List Int} (h : a.Pairwise (· ≤ ·)) (n : a.Nodup) : a.Pairwise (· < ·) := by
  have := List.pairwise_and_iff.mpr ⟨h, n⟩
  exact this.imp fun ⟨x, y⟩ => by omega
theorem Lot.snoc {n : Nat} {lot : List Int} {i : Int} (h : Lot n lot) (hi : i < n) (hf : ∀ j ∈ lot, j < i) (h0 : 0 ≤ i) : Lot n (lot ++ [i]) := by
  refine ⟨List.pairwise_append.mpr ⟨h.1, by simp, fun x hx y hy => ?_⟩, fun j hj => ?_⟩
  · simp at hy; subst hy; exact hf x hx
  · simp at hj
    rcases hj with hj | rfl
    · exact h.2 j hj
    · omega
theorem range_pairwise : ∀ n : Nat, ((List.range n).map fun i : Nat => (i : Int)).Pairwise (· < ·) := fun n => by
  refine List.pairwise_map.mpr ?_
  exact (List.pairwise_lt_range (n := n)).imp fun h => by omega
end K85

set_option Elab.async false
set_option linter.all false
set_option autoImplicit false
set_option maxRecDepth 100000
namespace K85
open PySem PySem.Spec PyProof.Rows L2 L2.Tl
def ctT : Fs := sSto 3 (fV (fOp2 dAdd (fVar 4) (fVar 2))) (fV (fOp2 dAdd (fV (fOp2 dIx (fVar 3) (fV (fOp2 dAdd (fVar 4) (fVar 2))))) (fVar 5)))
def ctB : Fs := (sSeq (sOwn 3 (fOp2 dAdd (fVar 1) (fV (fOp2 dMul (fV (fLst (fA (fC (.int 0)) (fA0)))) (fVar 2)))))
    (sSeq (sFor (.tp [4, 5]) (fiA gEnum (fA (fVar 1) (fA0))) ctT)
    (sSet 1 (fVar 3))))
theorem ct_zero (m s : Nat) (c : Nat → Nat) : (fun x => (if x < m then c x else 0) + if s ≤ x ∧ x - s < 0 then c (x - s) else 0) = fun x => if x < m then c x else 0 := by
  funext x
  simp
def ctN (m s : Nat) (c : Nat → Nat) : Nat → Nat := fun x => (if x < m then c x else 0) + if s ≤ x ∧ x - s < m then c (x - s) else 0
theorem ct_loop (a0 a1 : Option SV) (m s : Nat) (c : Nat → Nat) (x y : Option SV) : ∃ x' y', loopM (.tp [4, 5]) ctT
    ((List.range' 0 m).map fun x : Nat => D.tup [.int (x : Int), .int (c x : Int)]) [a0, a1, some (.fz (.int s)), some (.own (.lst (fL (m + s) fun x => if x < m then c x else 0))), x, y] =
      some (.next, [a0, a1, some (.fz (.int s)), some (.own (.lst (fL (m + s) (ctN m s c)))), x', y']) := by
  have h := ct_in a0 a1 m s c m 0 x y (by omega)
  rw [ct_zero] at h
  exact h
theorem gEnum_fL (m : Nat) (c : Nat → Nat) : gEnum [.lst (fL m c)] = some ((List.range' 0 m).map fun x : Nat => D.tup [.int (x : Int), .int (c x : Int)]) := by
  show some (enumD 0 _) = _
  rw [← enum_fL c m 0]
  simp only [fL, List.range_eq_range']
theorem ctB_at (a0 x u v : Option SV) (m s : Nat) (c : Nat → Nat) (h : m + s ≤ 1000) : ∃ x' y', ctB [a0, some (.fz (.lst (fL m c))), some (.fz (.int s)), x, u, v] =
    some (.next, [a0, some (.fz (.lst (fL (m + s) (ctN m s c)))), some (.fz (.int s)), some (.fz (.lst (fL (m + s) (ctN m s c)))), x', y']) := by
  obtain ⟨x', y', e1⟩ := ct_loop a0 (some (.fz (.lst (fL m c)))) m s c u v
  refine ⟨x', y', ?_⟩
  have e3 := gEnum_fL m c
  have e4 := dMul_zero s (by omega)
  have e6 := fL_zero m s c
  have e7 : (fL m c).length + (List.replicate s (D.int 0)).length ≤ sizeLine := by rw [fL_length, List.length_replicate, sizeLine_eq]; omega
  have e9 : dAdd (.lst (fL m c)) (.lst (List.replicate s (D.int 0))) = some (.new (.lst (fL (m + s) fun x => if x < m then c x else 0))) := by rw [dAdd_lst, if_pos e7, e6]
  generalize ctN m s c = c2 at *
  generalize fL (m + s) c2 = L2 at *
  generalize (fL (m + s) fun x => if x < m then c x else 0) = L1 at *
  generalize fL m c = L0 at *
  have hz : 1 ≤ sizeLine := by rw [sizeLine_eq]; decide
  simp -implicitDefEqProofs [ctB, e4, e9, e3, e1, hz]
end K85

set_option Elab.async false
set_option linter.all false
set_option autoImplicit false
set_option maxRecDepth 100000
namespace K85
open PySem PySem.Spec PyProof.Rows L2 L2.Tl
/-! ### counts_there -/
theorem fL_congr {m : Nat} {c d : Nat → Nat} (h : ∀ x, x < m → c x = d x) : fL m c = fL m d := by
  unfold fL
  refine List.map_congr_left fun x hx => ?_
  rw [h x (by simpa using hx)]
theorem sum_nonneg : ∀ {l : List Int}, (∀ i ∈ l, 0 ≤ i) → 0 ≤ l.sum
  | [], _ => by simp
  | a :: l, h => by
    have := sum_nonneg fun i hi => h i (List.mem_cons_of_mem _ hi)
    have := h a (by simp)
    simp only [List.sum_cons]; omega
theorem ct_out (a0 : Option SV) : ∀ (l pre : List Int) (m : Nat) (a2 x u v : Option SV), (∀ i ∈ pre ++ l, 1 ≤ i) → (m : Int) = 1 + pre.sum → (m : Int) + l.sum ≤ 1000 → ∃ (x' y' u' v' : Option SV), loopM (.nm 2) ctB (l.map .int) [a0, some (.fz (.lst (fL m fun x => cnt pre x))), a2, x, u, v] = some (.next, [a0, some (.fz (.lst (fL (1 + (pre ++ l).sum).toNat fun x => cnt (pre ++ l) x))), x', y', u', v'])
  | [], pre, m, a2, x, u, v, h, hm, _ => ⟨a2, x, u, v, by
    have e : (1 + pre.sum).toNat = m := by omega
    simp -implicitDefEqProofs [loopM, e]⟩
  | a :: l, pre, m, a2, x, u, v, h, hm, hb => by
    have ha : 1 ≤ a := h a (by simp)
    obtain ⟨s, rfl⟩ := Int.eq_ofNat_of_zero_le (show 0 ≤ a by omega)
    have hpre : ∀ i ∈ pre, 1 ≤ i := fun i hi => h i (by simp -implicitDefEqProofs [hi])
    have hl0 : 0 ≤ l.sum := sum_nonneg fun i hi => by have := h i (by simp -implicitDefEqProofs [hi]); omega
    simp only [List.sum_cons] at hb
    obtain ⟨x1, y1, e1⟩ := ctB_at a0 x u v m s (fun x => cnt pre x) (by omega)
    have st : fL (m + s) (ctN m s fun x => cnt pre x) = fL (m + s) fun x => cnt (pre ++ [(s : Int)]) x := ct_step hpre hm
    rw [st] at e1
    obtain ⟨x', y', u', v', e⟩ := ct_out a0 l (pre ++ [(s : Int)]) (m + s) (some (.fz (.int s))) (some (.fz (.lst (fL (m + s) fun x => cnt (pre ++ [(s : Int)]) x)))) x1 y1 (by rw [List.append_assoc]; exact h) (by push_cast; simp; omega) (by push_cast; omega)
    refine ⟨x', y', u', v', ?_⟩
    simp only [List.append_assoc, List.cons_append, List.nil_append] at e
    rw [List.map_cons]
    refine (loopM_next ?_).trans e
    simp -implicitDefEqProofs only [tgSet_nm, Option.bind_some, List.set_cons_succ, List.set_cons_zero]
    exact e1
/-- the counts of all sums -/
def cntL (is : List Int) : List D := fL (1 + is.sum).toNat fun x => cnt is x
theorem v_counts_there (is : List Int) (hs : Szs is) (hb : is.sum ≤ 100) : g_counts_there [.fz (iL is)] = some (.val (.lst (cntL is)), []) := by
  obtain ⟨x', y', u', v', e⟩ := ct_out (some (.fz (iL is))) is [] 1 none none none none (by simpa using hs.pos) (by simp) (by simp; omega)
  have e0 : (fL 1 fun x => cnt [] x) = [.int 1] := rfl
  rw [e0] at e
  simp only [List.nil_append] at e
  have hb1 : f_counts_there = sSeq (sSet 1 (fV (fLst (fA (fC (.int 1)) (fA0))))) (sSeq (sFor (.nm 2) (fiOf seqOf (fVar 0)) ctB) (sRet (fO (fVar 1)))) := rfl
  have hz : 1 ≤ sizeLine := by rw [sizeLine_eq]; decide
  simp -implicitDefEqProofs [g_counts_there, m_counts_there, hb1, hz, e, cntL]
theorem v_sum_counts (is : List Int) (hs : Szs is) (hb : is.sum ≤ 100) : g_sum_counts [.fz (iL is)] = some (.val (.lst (cntL is)), []) := by
  simp -implicitDefEqProofs [g_sum_counts, m_sum_counts, f_sum_counts, v_check_sizes is hs.pos hs.le, v_counts_there is hs hb]
/-! ### all_fitting -/
abbrev It := List Int × Nat × Int
def itD (t : It) : D := .tup [iL t.1, .int t.2.1, .int t.2.2]
def chW : List Int → Int → Nat
  | [], _ => 0
  | s :: l, x => chW l x + if s ≤ x then nle l (x - s) else 0
theorem nle_chW : ∀ (l : List Int) (x : Int), nle l x = 1 + chW l x
  | [], _ => rfl
  | s :: l, x => by simp only [nle, chW, nle_chW l x]; omega
def wt (is : List Int) (T : List It) : Nat := (T.map fun t => nle (is.drop t.2.1) t.2.2).sum
structure ItOk (n : Nat) (t : It) : Prop where
  len : t.1.length ≤ t.2.1
  le : t.2.1 ≤ n
theorem wt_append (is : List Int) (T : List It) (t : It) : wt is (T ++ [t]) = wt is T + nle (is.drop t.2.1) t.2.2 := by simp -implicitDefEqProofs [wt]
theorem wt_len (is : List Int) (T : List It) : T.length ≤ wt is T := by
  unfold wt
  induction T with
  | nil => simp
  | cons t T ih =>
    simp only [List.map_cons, List.sum_cons, List.length_cons]
    have := nle_chW (is.drop t.2.1) t.2.2
    omega
theorem rngD_dn (i : Int) (k : Nat) : rngD i (-1) (k + 1) = .int i :: rngD (i - 1) (-1) k := by
  unfold rngD
  rw [List.range_succ_eq_map, List.map_cons, List.map_map]
  have h1 : (D.int (i + ((0 : Nat) : Int) * -1)) = .int i := by simp
  rw [h1]
  refine congrArg _ (List.map_congr_left fun j _ => ?_)
  show D.int _ = D.int _
  congr 1
  push_cast
  omega
def afI : Fs := (sIf (fT (fV (fOp2 dLe (fV (fOp2 dIx (fVar 0) (fVar 7))) (fVar 6)))) (sEx (fMut isL 3 gApp (fA (fV (fTup (fA (fV (fOp2 dAdd (fVar 4) (fV (fLst (fA (fVar 7) (fA0)))))) (fA (fV (fOp2 dAdd (fVar 7) (fC (.int 1)))) (fA (fV (fOp2 dSub (fVar 6) (fV (fOp2 dIx (fVar 0) (fVar 7))))) (fA0)))))) (fA0)))) (sNext))
theorem af_in (is : List Int) (hn : is.length ≤ 8) (a1 a2 : Option SV) (lot : List Int) (b : Nat) (left : Int) (hlot : lot.length ≤ b) : ∀ (j : Nat) (T : List It) (x : Option SV), b + j ≤ is.length → (∀ t ∈ T, ItOk is.length t) → wt is T + chW (is.drop b) left ≤ 1000 + chW (is.drop (b + j)) left → ∃ T' x', (∀ t ∈ T', ItOk is.length t) ∧ wt is T' + chW (is.drop (b + j)) left = wt is T + chW (is.drop b) left ∧
    loopM (.nm 7) afI (rngD ((b : Int) + j - 1) (-1) j) [some (.fz (iL is)), a1, a2, some (.own (.lst (T.map itD))), some (.fz (iL lot)), some (.fz (.int b)), some (.fz (.int left)), x] =
      some (.next, [some (.fz (iL is)), a1, a2, some (.own (.lst (T'.map itD))), some (.fz (iL lot)), some (.fz (.int b)), some (.fz (.int left)), x'])
  | 0, T, x, _, hT, _ => ⟨T, x, hT, by simp, by simp -implicitDefEqProofs [rngD, loopM]⟩
  | j + 1, T, x, hj, hT, hw => by
    have hk : b + j < is.length := by omega
    have hd := List.drop_eq_getElem_cons hk
    have hc : chW (is.drop (b + j)) left = chW (is.drop (b + j + 1)) left + if is[b + j] ≤ left then nle (is.drop (b + j + 1)) (left - is[b + j]) else 0 := by rw [hd]; rfl
    have e1 : atI (is.map D.int) ((b : Int) + j) = some (.int is[b + j]) := by
      have : ((b : Int) + j) = ((b + j : Nat) : Int) := by push_cast; rfl
      rw [this]
      exact atK (by simp -implicitDefEqProofs [hk])
    have er : rngD ((b : Int) + (j + 1 : Nat) - 1) (-1) (j + 1) = .int ((b : Int) + j) :: rngD ((b : Int) + j - 1) (-1) j := by
      rw [rngD_dn]
      have h1 : ((b : Int) + (j + 1 : Nat) - 1) = (b : Int) + j := by push_cast; omega
      rw [h1]
    rw [er]
    rw [show b + (j + 1) = b + j + 1 by omega] at hw ⊢
    have hTl := wt_len is T
    have hcb := nle_le (is.drop (b + j + 1)) left
    have hcc := nle_chW (is.drop (b + j + 1)) left
    have hpp := pow8 (n := (is.drop (b + j + 1)).length) (by simp; omega)
    by_cases hs : is[b + j] ≤ left
    · rw [if_pos hs] at hc
      obtain ⟨T', x', h1, h2, h3⟩ := af_in is hn a1 a2 lot b left hlot j (T ++ [(lot ++ [((b : Int) + j)], b + j + 1, left - is[b + j])]) (some (.fz (.int ((b : Int) + j)))) (by omega) (fun t ht => by
        simp at ht
        rcases ht with ht | rfl
        · exact hT t ht
        · exact ⟨by simp; omega, by simp; omega⟩) (by rw [wt_append]; simp only; omega)
      refine ⟨T', x', h1, ?_, ?_⟩
      · rw [wt_append] at h2
        simp only at h2
        omega
      · have hz : lot.length + 1 ≤ 16777216 := by omega
        have hz2 : T.length < 16777216 := by omega
        rw [← h3]
        refine loopM_next ?_
        simp -implicitDefEqProofs [afI, e1, hs, sizeLine_eq, hz, hz2, itD]
    · rw [if_neg hs] at hc
      obtain ⟨T', x', h1, h2, h3⟩ := af_in is hn a1 a2 lot b left hlot j T (some (.fz (.int ((b : Int) + j)))) (by omega) hT (by omega)
      refine ⟨T', x', h1, by omega, ?_⟩
      rw [← h3]
      refine loopM_next ?_
      simp -implicitDefEqProofs [afI, e1, hs]
end K85

set_option Elab.async false
set_option linter.all false
set_option autoImplicit false
set_option maxRecDepth 100000
namespace K85
open PySem PySem.Spec PyProof.Rows L2 L2.Tl
/-! ### plain things -/
theorem plain_iL (is : List Int) : (iL is).plain = true := by
  show plainL _ = true
  refine plainL_of fun x hx => ?_
  obtain ⟨i, _, rfl⟩ := List.mem_map.mp hx
  rfl
theorem plain_itD (t : It) : (itD t).plain = true := by
  show plainL [iL t.1, .int t.2.1, .int t.2.2] = true
  simp only [plainL, plain_iL, Bool.true_and, Bool.and_true]
  rfl
def afC : Ft := (fT (fV (fOp2 dNe (fVar 3) (fV (fLst (fA0))))))
def afB : Fs := (sSeq (sUnp [4, 5, 6] (fV (fMut isL 3 gPop fA0)))
    (sSeq (sEx (fMut isL 2 gApp (fA (fVar 4) (fA0))))
    (sFor (.nm 7) (fiA gRng3 (fA (fV (fOp2 dSub (fV (fBl gLen (fQ (fVar 0) (fQ0)))) (fC (.int 1)))) (fA (fV (fOp2 dSub (fVar 5) (fC (.int 1)))) (fA (fNeg (fC (.int 1))) (fA0))))) afI)))
theorem af_out (is : List Int) (hn : is.length ≤ 8) (a1 : Option SV) : ∀ (m : Nat) (T : List It) (F : List D) (x y z u : Option SV), wt is T = m → (∀ t ∈ T, ItOk is.length t) → F.length + m ≤ 1000 → ∃ F' x' y' z' u', F'.length = F.length + m ∧
    loopW afC afB (m + 1) [some (.fz (iL is)), a1, some (.own (.lst F)), some (.own (.lst (T.map itD))), x, y, z, u] = some (.next, [some (.fz (iL is)), a1, some (.own (.lst F')), some (.own (.lst [])), x', y', z', u'])
  | m, T, F, x, y, z, u, hm, hT, hF => by
    have hTl := wt_len is T
    have hpl : plainL (T.map itD) = true := plainL_of fun d hd => by
      obtain ⟨t, _, rfl⟩ := List.mem_map.mp hd
      exact plain_itD t
    have hne := dNe_nil hpl
    rcases List.eq_nil_or_concat T with rfl | ⟨T, ⟨lot, b, left⟩, rfl⟩
    · have : m = 0 := by rw [← hm]; rfl
      subst this
      refine ⟨F, x, y, z, u, rfl, ?_⟩
      simp -implicitDefEqProofs [loopW, afC] at hne ⊢
      simp -implicitDefEqProofs [hne]
    · simp only [List.concat_eq_append] at hm hT hTl hne ⊢
      rw [wt_append] at hm
      simp only at hm
      have hc := nle_chW (is.drop b) left
      obtain ⟨ho1, ho2⟩ := hT (lot, b, left) (by simp)
      simp only at ho1 ho2
      have hd0 : is.drop (b + (is.length - b)) = [] := List.drop_eq_nil_of_le (by omega)
      obtain ⟨T', u1, h1, h2, h3⟩ := af_in is hn a1 (some (.own (.lst (F ++ [iL lot])))) lot b left ho1 (is.length - b) T u (by omega) (fun t ht => hT t (by simp -implicitDefEqProofs [ht])) (by rw [hd0]; show _ ≤ 1000 + 0; omega)
      rw [hd0] at h2
      have h2' : wt is T' = wt is T + chW (is.drop b) left := h2
      obtain ⟨k, rfl⟩ : ∃ k, m = k + 1 := ⟨m - 1, by omega⟩
      obtain ⟨F', x', y', z', u', g1, g2⟩ := af_out is hn a1 k T' (F ++ [iL lot]) (some (.fz (iL lot))) (some (.fz (.int b))) (some (.fz (.int left))) u1 (by omega) h1 (by simp; omega)
      refine ⟨F', x', y', z', u', by simp at g1; omega, ?_⟩
      rw [← g2]
      have hb1 : b62 ((is.length : Int) - 1) = true := b62_of (by omega) (by omega)
      have hb2 : b62 ((b : Int) - 1) = true := b62_of (by omega) (by omega)
      have ht : ((is.length : Int) - 1 - ((b : Int) - 1)).toNat = is.length - b := by omega
      have hi : (b : Int) + ((is.length - b : Nat) : Int) - 1 = (is.length : Int) - 1 := by omega
      rw [hi] at h3
      have hF2 : F.length < 16777216 := by omega
      have hbody : afB [some (.fz (iL is)), a1, some (.own (.lst F)), some (.own (.lst ((T ++ [(lot, b, left)]).map itD))), x, y, z, u] = some (.next, [some (.fz (iL is)), a1, some (.own (.lst (F ++ [iL lot]))), some (.own (.lst (T'.map itD))), some (.fz (iL lot)), some (.fz (.int b)), some (.fz (.int left)), u1]) := by
        simp -implicitDefEqProofs [afB, itD, sizeLine_eq, hF2, hb1, hb2, ht]
        simpa [itD] using h3
      have hcond : afC [some (.fz (iL is)), a1, some (.own (.lst F)), some (.own (.lst ((T ++ [(lot, b, left)]).map itD))), x, y, z, u] = some (true, [some (.fz (iL is)), a1, some (.own (.lst F)), some (.own (.lst ((T ++ [(lot, b, left)]).map itD))), x, y, z, u]) := by
        simp -implicitDefEqProofs [afC] at hne ⊢
        simp -implicitDefEqProofs [hne]
      show (afC _).bind _ = _
      rw [hcond]
      simp only [Option.bind_some, if_true]
      rw [hbody]
      rfl
theorem v_all_fitting (is : List Int) (r : Int) (hs : Szs is) : ∃ F, F.length = nle is r ∧ g_all_fitting [.fz (iL is), .fz (.int r)] = some (.new (.lst F), []) := by
  have hp := pow8 hs.len
  have hl := nle_le is r
  obtain ⟨F, x', y', z', u', h1, h2⟩ := af_out is hs.len (some (.fz (.int r))) (nle is r) [([], 0, r)] [] none none none none (by simp -implicitDefEqProofs [wt]) (fun t ht => by
    simp at ht
    subst ht
    exact ⟨by simp, by simp⟩) (by simp; omega)
  refine ⟨F, by simpa using h1, ?_⟩
  have hw := sWhile_of h2
  have hb : f_all_fitting = sSeq (sPar [2, 3] (fP (fLst (fA0)) (fP (fLst (fA (fV (fTup (fA (fV (fLst (fA0))) (fA (fC (.int 0)) (fA (fVar 1) (fA0)))))) (fA0))) (fP0)))) (sSeq (sWhile afC afB) (sRet (fMove 2))) := rfl
  have hnil : iL [] = .lst [] := rfl
  simp -implicitDefEqProofs [itD, hnil] at hw
  simp -implicitDefEqProofs [g_all_fitting, m_all_fitting, hb, sizeLine_eq, hw]
theorem v_fitting_lots (is : List Int) (r : Int) (hs : Szs is) (hr : 0 ≤ r) : ∃ F, F.length = nle is r ∧ g_fitting_lots [.fz (iL is), .fz (.int r)] = some (.new (.lst F), []) := by
  obtain ⟨F, h1, h2⟩ := v_all_fitting is r hs
  refine ⟨F, h1, ?_⟩
  simp -implicitDefEqProofs [g_fitting_lots, m_fitting_lots, f_fitting_lots, v_check_sizes is hs.pos hs.le, v_check_room r hr, v_check_many is r hs, h2]
end K85

set_option Elab.async false
set_option linter.all false
set_option autoImplicit false
set_option maxRecDepth 100000
namespace K85
open PySem PySem.Spec PyProof.Rows L2 L2.Tl
theorem max_is {xs : List Int} {a : Int} (h : a ∈ xs) (hb : ∀ b ∈ xs, b ≤ a) : xs.max? = some a := List.max?_eq_some_iff.mpr ⟨h, hb⟩
theorem min_is {xs : List Int} {a : Int} (h : a ∈ xs) (hb : ∀ b ∈ xs, a ≤ b) : xs.min? = some a := List.min?_eq_some_iff.mpr ⟨h, hb⟩
/-! ### sums.sums_there -/
def updT (ks more : List Int) : List Int := more.foldl insT ks
theorem kvMerge_T : ∀ (more ks : List Int), kvMerge (ks.map fun k => (D.int k, D.bl true)) (more.map fun k => (D.int k, D.bl true)) = (updT ks more).map fun k => (D.int k, D.bl true)
  | [], ks => rfl
  | k :: more, ks => by
    show kvMerge (kvPut _ _ _) _ = _
    rw [kvPut_T]
    exact kvMerge_T more (insT ks k)
theorem updT_ok : ∀ (more ks : List Int), ks.Nodup → (updT ks more).Nodup ∧ (updT ks more).length ≤ ks.length + more.length ∧ ∀ x, x ∈ updT ks more ↔ x ∈ ks ∨ x ∈ more
  | [], ks, h => ⟨h, by simp -implicitDefEqProofs [updT], fun x => by simp -implicitDefEqProofs [updT]⟩
  | k :: more, ks, h => by
    obtain ⟨a, b, c⟩ := updT_ok more (insT ks k) (nd_insT h)
    refine ⟨a, ?_, fun x => ?_⟩
    · have := len_insT ks k
      show (updT (insT ks k) more).length ≤ _
      simp only [List.length_cons]
      omega
    · refine (c x).trans ?_
      rw [mem_insT, List.mem_cons, or_assoc]
theorem mem_snoc (s : Int) (l : List Int) (x : Int) : x ∈ sm (l ++ [s]) ↔ x ∈ sm l ∨ x - s ∈ sm l := by
  rw [(sm_snoc s l).mem_iff, List.mem_append, List.mem_map]
  constructor
  · rintro (h | ⟨y, h, rfl⟩)
    · exact .inl h
    · exact .inr (by rwa [show s + y - s = y by omega])
  · rintro (h | h)
    · exact .inl h
    · exact .inr ⟨_, h, by omega⟩
def suB : Fs := (sEx (fMut isD 1 gUpd (fA (fV (fDc [3] (fiOf seqOf (fV (fBl gList (fQ (fVar 1) (fQ0))))) (.nm 3) (fYes) (fV (fOp2 dAdd (fVar 3) (fVar 2))) (fC (.bl true)))) (fA0))))
theorem su_loop (a0 : Option SV) : ∀ (l pre ks : List Int) (x : Option SV), pre.length + l.length ≤ 8 → ks.length ≤ 2 ^ pre.length → ks.Nodup → (∀ x, x ∈ ks ↔ x ∈ sm pre) → ∃ ks' x', ks'.Nodup ∧ ks'.length ≤ 256 ∧ (∀ x, x ∈ ks' ↔ x ∈ sm (pre ++ l)) ∧
    loopM (.nm 2) suB (l.map .int) [a0, some (.own (encT ks)), x, none] = some (.next, [a0, some (.own (encT ks')), x', none])
  | [], pre, ks, x, h8, hl, hn, hm => ⟨ks, x, hn, by have := pow8 (n := pre.length) (by simpa using h8); omega, by simpa using hm, rfl⟩
  | s :: l, pre, ks, x, h8, hl, hn, hm => by
    have hp := pow8 (n := pre.length) (by simp at h8; omega)
    obtain ⟨u1, u2, u3⟩ := updT_ok (ks.map (· + s)) ks hn
    obtain ⟨ks', x', h1, h2, h3, h4⟩ := su_loop a0 l (pre ++ [s]) (updT ks (ks.map (· + s))) (some (.fz (.int s))) (by simp at h8 ⊢; omega) (by simp -implicitDefEqProofs [Nat.pow_succ] at u2 ⊢; omega) u1 (fun x => by
      rw [u3, mem_snoc, hm x, List.mem_map]
      refine or_congr_right ?_
      constructor
      · rintro ⟨y, hy, rfl⟩
        rw [show y + s - s = y by omega]
        exact (hm y).mp hy
      · intro h
        exact ⟨x - s, (hm _).mpr h, by omega⟩)
    refine ⟨ks', x', h1, h2, by simpa using h3, ?_⟩
    rw [← h4]
    refine loopM_next ?_
    have hk : ks.length ≤ 16777216 := by omega
    have hk2 : ks.length + (updT [] (ks.map (· + s))).length ≤ 16777216 := by
      have := (updT_ok (ks.map (· + s)) [] .nil).2.1
      simp at this
      omega
    have hnd : (ks.map (· + s)).Nodup := List.Pairwise.map _ (fun a b h => by omega) hn
    have hdc := dcM_mapF (vs := [3]) (t := .nm 3) (c := fYes) (fk := fV (fOp2 dAdd (fVar 3) (fVar 2))) (fv := fC (.bl true)) (δ := [a0, some (.own (encT ks)), some (.fz (.int s)), none]) D.int (fun q => (.int (q + s), .bl true)) (xs := ks) (acc := []) (fun q hq => by simp -implicitDefEqProofs [dcTurn])
    have hMM : ((ks.map (· + s)).map fun k => (D.int k, D.bl true)) = ks.map fun q => (D.int (q + s), D.bl true) := by rw [List.map_map]; rfl
    have hm2 : kvMerge [] (ks.map fun q => (D.int (q + s), D.bl true)) = ks.map fun q => (D.int (q + s), D.bl true) := by
      have := kvMerge_R (ks := ks.map (· + s)) (fun _ => .bl true) hnd
      rw [hMM] at this
      exact this
    have hg : gList [encT ks] = some (.new (.lst (ks.map .int))) := by
      show some _ = _
      simp
    have hup : gUpd (encT ks) [.dct false (ks.map fun q => (D.int (q + s), D.bl true))] = some (.non, encT (updT ks (ks.map (· + s)))) := by
      have := kvMerge_T (ks.map (· + s)) ks
      rw [← hMM]
      have hz : (ks.map fun k => (D.int k, D.bl true)).length + ((ks.map (· + s)).map fun k => (D.int k, D.bl true)).length ≤ sizeLine := by rw [sizeLine_eq]; simp; omega
      show (if _ then _ else _) = _
      rw [if_pos hz, this]
      rfl
    have hisD : isD (encT ks) = true := rfl
    generalize (ks.map fun q => (D.int (q + s), D.bl true)) = M at *
    simp -implicitDefEqProofs [suB, hg, sizeLine_eq, hk, hdc, hm2, hisD, hup]
theorem sorted_sortI {ks : List Int} (h : ks.Nodup) : (sortI ks).Pairwise (· < ·) := sorted_lt (sortI_sorted ks) ((sortI_perm ks).nodup_iff.mpr h)
/-- the first counts -/
def rI (n : Nat) : List Int := (List.range n).map fun i : Nat => (i : Int)
theorem rngD_up (n : Nat) : rngD 0 1 n = (rI n).map .int := by
  unfold rngD rI
  rw [List.map_map]
  refine List.map_congr_left fun i _ => ?_
  simp
theorem mem_rI {n : Nat} {x : Int} : x ∈ rI n ↔ 0 ≤ x ∧ x < n := by
  unfold rI
  simp only [List.mem_map, List.mem_range]
  constructor
  · rintro ⟨i, h, rfl⟩
    omega
  · rintro ⟨h0, h1⟩
    exact ⟨x.toNat, by omega, by omega⟩
/-- the sums of lots in order -/
def smL (is : List Int) : List Int := (rI (1 + is.sum).toNat).filter fun x => decide (0 < cnt is x)
theorem mem_smL {is : List Int} (hp : ∀ i ∈ is, 0 ≤ i) {x : Int} : x ∈ smL is ↔ x ∈ sm is := by
  unfold smL
  rw [List.mem_filter, mem_rI, decide_eq_true_eq, cnt_sm hp, List.count_pos_iff]
  constructor
  · exact fun h => h.2
  · intro h
    have := sm_nonneg hp x h
    exact ⟨by omega, h⟩
theorem smL_pw (is : List Int) : (smL is).Pairwise (· < ·) := (range_pairwise _).filter _
theorem Szs.nn {is : List Int} (h : Szs is) : ∀ i ∈ is, 0 ≤ i := fun i hi => by have := h.pos i hi; omega
theorem v_sums_there2 (is : List Int) (hs : Szs is) : g_sums_there2 [.fz (iL is)] = some (.new (iL (smL is)), []) := by
  obtain ⟨ks, x', h1, h2, h3, h4⟩ := su_loop (some (.fz (iL is))) is [] [0] none (by simpa using hs.len) (by simp) (by simp) (fun x => by simp -implicitDefEqProofs [sm])
  have hb : f_sums_there2 = sSeq (sOwn 1 (fDisp (fDk (fC (.int 0)) (fC (.bl true)) (fD0)))) (sSeq (sFor (.nm 2) (fiOf seqOf (fVar 0)) suB) (sRet (fBl gSorted (fQ (fVar 1) (fQ0))))) := rfl
  have e0 : D.dct false (kvMerge [] [(.int 0, .bl true)]) = encT [0] := rfl
  have e1 : gSorted [encT ks] = some (.new (iL (sortI ks))) := by
    show (intsOf ((ks.map fun k => (D.int k, D.bl true)).map (·.1))).map _ = _
    rw [List.map_map]
    have : (ks.map ((·.1) ∘ fun k => (D.int k, D.bl true))) = ks.map .int := rfl
    rw [this, intsOf_map]
    rfl
  have e2 : sortI ks = smL is := sorted_eq (sorted_sortI h1) (smL_pw is) fun x => by
    rw [(sortI_perm ks).mem_iff, h3, mem_smL hs.nn]
    simp
  rw [e2] at e1
  simp -implicitDefEqProofs [g_sums_there2, m_sums_there2, hb, e0, h4, e1]
theorem v_sums_of (is : List Int) (hs : Szs is) : g_sums_of [.fz (iL is)] = some (.new (iL (smL is)), []) := by
  simp -implicitDefEqProofs [g_sums_of, m_sums_of, f_sums_of, v_check_sizes is hs.pos hs.le, v_sums_there2 is hs]
theorem smL_len (is : List Int) (h : is.sum ≤ 100) : (smL is).length ≤ 101 := by
  refine Nat.le_trans (List.length_filter_le _ _) ?_
  simp -implicitDefEqProofs [rI]
  omega
theorem near_is {is : List Int} (hs : Szs is) {r : Int} (hr : 0 ≤ r) : ((smL is).filter fun x => decide (x ≤ r)).max? = some (bst is is r) := by
  obtain ⟨p, h1, h2, h3⟩ := bst_mem is is hr
  have hp : p.1 ∈ sm is ∧ p.2 = p.1 := by
    rw [prs_sm] at h1
    obtain ⟨x, hx, rfl⟩ := List.mem_map.mp h1
    exact ⟨hx, rfl⟩
  refine max_is ?_ fun b hb => ?_
  · rw [← h3, hp.2, List.mem_filter, mem_smL hs.nn]
    exact ⟨hp.1, by simpa using h2⟩
  · rw [List.mem_filter, mem_smL hs.nn, decide_eq_true_eq] at hb
    have : (b, b) ∈ prs is is := by rw [prs_sm]; exact List.mem_map.mpr ⟨b, hb.1, rfl⟩
    exact (bst_le hs.nn this hb.2).2
theorem v_nearest_below (is : List Int) (r : Int) (hs : Szs is) (hb : is.sum ≤ 100) (hr : 0 ≤ r) : g_nearest_below [.fz (iL is), .fz (.int r)] = some (.val (.int (bst is is r)), []) := by
  have hl := smL_len is hb
  have hz : (smL is).length ≤ 16777216 := by omega
  have e1 := lcM_filterF (vs := [2]) (t := .nm 2) (c := fT (fV (fOp2 dLe (fVar 2) (fVar 1)))) (f := fVar 2) (δ := [some (.fz (iL is)), some (.fz (.int r)), none]) D.int (fun x => decide (x ≤ r)) D.int (xs := smL is) (fun x _ => by
    by_cases h : x ≤ r
    · simp -implicitDefEqProofs [lcTurn, h]
    · simp -implicitDefEqProofs [lcTurn, h])
  simp -implicitDefEqProofs [g_nearest_below, m_nearest_below, f_nearest_below, v_check_sizes is hs.pos hs.le, v_check_room r hr, v_sums_there2 is hs, sizeLine_eq, hz, e1, near_is hs hr]
end K85

set_option Elab.async false
set_option linter.all false
set_option autoImplicit false
set_option maxRecDepth 100000
namespace K85
open PySem PySem.Spec PyProof.Rows L2 L2.Tl
/-! ### the best bag -/
def prD (p : Int × Int) : D := .tup [.int p.1, .int p.2]
def bet (a b : Int × Int) : Int × Int := if a.1 = b.1 then (a.1, a.2 + b.2) else if a.1 < b.1 then b else a
def bstC : List Int → List Int → Int → Int × Int
  | s :: l, w :: ws, x => if s ≤ x then bet (bstC l ws x) ((bstC l ws (x - s)).1 + w, (bstC l ws (x - s)).2) else bstC l ws x
  | _, _, _ => (0, 1)
theorem bstC_fst : ∀ (l ws : List Int) (x : Int), (bstC l ws x).1 = bst l ws x
  | [], _, _ => rfl
  | _ :: _, [], _ => rfl
  | s :: l, w :: ws, x => by
    simp only [bstC, bst, ← bstC_fst l ws]
    split
    · unfold bet
      dsimp only
      split
      · omega
      · split <;> omega
    · rfl
theorem v_better (a b : Int × Int) : g_better [.fz (prD a), .fz (prD b)] = some (.val (prD (bet a b)), []) := by
  have i1 : ∀ x y : Int, atI [D.int x, D.int y] 0 = some (.int x) := fun x y => atK (k := 0) rfl
  have i2 : ∀ x y : Int, atI [D.int x, D.int y] 1 = some (.int y) := fun x y => atK (k := 1) rfl
  have hz : 2 ≤ sizeLine := by rw [sizeLine_eq]; decide
  by_cases h : a.1 = b.1
  · simp -implicitDefEqProofs [g_better, m_better, f_better, prD, i1, i2, h, bet, hz]
  · simp -implicitDefEqProofs [g_better, m_better, f_better, prD, i1, i2, h, bet, gMax2_ii]
    split <;> rfl
def rowsB : List Int → List Int → List Int → List D
  | s :: l, w :: ws, ks => encR ks (fun x => prD (bstC (s :: l) (w :: ws) x)) :: rowsB l ws (nextK s ks)
  | _, _, ks => [encR ks fun _ => prD (0, 1)]
theorem rowsB_length : ∀ (l ws ks : List Int), ws.length = l.length → (rowsB l ws ks).length = l.length + 1
  | [], _, _, _ => rfl
  | _ :: _, [], _, h => by simp at h
  | s :: l, w :: ws, ks, h => by simp -implicitDefEqProofs [rowsB, rowsB_length l ws _ (by simpa using h)]
theorem rowsB_head (l ws ks : List Int) : (rowsB l ws ks)[0]? = some (encR ks fun x => prD (bstC l ws x)) := by
  cases l <;> cases ws <;> rfl
theorem downB_at : ∀ (l ws ks : List Int) (k : Nat), ws.length = l.length → k < l.length → ∃ s w K, l[k]? = some s ∧ ws[k]? = some w ∧ (askedK l ks)[k]? = some K ∧ (rowsB l ws ks).drop (k + 1) = rowsB (l.drop (k + 1)) (ws.drop (k + 1)) (nextK s K) ∧ (rowsB l ws ks).drop k = encR K (fun x => prD (bstC (s :: l.drop (k + 1)) (w :: ws.drop (k + 1)) x)) :: rowsB (l.drop (k + 1)) (ws.drop (k + 1)) (nextK s K)
  | [], _, _, _, _, h => by simp at h
  | _ :: _, [], _, _, h, _ => by simp at h
  | s :: l, w :: ws, ks, 0, _, _ => ⟨s, w, ks, rfl, rfl, rfl, rfl, rfl⟩
  | s :: l, w :: ws, ks, k + 1, he, h => by
    obtain ⟨s', w', K, a, b, c, d, e⟩ := downB_at l ws (nextK s ks) k (by simpa using he) (by simpa using h)
    exact ⟨s', w', K, by simpa using a, by simpa using b, by simpa [askedK] using c, by simpa [rowsB] using d, by simpa [rowsB] using e⟩
theorem askedB_last (l ws ks : List Int) (he : ws.length = l.length) : ∃ K, (askedK l ks).getLast? = some K ∧ (rowsB l ws ks).drop l.length = [encR K fun _ => prD (0, 1)] := by
  induction l generalizing ws ks with
  | nil => exact ⟨ks, rfl, rfl⟩
  | cons s l ih =>
    cases ws with
    | nil => simp at he
    | cons w ws =>
      obtain ⟨K, a, b⟩ := ih ws (nextK s ks) (by simpa using he)
      refine ⟨K, ?_, by simpa [rowsB] using b⟩
      rw [askedK, List.getLast?_cons, a]
      rfl
/-! stores of one row -/
theorem kvPut_new (ks : List Int) (g : Int → D) {k : Int} (v : D) (h : k ∉ ks) : kvPut (ks.map fun x => (D.int x, g x)) (.int k) v = (ks.map fun x => (D.int x, g x)) ++ [(.int k, v)] := by
  unfold kvPut
  rw [any_key, if_neg (by simpa using h)]
theorem kvPut_again (ks : List Int) (g : Int → D) {k : Int} (v w : D) (h : k ∉ ks) : kvPut ((ks.map fun x => (D.int x, g x)) ++ [(.int k, v)]) (.int k) w = (ks.map fun x => (D.int x, g x)) ++ [(.int k, w)] := by
  unfold kvPut
  have : (((ks.map fun x => (D.int x, g x)) ++ [(D.int k, v)]).any fun kv => kEq kv.1 (.int k)) = true := by
    rw [List.any_append]
    simp
  rw [if_pos this, List.map_append]
  congr 1
  · rw [List.map_map]
    refine List.map_congr_left fun x hx => ?_
    have : ¬ x = k := fun z => h (z ▸ hx)
    simp -implicitDefEqProofs [this]
  · simp
theorem dSto_put {kvs kvs' : List (D × D)} {k : Int} {v : D} (h : kvs.length < sizeLine) (e : kvPut kvs (.int k) v = kvs') : dSto (.dct false kvs) (.int k) v = some (.dct false kvs') := by
  show (if isKey false (.int k) = true ∧ kvs.length < sizeLine then some (D.dct false (kvPut kvs (.int k) v)) else none) = _
  rw [if_pos ⟨rfl, h⟩, e]
def beI : FsN := (nSeq (nSto2 4 (fVar 7) (fVar 6) (fV (fOp2 dIx (fVar 8) (fVar 6))))
    (nIf (fT (fV (fOp2 dLe (fV (fOp2 dIx (fVar 0) (fVar 7))) (fVar 6)))) 4 (nSeq (nAsg 4 (.tp [9, 10]) (fV (fOp2 dIx (fVar 8) (fV (fOp2 dSub (fVar 6) (fV (fOp2 dIx (fVar 0) (fVar 7))))))))
    (nSto2 4 (fVar 7) (fVar 6) (fV (fCall g_better (fMv (fV (fOp2 dIx (fVar 8) (fVar 6))) (fMv (fV (fTup (fA (fV (fOp2 dAdd (fVar 9) (fV (fOp2 dIx (fVar 1) (fVar 7))))) (fA (fVar 10) (fA0))))) (fM0))) [])))) (nNext)))
theorem ixN_of {n k : Nat} (h : k < n) : ixN n (k : Int) = some k := by
  unfold ixN
  rw [if_pos (Int.natCast_nonneg _), if_pos (by omega)]
  simp
theorem set_mid {α : Type} (a c : List α) (x y : α) (k : Nat) (h : a.length = k) : (a ++ x :: c).set k y = a ++ y :: c := by
  subst h
  simp
theorem get_mid {α : Type} (a c : List α) (x : α) (k : Nat) (h : a.length = k) : (a ++ x :: c)[k]? = some x := by
  subst h
  simp
theorem be_in (is ws : List Int) (a2 a3 : Option SV) (a5 : Option SV) (k : Nat) (s w : Int) (l' ws' N : List Int) (hs : is[k]? = some s) (hw : ws[k]? = some w) (A C : List Kid) (hA : A.length = k) :
    ∀ (ks done : List Int) (x6 x9 x10 : Option SV), (done ++ ks).Nodup → (done ++ ks).length ≤ 1000 → (∀ q ∈ ks, q ∈ N ∧ (s ≤ q → q - s ∈ N)) → ∃ x6' x9' x10', loopN 4 (.nm 6) beI (ks.map .int) [some (.fz (iL is)), some (.fz (iL ws)), a2, a3, none, a5, x6, some (.fz (.int k)), some (.fz (encR N fun x => prD (bstC l' ws' x))), x9, x10] (A ++ .ex (encR done fun x => prD (bstC (s :: l') (w :: ws') x)) :: C) =
      some (.next, [some (.fz (iL is)), some (.fz (iL ws)), a2, a3, none, a5, x6', some (.fz (.int k)), some (.fz (encR N fun x => prD (bstC l' ws' x))), x9', x10'], A ++ .ex (encR (done ++ ks) fun x => prD (bstC (s :: l') (w :: ws') x)) :: C)
  | [], done, x6, x9, x10, _, _, _ => ⟨x6, x9, x10, by simp -implicitDefEqProofs [loopN]⟩
  | q :: ks, done, x6, x9, x10, hn, hl, hN => by
    have hq : q ∉ done := fun hm => (List.nodup_append.mp hn).2.2 q hm q (by simp) rfl
    obtain ⟨m1, m2⟩ := hN q (by simp)
    have hdl : (done.map fun x => (D.int x, prD (bstC (s :: l') (w :: ws') x))).length < sizeLine := by rw [sizeLine_eq]; simp at hl ⊢; omega
    have hdl2 : ∀ v, ((done.map fun x => (D.int x, prD (bstC (s :: l') (w :: ws') x))) ++ [(D.int q, v)]).length < sizeLine := fun v => by rw [sizeLine_eq]; simp at hl ⊢; omega
    have hix := ixN_of (show k < A.length + (C.length + 1) by omega)
    have e1 : atI (is.map D.int) (k : Int) = some (.int s) := atK (by simp -implicitDefEqProofs [hs])
    have e2 : atI (ws.map D.int) (k : Int) = some (.int w) := atK (by simp -implicitDefEqProofs [hw])
    have eD : (encR (done ++ [q]) fun x => prD (bstC (s :: l') (w :: ws') x)) = .dct false ((done.map fun x => (D.int x, prD (bstC (s :: l') (w :: ws') x))) ++ [(.int q, prD (bstC (s :: l') (w :: ws') q))]) := by simp -implicitDefEqProofs [encR]
    have eD0 : (encR done fun x => prD (bstC (s :: l') (w :: ws') x)) = .dct false (done.map fun x => (D.int x, prD (bstC (s :: l') (w :: ws') x))) := rfl
    have st1 := dSto_put hdl (kvPut_new done (fun x => prD (bstC (s :: l') (w :: ws') x)) (prD (bstC l' ws' q)) hq)
    have step : ∃ x9' x10', ((tgSet (.nm 6) (.int q) [some (.fz (iL is)), some (.fz (iL ws)), a2, a3, none, a5, x6, some (.fz (.int k)), some (.fz (encR N fun x => prD (bstC l' ws' x))), x9, x10]).bind fun δ1 => if noAt 4 δ1 = true then beI δ1 (A ++ .ex (encR done fun x => prD (bstC (s :: l') (w :: ws') x)) :: C) else none) =
        some (.next, [some (.fz (iL is)), some (.fz (iL ws)), a2, a3, none, a5, some (.fz (.int q)), some (.fz (.int k)), some (.fz (encR N fun x => prD (bstC l' ws' x))), x9', x10'], A ++ .ex (encR (done ++ [q]) fun x => prD (bstC (s :: l') (w :: ws') x)) :: C) := by
      have d1 := dIx_R (g := fun x => prD (bstC l' ws' x)) m1
      have g1 := fun y : Kid => get_mid A C y k hA
      have g2 := fun y z : Kid => set_mid A C y z k hA
      by_cases hsq : s ≤ q
      · have d2 := dIx_R (g := fun x => prD (bstC l' ws' x)) (m2 hsq)
        have hb := v_better (bstC l' ws' q) ((bstC l' ws' (q - s)).1 + w, (bstC l' ws' (q - s)).2)
        have hbv : bet (bstC l' ws' q) ((bstC l' ws' (q - s)).1 + w, (bstC l' ws' (q - s)).2) = bstC (s :: l') (w :: ws') q := by simp only [bstC, if_pos hsq]
        rw [hbv] at hb
        have st2 := dSto_put (hdl2 (prD (bstC l' ws' q))) (kvPut_again done (fun x => prD (bstC (s :: l') (w :: ws') x)) (prD (bstC l' ws' q)) (prD (bstC (s :: l') (w :: ws') q)) hq)
        rw [← eD] at st2
        rw [eD0]
        refine ⟨some (.fz (.int (bstC l' ws' (q - s)).1)), some (.fz (.int (bstC l' ws' (q - s)).2)), ?_⟩
        have hz : 2 ≤ sizeLine := by rw [sizeLine_eq]; decide
        generalize (encR (done ++ [q]) fun x => prD (bstC (s :: l') (w :: ws') x)) = R2 at *
        generalize (done.map fun x => (D.int x, prD (bstC (s :: l') (w :: ws') x))) = R0 at *
        generalize (encR N fun x => prD (bstC l' ws' x)) = RN at *
        generalize bstC (s :: l') (w :: ws') q = B2 at *
        generalize bstC l' ws' q = B0 at *
        generalize bstC l' ws' (q - s) = B1 at *
        have hp1 : prD B1 = .tup [.int B1.1, .int B1.2] := rfl
        have hp2 : prD (B1.1 + w, B1.2) = .tup [.int (B1.1 + w), .int B1.2] := rfl
        rw [hp2] at hb
        simp -implicitDefEqProofs [beI, d1, hix, g1, st1, g2, e1, hsq, d2, hp1, e2, hz, hb, st2]
      · have hbv : bstC l' ws' q = bstC (s :: l') (w :: ws') q := by simp only [bstC, if_neg hsq]
        rw [hbv, ← eD] at st1
        rw [hbv] at d1
        rw [eD0]
        refine ⟨x9, x10, ?_⟩
        generalize (encR (done ++ [q]) fun x => prD (bstC (s :: l') (w :: ws') x)) = R2 at *
        generalize (done.map fun x => (D.int x, prD (bstC (s :: l') (w :: ws') x))) = R0 at *
        generalize (encR N fun x => prD (bstC l' ws' x)) = RN at *
        generalize bstC (s :: l') (w :: ws') q = B2 at *
        simp -implicitDefEqProofs [beI, d1, hix, g1, st1, g2, e1, hsq]
    obtain ⟨y9, y10, hstep⟩ := step
    obtain ⟨x6', x9', x10', h⟩ := be_in is ws a2 a3 a5 k s w l' ws' N hs hw A C hA ks (done ++ [q]) (some (.fz (.int q))) y9 y10 (by simpa using hn) (by simpa using hl) fun p hp => hN p (List.mem_cons_of_mem _ hp)
    refine ⟨x6', x9', x10', ?_⟩
    rw [List.map_cons, loopN_next hstep, h]
    simp
end K85

set_option Elab.async false
set_option linter.all false
set_option autoImplicit false
set_option maxRecDepth 100000
namespace K85
open PySem PySem.Spec PyProof.Rows L2 L2.Tl
def beB : FsN := (nSeq (nLoad 4 8 (fV (fOp2 dAdd (fVar 7) (fC (.int 1)))))
    (nFor 4 (.nm 6) (fiOf seqOf (fV (fOp2 dIx (fVar 3) (fVar 7)))) beI))
theorem be_out (is ws : List Int) (a2 a5 : Option SV) (ks : List Int) (he : ws.length = is.length) (hl : is.length ≤ 8) (hk : ∀ K ∈ askedK is ks, K.length ≤ 1000 ∧ K.Nodup) : ∀ (k : Nat) (κ : List Kid) (x6 x7 x8 x9 x10 : Option SV), k ≤ is.length → κ.map Kid.d = (rowsB is ws ks).drop k → ∃ κ' x6' x7' x8' x9' x10', κ'.map Kid.d = rowsB is ws ks ∧
    loopN 4 (.nm 7) beB (rngD ((k : Int) - 1) (-1) k) [some (.fz (iL is)), some (.fz (iL ws)), a2, some (.fz (.lst ((askedK is ks).map encT))), none, a5, x6, x7, x8, x9, x10] (List.replicate k (.ex (.dct false [])) ++ κ) =
      some (.next, [some (.fz (iL is)), some (.fz (iL ws)), a2, some (.fz (.lst ((askedK is ks).map encT))), none, a5, x6', x7', x8', x9', x10'], κ')
  | 0, κ, x6, x7, x8, x9, x10, _, hκ => ⟨κ, x6, x7, x8, x9, x10, by simpa using hκ, by simp [rngD, loopN]⟩
  | k + 1, κ, x6, x7, x8, x9, x10, h, hκ => by
    obtain ⟨s, w, K, h1, h2, h3, h4, h5⟩ := downB_at is ws ks k he h
    have hK := hk K (List.mem_of_getElem? h3)
    obtain ⟨kid, κt, rfl, hkid, hκt⟩ : ∃ kid κt, κ = kid :: κt ∧ kid.d = (encR (nextK s K) fun x => prD (bstC (is.drop (k + 1)) (ws.drop (k + 1)) x)) ∧ κt.map Kid.d = (rowsB is ws ks).drop (k + 2) := by
      have h0 := rowsB_head (is.drop (k + 1)) (ws.drop (k + 1)) (nextK s K)
      rw [← h4, ← hκ] at h0
      cases κ with
      | nil => simp at h0
      | cons kid κt =>
        refine ⟨kid, κt, rfl, by simpa using h0, ?_⟩
        have := congrArg List.tail hκ
        simpa using this
    have hmem : ∀ q ∈ K, q ∈ nextK s K ∧ (s ≤ q → q - s ∈ nextK s K) := fun q hq => ⟨nextK_mem.mpr (.inl hq), fun hs => nextK_mem.mpr (.inr ⟨by simpa using hq, by omega⟩)⟩
    obtain ⟨y6, y9, y10, e1⟩ := be_in is ws a2 (some (.fz (.lst ((askedK is ks).map encT)))) a5 k s w (is.drop (k + 1)) (ws.drop (k + 1)) (nextK s K) h1 h2 (List.replicate k (.ex (.dct false []))) (.fr kid.d :: κt) (by simp) K [] x6 x9 x10 (by simpa using hK.2) (by simpa using hK.1) hmem
    obtain ⟨κ', x6', x7', x8', x9', x10', g1, g2⟩ := be_out is ws a2 a5 ks he hl hk k (.ex (encR K fun x => prD (bstC (s :: is.drop (k + 1)) (w :: ws.drop (k + 1)) x)) :: .fr kid.d :: κt) y6 (some (.fz (.int k))) (some (.fz kid.d)) y9 y10 (by omega) (by
      rw [h5, ← h4, ← hκ]
      rfl)
    refine ⟨κ', x6', x7', x8', x9', x10', g1, ?_⟩
    rw [show ((k + 1 : Nat) : Int) - 1 = k by push_cast; omega, rngD_down, ← g2]
    refine loopN_next ?_
    have e0 : encR [] (fun x => prD (bstC (s :: is.drop (k + 1)) (w :: ws.drop (k + 1)) x)) = .dct false [] := rfl
    rw [e0, ← hkid] at e1
    have e3 : atI ((askedK is ks).map encT) (k : Int) = some (encT K) := atK (by simp [h3])
    have hix : ixN (k + 1 + (κt.length + 1)) ((k : Int) + 1) = some (k + 1) := by
      have := ixN_of (show k + 1 < k + 1 + (κt.length + 1) by omega)
      simpa using this
    have hg : (List.replicate (k + 1) (Kid.ex (.dct false [])) ++ kid :: κt)[k + 1]? = some kid := get_mid _ _ _ _ (by simp)
    have hre : List.replicate k (Kid.ex (.dct false [])) ++ .ex (.dct false []) :: .fr kid.d :: κt = List.replicate (k + 1) (Kid.ex (.dct false [])) ++ .fr kid.d :: κt := by
      rw [List.replicate_succ']
      simp
    rw [hre] at e1
    simp only [List.nil_append] at e1
    simp -implicitDefEqProofs [beB, hix, hg, e3, e1]
theorem v_bests_there (is ws : List Int) (r : Int) (hs : Szs is) (he : ws.length = is.length) : g_bests_there [.fz (iL is), .fz (iL ws), .fz (.int r)] = some (.val (.lst (rowsB is ws [r])), []) := by
  have hl := hs.len
  have hp := pow8 hl
  have hok : ∀ K ∈ askedK is [r], K.length ≤ 1000 ∧ K.Nodup := fun K hK => by
    obtain ⟨a, b⟩ := askedK_ok is [r] (by simp) K hK
    exact ⟨by simp at a; omega, b⟩
  obtain ⟨K, k1, k2⟩ := askedB_last is ws [r] he
  have hK := hok K (List.mem_of_getLast? k1)
  have hK2 : K.length ≤ 16777216 := by omega
  have e2 : atI ((askedK is [r]).map encT) (-1) = some (encT K) := atI_last (by simp [k1])
  have hlen := askedK_length is [r]
  have e1 := lcN_mapF (vs := [5]) (t := .nm 5) (fn := fDct0 false) (δ := [some (.fz (iL is)), some (.fz (iL ws)), some (.fz (.int r)), some (.fz (.lst ((askedK is [r]).map encT))), none, none, none, none, none, none, none]) encT (fun _ => .new (.dct false [])) (xs := askedK is [r]) (fun x hx => by simp)
  have e1' : (askedK is [r]).map (fun x => kidOf (.new (.dct false []))) = List.replicate (is.length + 1) (Kid.ex (.dct false [])) := by
    rw [← hlen]
    simp [List.map_const']
  rw [e1'] at e1
  have hdc := dcM_mapF (vs := [6]) (t := .nm 6) (c := fYes) (fk := fVar 6) (fv := fV (fTup (fA (fC (.int 0)) (fA (fC (.int 1)) (fA0))))) (δ := [some (.fz (iL is)), some (.fz (iL ws)), some (.fz (.int r)), some (.fz (.lst ((askedK is [r]).map encT))), none, none, none, none, none, none, none]) D.int (fun q => (.int q, prD (0, 1))) (xs := K) (acc := []) (fun q hq => by
    have hz : 2 ≤ sizeLine := by rw [sizeLine_eq]; decide
    simp [dcTurn, hz, prD])
  have hm := kvMerge_R (fun _ => prD (0, 1)) hK.2
  rw [hm] at hdc
  have hix : ixN (is.length + 1) (-1) = some is.length := by
    unfold ixN
    rw [if_neg (by omega), if_pos (by omega)]
    congr 1
    omega
  obtain ⟨κ', x6', x7', x8', x9', x10', g1, g2⟩ := be_out is ws (some (.fz (.int r))) none [r] he hl hok is.length [.fr (encR K fun _ => prD (0, 1))] none none none none none (Nat.le_refl _) (by rw [k2]; rfl)
  have hset : (List.replicate (is.length + 1) (Kid.ex (.dct false []))).set is.length (.fr (encR K fun _ => prD (0, 1))) = List.replicate is.length (Kid.ex (.dct false [])) ++ [.fr (encR K fun _ => prD (0, 1))] := by
    rw [List.replicate_succ', List.set_append_right _ _ (by simp)]
    simp
  have hE : (D.dct false (K.map fun x => (D.int x, prD (0, 1)))) = encR K fun _ => prD (0, 1) := rfl
  have hb : f_bests_there g_better g_asked_rooms = sSeq (sSet 3 (fV (fCall g_asked_rooms (fMv (fVar 0) (fMv (fVar 2) (fM0))) [])))
    (sNew 4 (nLc [5] (fiOf seqOf (fVar 3)) (.nm 5) (fDct0 false))
    (rSeq (nSto1 4 (fNeg (fC (.int 1))) (fV (fDc [6] (fiOf seqOf (fV (fOp2 dIx (fVar 3) (fNeg (fC (.int 1)))))) (.nm 6) (fYes) (fVar 6) (fV (fTup (fA (fC (.int 0)) (fA (fC (.int 1)) (fA0))))))))
    (rSeq (nFor 4 (.nm 7) (fiA gRng3 (fA (fV (fOp2 dSub (fV (fBl gLen (fQ (fVar 0) (fQ0)))) (fC (.int 1)))) (fA (fNeg (fC (.int 1))) (fA (fNeg (fC (.int 1))) (fA0))))) beB) (rRet)))) := rfl
  have hb1 : b62 ((is.length : Int) - 1) = true := b62_of (by omega) (by omega)
  have hb2 : b62 (-1) = true := b62_of (by omega) (by omega)
  have ht : ((is.length : Int) - 1 - -1).toNat = is.length := by omega
  have h9 : is.length + 1 ≤ 16777216 := by omega
  have hsq : seqOf (.lst ((askedK is [r]).map encT)) = some ((askedK is [r]).map encT) := rfl
  simp -implicitDefEqProofs [g_bests_there, m_bests_there, hb, v_asked_rooms is r hs, sizeLine_eq, hlen, h9, e1, e2, hK2, hdc, hE, hix, hset, hb1, hb2, ht, g2, g1]
theorem atB0 (is ws : List Int) (r : Int) : atI (rowsB is ws [r]) 0 = some (encR [r] fun x => prD (bstC is ws x)) := atK (k := 0) (rowsB_head is ws [r])
theorem atPr0 (p : Int × Int) : dIx (prD p) (.int 0) = some (.val (.int p.1)) := by
  show (atI [D.int p.1, D.int p.2] 0).map OV.val = _
  rw [show atI [D.int p.1, D.int p.2] 0 = some (.int p.1) from atK (k := 0) rfl]
  rfl
theorem v_worth_there (is ws : List Int) (r : Int) (hs : Szs is) (he : ws.length = is.length) : g_worth_there [.fz (iL is), .fz (iL ws), .fz (.int r)] = some (.val (.int (bst is ws r)), []) := by
  have h1 : dIx (encR [r] fun x => prD (bstC is ws x)) (.int r) = some (.val (prD (bstC is ws r))) := dIx_R (by simp)
  simp -implicitDefEqProofs [g_worth_there, m_worth_there, f_worth_there, v_bests_there is ws r hs he, atB0, h1, atPr0, bstC_fst]
structure Wts (is ws : List Int) : Prop where
  nn : ∀ i ∈ ws, 0 ≤ i
  len : ws.length = is.length
theorem v_check_bag (is ws : List Int) (r : Int) (hs : Szs is) (hw : Wts is ws) (hr : 0 ≤ r) : g_check_bag [.fz (iL is), .fz (iL ws), .fz (.int r)] = some (.val .non, []) := by
  simp -implicitDefEqProofs [g_check_bag, m_check_bag, f_check_bag, v_check_sizes is hs.pos hs.le, v_check_room r hr, v_check_worths is ws hw.nn hw.len (hw.len ▸ hs.le)]
theorem v_bag_worth (is ws : List Int) (r : Int) (hs : Szs is) (hw : Wts is ws) (hr : 0 ≤ r) : g_bag_worth [.fz (iL is), .fz (iL ws), .fz (.int r)] = some (.val (.int (bst is ws r)), []) := by
  simp -implicitDefEqProofs [g_bag_worth, m_bag_worth, f_bag_worth, v_check_bag is ws r hs hw hr, v_worth_there is ws r hs hw.len]
end K85

set_option Elab.async false
set_option linter.all false
set_option autoImplicit false
set_option maxRecDepth 100000
namespace K85
open PySem PySem.Spec PyProof.Rows L2 L2.Tl
/-! ### the first best lot -/
def inAsk (l ks : List Int) (b : Nat) (x : Int) : Prop := ∃ K, (askedK l ks)[b]? = some K ∧ x ∈ K
theorem inAsk_step : ∀ {l ks : List Int} {b : Nat} {x : Int}, inAsk l ks b x → ∀ {s : Int}, l[b]? = some s → inAsk l ks (b + 1) x ∧ (s ≤ x → inAsk l ks (b + 1) (x - s))
  | [], _, _, _, _, _, h => by simp at h
  | a :: l, ks, 0, x, ⟨K, h1, h2⟩, s, h => by
    simp [askedK] at h1 h
    subst h1
    subst h
    have h0 : ∀ ks : List Int, (askedK l ks)[0]? = some ks := fun ks => by cases l <;> rfl
    exact ⟨⟨nextK a ks, by simpa [askedK] using h0 _, nextK_mem.mpr (.inl h2)⟩, fun hs => ⟨nextK a ks, by simpa [askedK] using h0 _, nextK_mem.mpr (.inr ⟨by simpa using h2, by omega⟩)⟩⟩
  | a :: l, ks, b + 1, x, ⟨K, h1, h2⟩, s, h => by
    obtain ⟨⟨K1, a1, a2⟩, c⟩ := inAsk_step (l := l) (ks := nextK a ks) (b := b) (x := x) ⟨K, by simpa [askedK] using h1, h2⟩ (s := s) (by simpa using h)
    refine ⟨⟨K1, by simpa [askedK] using a1, a2⟩, fun hs => ?_⟩
    obtain ⟨K2, b1, b2⟩ := c hs
    exact ⟨K2, by simpa [askedK] using b1, b2⟩
theorem inAsk_up {l ks : List Int} {b : Nat} {x : Int} (h : inAsk l ks b x) : ∀ j : Nat, b + j ≤ l.length → inAsk l ks (b + j) x
  | 0, _ => h
  | j + 1, hj => (inAsk_step (inAsk_up h j (by omega)) (s := l[b + j]'(by omega)) (by simp)).1
theorem rowsB_at : ∀ (l ws ks : List Int) (b : Nat), ws.length = l.length → b ≤ l.length → ∃ K, (askedK l ks)[b]? = some K ∧ (rowsB l ws ks)[b]? = some (encR K fun x => prD (bstC (l.drop b) (ws.drop b) x))
  | l, ws, ks, 0, _, _ => ⟨ks, by cases l <;> rfl, rowsB_head l ws ks⟩
  | [], _, _, _ + 1, _, h => by simp at h
  | _ :: _, [], _, _, h, _ => by simp at h
  | s :: l, w :: ws, ks, b + 1, he, h => by
    obtain ⟨K, a, c⟩ := rowsB_at l ws (nextK s ks) b (by simpa using he) (by simpa using h)
    exact ⟨K, by simpa [askedK] using a, by simpa [rowsB] using c⟩
theorem row_ix {l ws ks : List Int} {b : Nat} {x : Int} (he : ws.length = l.length) (hb : b ≤ l.length) (h : inAsk l ks b x) : ∃ R, atI (rowsB l ws ks) (b : Int) = some R ∧ dIx R (.int x) = some (.val (prD (bstC (l.drop b) (ws.drop b) x))) := by
  obtain ⟨K, a, c⟩ := rowsB_at l ws ks b he hb
  obtain ⟨K', a', m⟩ := h
  rw [a] at a'
  cases a'
  exact ⟨_, atK c, dIx_R m⟩
def nxP (is ws : List Int) (left need : Int) (t : Nat) : Bool := decide (ig is t ≤ left) && decide (bst (is.drop (t + 1)) (ws.drop (t + 1)) (left - ig is t) + ig ws t = need)
def ntB : Fs := (sIf (fTA (fT (fV (fOp2 dLe (fV (fOp2 dIx (fVar 0) (fVar 7))) (fVar 4)))) (fT (fV (fOp2 dEq (fV (fOp2 dAdd (fV (fOp2 dIx (fV (fOp2 dIx (fV (fOp2 dIx (fVar 2) (fV (fOp2 dAdd (fVar 7) (fC (.int 1)))))) (fV (fOp2 dSub (fVar 4) (fV (fOp2 dIx (fVar 0) (fVar 7))))))) (fC (.int 0)))) (fV (fOp2 dIx (fVar 1) (fVar 7))))) (fVar 5))))) (sEx (fMut isL 6 gApp (fA (fVar 7) (fA0)))) (sNext))
theorem nt_loop (is ws ks : List Int) (he : ws.length = is.length) (b : Nat) (left need : Int) (hin : inAsk is ks b left) (a3 : Option SV) : ∀ (ts : List Nat) (F : List D) (x : Option SV), (∀ t ∈ ts, b ≤ t ∧ t < is.length) → F.length + ts.length ≤ 1000 → ∃ x', loopM (.nm 7) ntB (ts.map fun t : Nat => .int (t : Int)) [some (.fz (iL is)), some (.fz (iL ws)), some (.fz (.lst (rowsB is ws ks))), a3, some (.fz (.int left)), some (.fz (.int need)), some (.own (.lst F)), x] =
    some (.next, [some (.fz (iL is)), some (.fz (iL ws)), some (.fz (.lst (rowsB is ws ks))), a3, some (.fz (.int left)), some (.fz (.int need)), some (.own (.lst (F ++ (ts.filter (nxP is ws left need)).map fun t : Nat => .int (t : Int)))), x'])
  | [], F, x, _, _ => ⟨x, by simp [loopM]⟩
  | t :: ts, F, x, hts, hF => by
    obtain ⟨t1, t2⟩ := hts t (by simp)
    have e1 : atI (is.map D.int) (t : Int) = some (.int (ig is t)) := atI_ig (by omega) (by omega)
    have e2 : atI (ws.map D.int) (t : Int) = some (.int (ig ws t)) := atI_ig (by omega) (by omega)
    have hi : inAsk is ks t left := by
      have := inAsk_up hin (t - b) (by omega)
      rwa [show b + (t - b) = t by omega] at this
    have hst := (inAsk_step hi (s := ig is t) (by simp [ig, t2])).2
    have hFl : F.length < 16777216 := by simp at hF; omega
    by_cases hs : ig is t ≤ left
    · obtain ⟨R, r1, r2⟩ := row_ix he (by omega : t + 1 ≤ is.length) (hst hs)
      rw [show ((t + 1 : Nat) : Int) = (t : Int) + 1 by push_cast; rfl] at r1
      have p0 := atPr0 (bstC (is.drop (t + 1)) (ws.drop (t + 1)) (left - ig is t))
      rw [bstC_fst] at p0
      by_cases hn : bst (is.drop (t + 1)) (ws.drop (t + 1)) (left - ig is t) + ig ws t = need
      · obtain ⟨x', h⟩ := nt_loop is ws ks he b left need hin a3 ts (F ++ [.int t]) (some (.fz (.int t))) (fun t' ht => hts t' (List.mem_cons_of_mem _ ht)) (by simp at hF ⊢; omega)
        have hp : nxP is ws left need t = true := by simp [nxP, hs, hn]
        refine ⟨x', ?_⟩
        rw [List.map_cons, List.filter_cons_of_pos hp, List.map_cons, ← List.append_cons] at *
        rw [← h]
        refine loopM_next ?_
        simp -implicitDefEqProofs [ntB, e1, e2, hs, r1, r2, p0, hn, sizeLine_eq, hFl]
      · obtain ⟨x', h⟩ := nt_loop is ws ks he b left need hin a3 ts F (some (.fz (.int t))) (fun t' ht => hts t' (List.mem_cons_of_mem _ ht)) (by simp at hF ⊢; omega)
        have hp : ¬ nxP is ws left need t = true := by simp [nxP, hs, hn]
        refine ⟨x', ?_⟩
        rw [List.map_cons, List.filter_cons_of_neg hp, ← h]
        refine loopM_next ?_
        simp -implicitDefEqProofs [ntB, e1, e2, hs, r1, r2, p0, hn]
    · obtain ⟨x', h⟩ := nt_loop is ws ks he b left need hin a3 ts F (some (.fz (.int t))) (fun t' ht => hts t' (List.mem_cons_of_mem _ ht)) (by simp at hF ⊢; omega)
      have hp : ¬ nxP is ws left need t = true := by simp [nxP, hs]
      refine ⟨x', ?_⟩
      rw [List.map_cons, List.filter_cons_of_neg hp, ← h]
      refine loopM_next ?_
      simp -implicitDefEqProofs [ntB, e1, hs]
theorem rngD_from (b n : Nat) : rngD (b : Int) 1 n = (List.range' b n).map fun t : Nat => .int (t : Int) := by
  rw [List.range'_eq_map_range, List.map_map]
  unfold rngD
  refine List.map_congr_left fun i _ => ?_
  simp
theorem v_next_things (is ws ks : List Int) (hl : is.length ≤ 8) (he : ws.length = is.length) (b : Nat) (left : Int) (hb : b ≤ is.length) (hin : inAsk is ks b left) : g_next_things [.fz (iL is), .fz (iL ws), .fz (.lst (rowsB is ws ks)), .fz (.int b), .fz (.int left)] =
    some (.new (.lst (((List.range' b (is.length - b)).filter (nxP is ws left (bst (is.drop b) (ws.drop b) left))).map fun t : Nat => .int (t : Int))), []) := by
  obtain ⟨R, r1, r2⟩ := row_ix he hb hin
  have p0 := atPr0 (bstC (is.drop b) (ws.drop b) left)
  rw [bstC_fst] at p0
  obtain ⟨x', h⟩ := nt_loop is ws ks he b left (bst (is.drop b) (ws.drop b) left) hin (some (.fz (.int b))) (List.range' b (is.length - b)) [] none (fun t ht => by
    have := List.mem_range'_1.mp ht
    omega) (by simp; omega)
  have hb1 : b62 (b : Int) = true := b62_of (by omega) (by omega)
  have hb2 : b62 (is.length : Int) = true := b62_of (by omega) (by omega)
  have ht : ((is.length : Int) - b).toNat = is.length - b := by omega
  have hf : f_next_things = sSeq (sPar [5, 6] (fP (fO (fV (fOp2 dIx (fV (fOp2 dIx (fV (fOp2 dIx (fVar 2) (fVar 3))) (fVar 4))) (fC (.int 0))))) (fP (fLst (fA0)) (fP0)))) (sSeq (sFor (.nm 7) (fiA gRng2 (fA (fVar 3) (fA (fV (fBl gLen (fQ (fVar 0) (fQ0)))) (fA0)))) ntB) (sRet (fMove 6))) := rfl
  have hz : 0 ≤ sizeLine := Nat.zero_le _
  simp only [List.nil_append] at h
  simp -implicitDefEqProofs [g_next_things, m_next_things, hf, r1, r2, p0, hz, hb1, hb2, ht, rngD_from, h]
def blC : Ft := (fT (fV (fOp2 dGt (fV (fOp2 dIx (fV (fOp2 dIx (fV (fOp2 dIx (fVar 3) (fVar 5))) (fVar 6))) (fC (.int 0)))) (fC (.int 0)))))
def blB : Fs := (sSeq (sSet 7 (fV (fOp2 dIx (fV (fCall g_next_things (fMv (fVar 0) (fMv (fVar 1) (fMv (fVar 3) (fMv (fVar 5) (fMv (fVar 6) (fM0)))))) [])) (fC (.int 0)))))
    (sPar [4, 5, 6] (fP (fO (fV (fOp2 dAdd (fVar 4) (fV (fLst (fA (fVar 7) (fA0))))))) (fP (fO (fV (fOp2 dAdd (fVar 7) (fC (.int 1))))) (fP (fO (fV (fOp2 dSub (fVar 6) (fV (fOp2 dIx (fVar 0) (fVar 7)))))) (fP0))))))
theorem bl_out (is ws ks : List Int) (hl : is.length ≤ 8) (hw : Wts is ws) (r : Int) (a2 : Option SV) : ∀ (m : Nat) (lot : List Int) (b : Nat) (x : Option SV), is.length - b = m → b ≤ is.length → Lot is.length lot → (∀ i ∈ lot, i < b) → sz is lot ≤ r → inAsk is ks b (r - sz is lot) → sz ws lot + bst (is.drop b) (ws.drop b) (r - sz is lot) = bst is ws r →
    ∃ lot' b' left' x', Lot is.length lot' ∧ sz is lot' ≤ r ∧ sz ws lot' = bst is ws r ∧ loopW blC blB (m + 1) [some (.fz (iL is)), some (.fz (iL ws)), a2, some (.fz (.lst (rowsB is ws ks))), some (.fz (iL lot)), some (.fz (.int b)), some (.fz (.int (r - sz is lot))), x] =
      some (.next, [some (.fz (iL is)), some (.fz (iL ws)), a2, some (.fz (.lst (rowsB is ws ks))), some (.fz (iL lot')), b', left', x'])
  | m, lot, b, x, hm, hb, hlot, hlt, hsz, hin, hbest => by
    obtain ⟨R, r1, r2⟩ := row_ix hw.len hb hin
    have p0 := atPr0 (bstC (is.drop b) (ws.drop b) (r - sz is lot))
    rw [bstC_fst] at p0
    by_cases h0 : 0 < bst (is.drop b) (ws.drop b) (r - sz is lot)
    · have hc : blC [some (.fz (iL is)), some (.fz (iL ws)), a2, some (.fz (.lst (rowsB is ws ks))), some (.fz (iL lot)), some (.fz (.int b)), some (.fz (.int (r - sz is lot))), x] = some (true, [some (.fz (iL is)), some (.fz (iL ws)), a2, some (.fz (.lst (rowsB is ws ks))), some (.fz (iL lot)), some (.fz (.int b)), some (.fz (.int (r - sz is lot))), x]) := by
        simp -implicitDefEqProofs [blC, r1, r2, p0, h0]
      obtain ⟨k, s, w, k1, k2, k3, k4⟩ := bst_next (is.drop b) (ws.drop b) (r - sz is lot) (by simp [hw.len]) h0
      have hbk : b + k < is.length := by
        have := (List.getElem?_eq_some_iff.mp k1).1
        simp at this
        omega
      have hnt := v_next_things is ws ks hl hw.len b (r - sz is lot) hb hin
      have hmem : b + k ∈ (List.range' b (is.length - b)).filter (nxP is ws (r - sz is lot) (bst (is.drop b) (ws.drop b) (r - sz is lot))) := by
        rw [List.mem_filter, List.mem_range'_1]
        refine ⟨by omega, ?_⟩
        rw [List.getElem?_drop] at k1 k2
        rw [List.drop_drop, List.drop_drop] at k4
        have g1 : ig is ((b + k : Nat) : Int) = s := by simp only [ig, Int.toNat_natCast, k1, Option.getD_some]
        have g2 : ig ws ((b + k : Nat) : Int) = w := by simp only [ig, Int.toNat_natCast, k2, Option.getD_some]
        simp only [nxP, g1, g2, Bool.and_eq_true, decide_eq_true_eq]
        rw [show b + (k + 1) = b + k + 1 by omega] at k4
        exact ⟨k3, k4⟩
      cases hF : (List.range' b (is.length - b)).filter (nxP is ws (r - sz is lot) (bst (is.drop b) (ws.drop b) (r - sz is lot))) with
      | nil => rw [hF] at hmem; cases hmem
      | cons t ts =>
        have ht : t ∈ (List.range' b (is.length - b)).filter (nxP is ws (r - sz is lot) (bst (is.drop b) (ws.drop b) (r - sz is lot))) := by rw [hF]; simp
        rw [List.mem_filter, List.mem_range'_1] at ht
        obtain ⟨⟨t1, t2⟩, t3⟩ := ht
        simp only [nxP, Bool.and_eq_true, decide_eq_true_eq] at t3
        rw [hF] at hnt
        have htl : t < is.length := by omega
        have e1 : atI (is.map D.int) (t : Int) = some (.int (ig is t)) := atI_ig (by omega) (by omega)
        have hi : inAsk is ks t (r - sz is lot) := by
          have := inAsk_up hin (t - b) (by omega)
          rwa [show b + (t - b) = t by omega] at this
        have hst := (inAsk_step hi (s := ig is t) (by simp [ig, htl])).2 t3.1
        have hs1 := sz_snoc is lot t
        have hs2 := sz_snoc ws lot t
        obtain ⟨n, rfl⟩ : ∃ n, m = n + 1 := ⟨m - 1, by omega⟩
        obtain ⟨lot', b', left', x', q1, q2, q3, q4⟩ := bl_out is ws ks hl hw r a2 (is.length - (t + 1)) (lot ++ [(t : Int)]) (t + 1) (some (.fz (.int t))) rfl (by omega) (hlot.snoc (by omega) (fun j hj => by have := hlt j hj; omega) (by omega)) (fun i hi => by
          simp at hi
          rcases hi with hi | rfl
          · have := hlt i hi; omega
          · omega) (by omega) (by rw [hs1, show r - (sz is lot + ig is t) = r - sz is lot - ig is t by omega]; exact hst) (by rw [hs1, hs2, show r - (sz is lot + ig is t) = r - sz is lot - ig is t by omega]; omega)
        refine ⟨lot', b', left', x', q1, q2, q3, ?_⟩
        have q4' := loopW_le (show is.length - (t + 1) + 1 ≤ n + 1 by omega) q4
        rw [← q4']
        refine loopW_next hc ?_
        have hz : 1 ≤ sizeLine := by rw [sizeLine_eq]; decide
        have hll : lot.length + 1 ≤ 16777216 := by have := hlot.length_le; omega
        have e0 : atI (((t :: ts).map fun t : Nat => D.int (t : Int))) 0 = some (.int (t : Int)) := atK (k := 0) (by simp)
        rw [show r - sz is (lot ++ [(t : Int)]) = r - sz is lot - ig is t by omega]
        generalize (((t :: ts).map fun t : Nat => D.int (t : Int))) = FF at *
        simp -implicitDefEqProofs [blB, hnt, e0, sizeLine_eq, hll, e1]
    · have hc : blC [some (.fz (iL is)), some (.fz (iL ws)), a2, some (.fz (.lst (rowsB is ws ks))), some (.fz (iL lot)), some (.fz (.int b)), some (.fz (.int (r - sz is lot))), x] = some (false, [some (.fz (iL is)), some (.fz (iL ws)), a2, some (.fz (.lst (rowsB is ws ks))), some (.fz (iL lot)), some (.fz (.int b)), some (.fz (.int (r - sz is lot))), x]) := by
        simp -implicitDefEqProofs [blC, r1, r2, p0, h0]
      have hnn := bst_nonneg (is.drop b) (ws.drop b) (r - sz is lot) fun i hi => hw.nn i (List.mem_of_mem_drop hi)
      exact ⟨lot, _, _, _, hlot, hsz, by omega, loopW_end hc⟩
theorem v_best_lot (is ws : List Int) (r : Int) (hs : Szs is) (hw : Wts is ws) (hr : 0 ≤ r) : ∃ lot, Lot is.length lot ∧ sz is lot ≤ r ∧ sz ws lot = bst is ws r ∧ g_best_lot [.fz (iL is), .fz (iL ws), .fz (.int r)] = some (.val (iL lot), []) := by
  obtain ⟨lot, b', left', x', h1, h2, h3, h4⟩ := bl_out is ws [r] hs.len hw r (some (.fz (.int r))) is.length [] 0 none (by simp) (Nat.zero_le _) ⟨.nil, by simp⟩ (by simp) (by simpa [sz] using hr) ⟨[r], by cases is <;> rfl, by simp [sz]⟩ (by simp [sz])
  refine ⟨lot, h1, h2, h3, ?_⟩
  have hf : f_best_lot g_next_things g_bests_there g_check_bag = sSeq (sEx (fCall g_check_bag (fMv (fVar 0) (fMv (fVar 1) (fMv (fVar 2) (fM0)))) []))
    (sSeq (sSet 3 (fV (fCall g_bests_there (fMv (fVar 0) (fMv (fVar 1) (fMv (fVar 2) (fM0)))) [])))
    (sSeq (sPar [4, 5, 6] (fP (fO (fV (fLst (fA0)))) (fP (fO (fC (.int 0))) (fP (fO (fVar 2)) (fP0)))))
    (sSeq (sWhile blC blB)
    (sRet (fO (fVar 4)))))) := rfl
  have hw2 := sWhile_of h4
  have e0 : sz is [] = 0 := rfl
  have e1 : iL [] = .lst [] := rfl
  simp -implicitDefEqProofs [e0, e1] at hw2
  simp -implicitDefEqProofs [g_best_lot, m_best_lot, hf, v_check_bag is ws r hs hw hr, v_bests_there is ws r hs hw.len, hw2]
end K85

set_option Elab.async false
set_option linter.all false
set_option autoImplicit false
set_option maxRecDepth 100000
namespace K85
open PySem PySem.Spec PyProof.Rows L2 L2.Tl
/-! ### dicts from ints to ints -/
def pI (p : Int × Int) : D × D := (.int p.1, .int p.2)
def encA (A : List (Int × Int)) : D := .dct false (A.map pI)
theorem any_keyA (A : List (Int × Int)) (k : Int) : ((A.map pI).any fun kv => kEq kv.1 (.int k)) = decide (k ∈ A.map (·.1)) := by
  induction A with
  | nil => simp
  | cons x A ih =>
    simp only [List.map_cons, List.any_cons, ih]
    show (kEq (.int x.1) (.int k) || _) = _
    rw [kEq_int]
    by_cases h : x.1 = k
    · subst h; simp
    · simp [h, Ne.symm h]
theorem kvPut_A (A : List (Int × Int)) (k v : Int) : ∃ A' : List (Int × Int), A'.map (·.1) = insT (A.map (·.1)) k ∧ kvPut (A.map pI) (.int k) (.int v) = A'.map pI := by
  unfold kvPut insT
  rw [any_keyA]
  by_cases h : k ∈ A.map (·.1)
  · rw [if_pos h, if_pos (decide_eq_true h)]
    refine ⟨A.map fun p => if p.1 = k then (p.1, v) else p, ?_, ?_⟩
    · rw [List.map_map]
      refine List.map_congr_left fun x _ => ?_
      simp only [Function.comp]
      split <;> rfl
    · rw [List.map_map, List.map_map]
      refine List.map_congr_left fun x _ => ?_
      simp only [Function.comp]
      show (if kEq (.int x.1) (.int k) = true then _ else _) = _
      rw [kEq_int]
      by_cases hx : x.1 = k
      · simp [hx, pI]
      · simp [hx]
  · rw [if_neg h, if_neg (by simpa using h)]
    exact ⟨A ++ [(k, v)], by simp, by simp [pI]⟩
theorem kvGet_A (A : List (Int × Int)) (k : Int) : (kvGet (A.map pI) (.int k) = none ∧ k ∉ A.map (·.1)) ∨ ∃ z, kvGet (A.map pI) (.int k) = some (.int z) := by
  unfold kvGet
  induction A with
  | nil => exact .inl ⟨rfl, by simp⟩
  | cons x A ih =>
    simp only [List.map_cons, List.find?_cons]
    have : kEq (pI x).1 (.int k) = decide (x.1 = k) := kEq_int _ _
    rw [this]
    by_cases h : x.1 = k
    · simp only [h, decide_true]
      exact .inr ⟨x.2, rfl⟩
    · simp only [h, decide_false]
      rcases ih with ⟨a, b⟩ | c
      · exact .inl ⟨a, by simp only [List.mem_cons, not_or]; exact ⟨Ne.symm h, b⟩⟩
      · exact .inr c
theorem dGet_A (A : List (Int × Int)) (k : Int) : ∃ z, dGetD (encA A) (.int k) (.int 0) = some (.int z) := by
  show ∃ z, (if isKey false (.int k) = true then some ((kvGet (A.map pI) (.int k)).getD (.int 0)) else none) = _
  rw [if_pos (show isKey false (.int k) = true from rfl)]
  rcases kvGet_A A k with ⟨a, _⟩ | ⟨z, a⟩
  · exact ⟨0, by rw [a]; rfl⟩
  · exact ⟨z, by rw [a]; rfl⟩
theorem dIx_A {A : List (Int × Int)} {k : Int} (h : k ∈ A.map (·.1)) : ∃ z, dIx (encA A) (.int k) = some (.val (.int z)) := by
  show ∃ z, (if isKey false (.int k) = true then (kvGet (A.map pI) (.int k)).map OV.val else none) = _
  rw [if_pos (show isKey false (.int k) = true from rfl)]
  rcases kvGet_A A k with ⟨_, b⟩ | ⟨z, a⟩
  · exact absurd h b
  · exact ⟨z, by rw [a]; rfl⟩
theorem dSto_A {A : List (Int × Int)} (k v : Int) (h : A.length ≤ 1000) : ∃ A' : List (Int × Int), A'.map (·.1) = insT (A.map (·.1)) k ∧ dSto (encA A) (.int k) (.int v) = some (encA A') := by
  obtain ⟨A', h1, h2⟩ := kvPut_A A k v
  refine ⟨A', h1, ?_⟩
  have hl : (A.map pI).length < sizeLine := by rw [sizeLine_eq]; simp; omega
  exact dSto_put hl h2
/-! ### heaps.sums_there -/
def hsI : Fs := (sSto 3 (fV (fOp2 dAdd (fVar 4) (fVar 2))) (fV (fOp2 dAdd (fV (fGet2 (fVar 3) (fV (fOp2 dAdd (fVar 4) (fVar 2))) (fC (.int 0)))) (fVar 5))))
def hsB : Fs := (sSeq (sOwn 3 (fBl gDict (fQ (fVar 1) (fQ0))))
    (sSeq (sFor (.tp [4, 5]) (fiOf itemsOf (fVar 1)) hsI)
    (sSet 1 (fVar 3))))
theorem len_fst {A : List (Int × Int)} : (A.map (·.1)).length = A.length := by simp
theorem hs_in (a0 a1 : Option SV) (s : Int) : ∀ (B A : List (Int × Int)) (x y : Option SV), A.length + B.length ≤ 1000 → ∃ (A' : List (Int × Int)) (x' y' : Option SV), A'.map (·.1) = updT (A.map (·.1)) (B.map fun p => p.1 + s) ∧
    loopM (.tp [4, 5]) hsI ((B.map pI).map Tl.pairD) [a0, a1, some (.fz (.int s)), some (.own (encA A)), x, y] = some (.next, [a0, a1, some (.fz (.int s)), some (.own (encA A')), x', y'])
  | [], A, x, y, _ => ⟨A, x, y, rfl, rfl⟩
  | (k, v) :: B, A, x, y, h => by
    obtain ⟨z, hz⟩ := dGet_A A (k + s)
    obtain ⟨A1, h1, h2⟩ := dSto_A (A := A) (k + s) (z + v) (by simp at h; omega)
    have hl : A1.length ≤ A.length + 1 := by
      have := len_insT (A.map (·.1)) (k + s)
      rw [← h1, len_fst, len_fst] at this
      exact this
    obtain ⟨A', x', y', g1, g2⟩ := hs_in a0 a1 s B A1 (some (.fz (.int k))) (some (.fz (.int v))) (by simp at h; omega)
    refine ⟨A', x', y', by rw [g1, h1]; rfl, ?_⟩
    rw [← g2]
    refine loopM_next ?_
    have hd : ∃ t kvs, encA A = .dct t kvs := ⟨_, _, rfl⟩
    obtain ⟨t, kvs, hd⟩ := hd
    rw [hd] at hz h2 ⊢
    simp -implicitDefEqProofs [hsI, Tl.pairD, pI, hz, h2]
theorem hs_out (a0 : Option SV) (s0 : Int) : ∀ (l pre : List Int) (A : List (Int × Int)) (x u y z : Option SV), pre.length + l.length ≤ 8 → A.length ≤ 2 ^ pre.length → (A.map (·.1)).Nodup → (∀ x, x ∈ A.map (·.1) ↔ x - s0 ∈ sm pre) → ∃ (A' : List (Int × Int)) (x' u' y' z' : Option SV), A'.length ≤ 256 ∧ (A'.map (·.1)).Nodup ∧ (∀ x, x ∈ A'.map (·.1) ↔ x - s0 ∈ sm (pre ++ l)) ∧
    loopM (.nm 2) hsB (l.map .int) [a0, some (.fz (encA A)), x, u, y, z] = some (.next, [a0, some (.fz (encA A')), x', u', y', z'])
  | [], pre, A, x, u, y, z, h8, hl, hn, hm => ⟨A, x, u, y, z, by have := pow8 (n := pre.length) (by simpa using h8); omega, hn, by simpa using hm, rfl⟩
  | s :: l, pre, A, x, u, y, z, h8, hl, hn, hm => by
    have hp := pow8 (n := pre.length) (by simp at h8; omega)
    obtain ⟨A1, y1, z1, g1, g2⟩ := hs_in a0 (some (.fz (encA A))) s A A y z (by omega)
    obtain ⟨u1, u2, u3⟩ := updT_ok (A.map fun p => p.1 + s) (A.map (·.1)) hn
    rw [← g1] at u1 u2 u3
    obtain ⟨A', x', u', y', z', q1, q2, q3, q4⟩ := hs_out a0 s0 l (pre ++ [s]) A1 (some (.fz (.int s))) (some (.fz (encA A1))) y1 z1 (by simp at h8 ⊢; omega) (by simp [Nat.pow_succ] at u2 ⊢; omega) u1 (fun x => by
      rw [u3, mem_snoc, hm x, List.mem_map]
      refine or_congr_right ?_
      constructor
      · rintro ⟨p, hp, rfl⟩
        have := (hm p.1).mp (List.mem_map.mpr ⟨p, hp, rfl⟩)
        rwa [show p.1 + s - s0 - s = p.1 - s0 by omega]
      · intro h
        obtain ⟨p, hp, e⟩ := List.mem_map.mp ((hm (x - s)).mpr (by rwa [show x - s - s0 = x - s0 - s by omega]))
        exact ⟨p, hp, by omega⟩)
    refine ⟨A', x', u', y', z', q1, q2, by simpa using q3, ?_⟩
    rw [← q4]
    refine loopM_next ?_
    have e1 : gDict [encA A] = some (.new (encA A)) := rfl
    have e2 : itemsOf (encA A) = some ((A.map pI).map Tl.pairD) := rfl
    generalize ((A.map pI).map Tl.pairD) = IT at *
    simp -implicitDefEqProofs [hsB, e1, e2, g2]
theorem v_hsums (s : Int) (l : List Int) (hs : Szs (s :: l)) : ∃ A : List (Int × Int), A.length ≤ 256 ∧ (A.map (·.1)).Nodup ∧ (∀ x, x ∈ A.map (·.1) ↔ x - s ∈ sm l) ∧ g_sums_there [.fz (iL (s :: l))] = some (.val (encA A), []) := by
  obtain ⟨A, x', u', y', z', q1, q2, q3, q4⟩ := hs_out (some (.fz (iL (s :: l)))) s l [] [(s, 1)] none none none none (by have := hs.len; simp at this ⊢; omega) (by simp) (by simp) (fun x => by simp [sm]; omega)
  refine ⟨A, q1, q2, by simpa using q3, ?_⟩
  have hf : f_sums_there = sSeq (sSet 1 (fV (fDisp (fDk (fV (fBl gSum (fQ (fV (fCut (fVar 0) (fPart0) (fPart (fC (.int 1))))) (fQ0)))) (fC (.int 1)) (fD0))))) (sSeq (sFor (.nm 2) (fiOf seqOf (fV (fCut (fVar 0) (fPart (fC (.int 1))) (fPart0)))) hsB) (sRet (fO (fVar 1)))) := rfl
  have e0 : D.dct false (kvMerge [] [(.int s, .int 1)]) = encA [(s, 1)] := rfl
  have e1 : cutD ((s :: l).map D.int) none (some 1) = [.int s] := by rw [cutD_to (by omega)]; rfl
  have e2 : cutD ((s :: l).map D.int) (some 1) none = l.map .int := by rw [cutD_from (by omega)]; rfl
  have e3 : intsOf [D.int s] = some [s] := rfl
  simp only [List.map_cons] at e1 e2 q4
  simp -implicitDefEqProofs [g_sums_there, m_sums_there, hf, e1, e2, e3, e0, q4]
/-! ### gaps -/
def gapL (is : List Int) : List Int := (smL is).map fun n => absI (is.sum - 2 * n)
/-- the least gap -/
def lgap (is : List Int) : Int := ((gapL is).min?).getD 0
theorem gapL_min (is : List Int) (hs : Szs is) : (gapL is).min? = some (lgap is) := by
  have : 0 ∈ smL is := (mem_smL hs.nn).mpr (sm_zero _)
  unfold lgap
  cases h : (gapL is).min? with
  | none =>
    have h0 := List.min?_eq_none_iff.mp h
    have : gapL is ≠ [] := by
      intro z
      have hm : absI (is.sum - 2 * 0) ∈ gapL is := List.mem_map.mpr ⟨0, this, rfl⟩
      rw [z] at hm
      cases hm
    exact absurd h0 this
  | some g => rfl
theorem mem_gapL {s : Int} {l : List Int} (hs : Szs (s :: l)) {g : Int} : g ∈ gapL (s :: l) ↔ ∃ x ∈ sm l, absI (2 * (s + x) - (s :: l).sum) = g := by
  rw [← gap_iff]
  unfold gapL
  rw [List.mem_map]
  constructor
  · rintro ⟨n, h, e⟩
    exact ⟨n, (mem_smL hs.nn).mp h, e⟩
  · rintro ⟨n, h, e⟩
    exact ⟨n, (mem_smL hs.nn).mpr h, e⟩
theorem min_same {a b : List Int} {m : Int} (h : a.min? = some m) (e : ∀ x, x ∈ a ↔ x ∈ b) : b.min? = some m := by
  obtain ⟨h1, h2⟩ := List.min?_eq_some_iff.mp h
  exact min_is ((e m).mp h1) fun x hx => h2 x ((e x).mpr hx)
theorem v_least_there (s : Int) (l : List Int) (hs : Szs (s :: l)) : g_least_there [.fz (iL (s :: l))] = some (.val (.int (lgap (s :: l))), []) := by
  obtain ⟨A, h1, h2, h3, h4⟩ := v_hsums s l hs
  have e0 : seqOf (encA A) = some ((A.map (·.1)).map .int) := by
    show some ((A.map pI).map (·.1)) = _
    rw [List.map_map, List.map_map]
    rfl
  have hl : A.length ≤ 16777216 := by omega
  have hm : mulOk 2 = fun _ => true := by funext j; exact mulOk_l (by omega) (by omega)
  have e1 := lcM_mapF (vs := [2]) (t := .nm 2) (c := fYes) (f := (fV (fBl gAbs (fQ (fV (fOp2 dSub (fV (fOp2 dMul (fC (.int 2)) (fVar 2))) (fVar 1))) (fQ0))))) (δ := [some (.fz (iL (s :: l))), some (.fz (.int (s :: l).sum)), none]) D.int (fun x => .int (absI (2 * x - (s :: l).sum))) (xs := A.map (·.1)) (fun x _ => by
    simp -implicitDefEqProofs [lcTurn, hm, absI])
  have e2 : intsOf ((A.map (·.1)).map fun x => D.int (absI (2 * x - (s :: l).sum))) = some ((A.map (·.1)).map fun x => absI (2 * x - (s :: l).sum)) := intsOf_mapF _ _
  have e3 : ((A.map (·.1)).map fun x => absI (2 * x - (s :: l).sum)).min? = some (lgap (s :: l)) := by
    refine min_same (gapL_min _ hs) fun g => ?_
    rw [mem_gapL hs, List.mem_map]
    constructor
    · rintro ⟨x, hx, e⟩
      exact ⟨s + x, (h3 _).mpr (by rwa [show s + x - s = x by omega]), e⟩
    · rintro ⟨x, hx, e⟩
      exact ⟨x - s, (h3 x).mp hx, by rw [show s + (x - s) = x by omega]; exact e⟩
  have hlen : (A.map (·.1)).length ≤ 16777216 := by simpa using hl
  generalize (A.map (·.1)) = ks at *
  have e4 : intsOf (D.int s :: l.map D.int) = some (s :: l) := by rw [← List.map_cons]; exact intsOf_map _
  simp only [List.map_cons, List.sum_cons] at e1 e2 e3 e4
  generalize (ks.map fun x => D.int (absI (2 * x - (s + l.sum)))) = L1 at *
  simp -implicitDefEqProofs [g_least_there, m_least_there, f_least_there, h4, e0, sizeLine_eq, hlen, e1, e2, e3, e4]
theorem v_least_gap (s : Int) (l : List Int) (hs : Szs (s :: l)) : g_least_gap [.fz (iL (s :: l))] = some (.val (.int (lgap (s :: l))), []) := by
  have h1 := v_check_sizes (s :: l) hs.pos hs.le
  have h2 := v_least_there s l hs
  generalize iL (s :: l) = I at *
  simp -implicitDefEqProofs [g_least_gap, m_least_gap, f_least_gap, h1, h2]
end K85

set_option Elab.async false
set_option linter.all false
set_option autoImplicit false
set_option maxRecDepth 100000
namespace K85
open PySem PySem.Spec PyProof.Rows L2 L2.Tl
/-! ### gap_counts -/
def gcB : Fs := (sSeq (sSet 5 (fV (fBl gAbs (fQ (fV (fOp2 dSub (fV (fOp2 dMul (fC (.int 2)) (fVar 3))) (fVar 1))) (fQ0)))))
    (sSto 2 (fVar 5) (fV (fOp2 dAdd (fV (fGet2 (fVar 2) (fVar 5) (fC (.int 0)))) (fVar 4)))))
theorem mulOk2 : mulOk 2 = fun _ => true := by funext j; exact mulOk_l (by omega) (by omega)
theorem gc_loop (a0 : Option SV) (W : Int) : ∀ (B A : List (Int × Int)) (x y z : Option SV), plO z = true → A.length + B.length ≤ 1000 → ∃ (A' : List (Int × Int)) (x' y' z' : Option SV), plO z' = true ∧ A'.map (·.1) = updT (A.map (·.1)) (B.map fun p => absI (2 * p.1 - W)) ∧
    loopM (.tp [3, 4]) gcB ((B.map pI).map Tl.pairD) [a0, some (.fz (.int W)), some (.own (encA A)), x, y, z] = some (.next, [a0, some (.fz (.int W)), some (.own (encA A')), x', y', z'])
  | [], A, x, y, z, hp, _ => ⟨A, x, y, z, hp, rfl, rfl⟩
  | (k, v) :: B, A, x, y, z, hp, h => by
    obtain ⟨c, hc⟩ := dGet_A A (absI (2 * k - W))
    obtain ⟨A1, h1, h2⟩ := dSto_A (A := A) (absI (2 * k - W)) (c + v) (by simp at h; omega)
    have hl : A1.length ≤ A.length + 1 := by
      have := len_insT (A.map (·.1)) (absI (2 * k - W))
      rw [← h1, len_fst, len_fst] at this
      exact this
    obtain ⟨A', x', y', z', hp', g1, g2⟩ := gc_loop a0 W B A1 (some (.fz (.int k))) (some (.fz (.int v))) (some (.fz (.int (absI (2 * k - W))))) rfl (by simp at h; omega)
    refine ⟨A', x', y', z', hp', by rw [g1, h1]; rfl, ?_⟩
    rw [← g2]
    refine loopM_next ?_
    have hd : ∃ t kvs, encA A = .dct t kvs := ⟨_, _, rfl⟩
    obtain ⟨t, kvs, hd⟩ := hd
    rw [hd] at hc h2 ⊢
    have ha : gAbs [.int (2 * k - W)] = some (.val (.int (absI (2 * k - W)))) := rfl
    simp -implicitDefEqProofs [gcB, Tl.pairD, pI, hc, h2, mulOk2, ha, -gAbs_int]
/-- sorted(gap_counts(sizes)) and what the law tells -/
theorem v_gap_counts (s : Int) (l : List Int) (hs : Szs (s :: l)) : ∃ kvs, g_gap_counts [.fz (iL (s :: l))] = some (.new (.dct false kvs), []) ∧ gSorted [.dct false kvs] = some (.new (iL (sortI (updT [] (gapL (s :: l)))))) := by
  obtain ⟨A, h1, h2, h3, h4⟩ := v_hsums s l hs
  obtain ⟨A', x', y', z', hpz, g1, g2⟩ := gc_loop (some (.fz (iL (s :: l)))) (s :: l).sum A [] none none none rfl (by simp; omega)
  obtain ⟨u1, u2, u3⟩ := updT_ok (A.map fun p => absI (2 * p.1 - (s :: l).sum)) [] .nil
  obtain ⟨w1, w2, w3⟩ := updT_ok (gapL (s :: l)) [] .nil
  simp only [List.map_nil] at g1
  rw [← g1] at u1 u2 u3
  have hsame : sortI (A'.map (·.1)) = sortI (updT [] (gapL (s :: l))) := by
    refine sorted_eq (sorted_sortI u1) (sorted_sortI w1) fun g => ?_
    rw [(sortI_perm _).mem_iff, (sortI_perm _).mem_iff, u3, w3, mem_gapL hs]
    simp only [List.not_mem_nil, false_or, List.mem_map]
    constructor
    · rintro ⟨p, hp, e⟩
      exact ⟨p.1 - s, (h3 p.1).mp (List.mem_map.mpr ⟨p, hp, rfl⟩), by rw [show s + (p.1 - s) = p.1 by omega]; exact e⟩
    · rintro ⟨x, hx, e⟩
      obtain ⟨p, hp, ep⟩ := List.mem_map.mp ((h3 (s + x)).mpr (by rwa [show s + x - s = x by omega]))
      exact ⟨p, hp, by rw [ep]; exact e⟩
  have hl : A'.length ≤ 256 := by
    simp at u2
    omega
  have hkeys : (A'.map pI).map (·.1) = (A'.map (·.1)).map D.int := by
    rw [List.map_map, List.map_map]
    rfl
  have e1 : gSorted [encA A'] = some (.new (iL (sortI (A'.map (·.1))))) := by
    show (intsOf ((A'.map pI).map (·.1))).map _ = _
    rw [hkeys, intsOf_map]
    rfl
  have hperm := sortI_perm (A'.map (·.1))
  have hlen : (sortI (A'.map (·.1))).length ≤ 16777216 := by rw [hperm.length_eq]; simp; omega
  have hz : ∀ k ∈ sortI (A'.map (·.1)), ∃ z, dIx (encA A') (.int k) = some (.val (.int z)) := fun k hk => dIx_A (hperm.mem_iff.mp hk)
  have hdc := dcM_mapF (vs := [5]) (t := .nm 5) (c := fYes) (fk := fVar 5) (fv := fV (fOp2 dIx (fVar 2) (fVar 5))) (δ := [some (.fz (iL (s :: l))), some (.fz (.int (s :: l).sum)), some (.own (encA A')), x', y', none]) D.int (fun q => (.int q, ((dIx (encA A') (.int q)).map OV.d).getD .non)) (xs := sortI (A'.map (·.1))) (acc := []) (fun q hq => by
    obtain ⟨z, hz⟩ := hz q hq
    simp -implicitDefEqProofs [dcTurn, hz])
  have hnd : (sortI (A'.map (·.1))).Nodup := hperm.nodup_iff.mpr u1
  have hm := kvMerge_R (fun q => ((dIx (encA A') (.int q)).map OV.d).getD .non) hnd
  rw [hm] at hdc
  refine ⟨(sortI (A'.map (·.1))).map fun x => (D.int x, ((dIx (encA A') (.int x)).map OV.d).getD .non), ?_, ?_⟩
  rotate_left
  · show (intsOf (((sortI (A'.map (·.1))).map fun x => (D.int x, ((dIx (encA A') (.int x)).map OV.d).getD .non)).map (·.1))).map _ = _
    rw [List.map_map]
    have : ((sortI (A'.map (·.1))).map ((·.1) ∘ fun x => (D.int x, ((dIx (encA A') (.int x)).map OV.d).getD .non))) = (sortI (A'.map (·.1))).map D.int := rfl
    rw [this, intsOf_map, hsame]
    have : sortI (sortI (updT [] (gapL (s :: l)))) = sortI (updT [] (gapL (s :: l))) := (sortI_uniq (.refl _) (sortI_sorted _)).symm
    show some (OV.new (iL (sortI (sortI _)))) = _
    rw [this]
  · have hf : f_gap_counts g_sums_there g_check_sizes = sSeq (sEx (fCall g_check_sizes (fMv (fVar 0) (fM0)) []))
      (sSeq (sPar [1, 2] (fP (fO (fV (fBl gSum (fQ (fVar 0) (fQ0))))) (fP (fDct0 false) (fP0))))
      (sSeq (sFor (.tp [3, 4]) (fiOf itemsOf (fV (fCall g_sums_there (fMv (fVar 0) (fM0)) []))) gcB)
      (sRet (fDc [5] (fiOf seqOf (fV (fBl gSorted (fQ (fVar 2) (fQ0))))) (.nm 5) (fYes) (fVar 5) (fV (fOp2 dIx (fVar 2) (fVar 5))))))) := rfl
    have e2 : itemsOf (encA A) = some ((A.map pI).map Tl.pairD) := rfl
    have e4 : intsOf (D.int s :: l.map D.int) = some (s :: l) := by rw [← List.map_cons]; exact intsOf_map _
    have e5 : D.dct false [] = encA [] := rfl
    have hck := v_check_sizes (s :: l) hs.pos hs.le
    simp only [List.map_cons, List.sum_cons] at e4 hck h4 g2 hdc
    generalize (List.map Tl.pairD (List.map pI A)) = IT at *
    rcases plO_cases hpz with rfl | ⟨dz, rfl⟩
    · simp -implicitDefEqProofs [g_gap_counts, m_gap_counts, hf, hck, h4, e2, e4, e5, g2, e1, sizeLine_eq, hlen, hdc]
    · simp -implicitDefEqProofs [g_gap_counts, m_gap_counts, hf, hck, h4, e2, e4, e5, g2, e1, sizeLine_eq, hlen, hdc]
end K85

set_option Elab.async false
set_option linter.all false
set_option autoImplicit false
set_option maxRecDepth 100000
namespace K85
open PySem PySem.Spec PyProof.Rows L2 L2.Tl
/-! ### ends_there -/
structure EndOk (l ks : List Int) : Prop where
  nd : ks.Nodup
  le : ks.length ≤ 2 ^ l.length
  mem : ∀ x, x ∈ ks ↔ x ∈ sm l
inductive EndsOk : List Int → List (List Int) → Prop
  | nil {ks : List Int} : EndOk [] ks → EndsOk [] [ks]
  | cons {s : Int} {l ks : List Int} {es : List (List Int)} : EndOk (s :: l) ks → EndsOk l es → EndsOk (s :: l) (ks :: es)
theorem EndsOk.head {l : List Int} {es : List (List Int)} (h : EndsOk l es) : ∃ ks et, es = ks :: et ∧ EndOk l ks := by
  cases h with
  | nil h => exact ⟨_, _, rfl, h⟩
  | cons h _ => exact ⟨_, _, rfl, h⟩
theorem EndsOk.at : ∀ {l : List Int} {es : List (List Int)}, EndsOk l es → ∀ k, k ≤ l.length → ∃ ks, es[k]? = some ks ∧ EndOk (l.drop k) ks
  | _, _, .nil h, k, hk => by
    have : k = 0 := by simpa using hk
    subst this
    exact ⟨_, rfl, h⟩
  | _, _, .cons h r, 0, _ => ⟨_, rfl, h⟩
  | _, _, .cons h r, k + 1, hk => by
    obtain ⟨ks, a, b⟩ := r.at k (by simpa using hk)
    exact ⟨ks, by simpa using a, by simpa using b⟩
theorem EndsOk.length : ∀ {l : List Int} {es : List (List Int)}, EndsOk l es → es.length = l.length + 1
  | _, _, .nil _ => rfl
  | _, _, .cons _ r => by simp [r.length]
def enI : Fs := (sSto 3 (fV (fOp2 dAdd (fVar 4) (fVar 2))) (fC (.bl true)))
def enB : Fs := (sSeq (sOwn 3 (fBl gDict (fQ (fV (fOp2 dIx (fVar 1) (fNeg (fC (.int 1))))) (fQ0))))
    (sSeq (sFor (.nm 4) (fiOf seqOf (fV (fOp2 dIx (fVar 1) (fNeg (fC (.int 1)))))) enI)
    (sEx (fMut isL 1 gApp (fA (fVar 3) (fA0))))))
theorem en_in (a0 a1 : Option SV) (s : Int) : ∀ (B A : List Int) (x : Option SV), A.length + B.length ≤ 1000 → ∃ x', loopM (.nm 4) enI (B.map .int) [a0, a1, some (.fz (.int s)), some (.own (encT A)), x] = some (.next, [a0, a1, some (.fz (.int s)), some (.own (encT (updT A (B.map (· + s))))), x'])
  | [], A, x, _ => ⟨x, rfl⟩
  | k :: B, A, x, h => by
    obtain ⟨x', g⟩ := en_in a0 a1 s B (insT A (k + s)) (some (.fz (.int k))) (by have := len_insT A (k + s); simp at h; omega)
    refine ⟨x', ?_⟩
    have e : updT A ((k :: B).map (· + s)) = updT (insT A (k + s)) (B.map (· + s)) := rfl
    rw [e, ← g]
    refine loopM_next ?_
    have hd : A.length < sizeLine := by rw [sizeLine_eq]; simp at h; omega
    simp -implicitDefEqProofs [enI, dSto_T hd]
theorem en_out (a0 : Option SV) : ∀ (rl l : List Int) (es : List (List Int)) (x y z : Option SV), l.length + rl.length ≤ 8 → EndsOk l es → ∃ (es' : List (List Int)) (x' y' z' : Option SV), EndsOk (rl.reverse ++ l) es' ∧
    loopM (.nm 2) enB (rl.map .int) [a0, some (.own (.lst (es.reverse.map encT))), x, y, z] = some (.next, [a0, some (.own (.lst (es'.reverse.map encT))), x', y', z'])
  | [], l, es, x, y, z, _, h => ⟨es, x, y, z, h, rfl⟩
  | s :: rl, l, es, x, y, z, h8, h => by
    obtain ⟨ks, et, rfl, hk⟩ := h.head
    have hp := pow8 (n := l.length) (by simp at h8; omega)
    have hlk := hk.le
    obtain ⟨u1, u2, u3⟩ := updT_ok (ks.map (· + s)) ks hk.nd
    obtain ⟨z1, e1⟩ := en_in a0 (some (.own (.lst ((ks :: et).reverse.map encT)))) s ks ks z (by omega)
    have hnew : EndsOk (s :: l) (updT ks (ks.map (· + s)) :: ks :: et) := .cons ⟨u1, by simp [Nat.pow_succ] at u2 ⊢; omega, fun x => by
      rw [u3]
      simp only [sm, List.mem_append, List.mem_map]
      rw [hk.mem]
      refine or_congr_right ?_
      constructor
      · rintro ⟨y, hy, rfl⟩
        exact ⟨y, (hk.mem y).mp hy, by omega⟩
      · rintro ⟨y, hy, rfl⟩
        exact ⟨y, (hk.mem y).mpr hy, by omega⟩⟩ h
    obtain ⟨es', x', y', z', g1, g2⟩ := en_out a0 rl (s :: l) _ (some (.fz (.int s))) (some (.fz (encT (updT ks (ks.map (· + s)))))) z1 (by simp at h8 ⊢; omega) hnew
    refine ⟨es', x', y', z', by simpa using g1, ?_⟩
    rw [← g2, List.map_cons]
    refine loopM_next ?_
    have e2 : atI ((ks :: et).reverse.map encT) (-1) = some (encT ks) := atI_last (by simp)
    have e3 : gDict [encT ks] = some (.new (encT ks)) := rfl
    have hl2 := h.length
    have e5 : ((ks :: et).reverse.map encT).length < 16777216 := by
      simp at hl2 h8 ⊢
      omega
    have e4 : ((updT ks (ks.map (· + s)) :: ks :: et).reverse.map encT) = (ks :: et).reverse.map encT ++ [encT (updT ks (ks.map (· + s)))] := by simp
    rw [e4]
    generalize ((ks :: et).reverse.map encT) = ES at *
    simp -implicitDefEqProofs [enB, e2, e3, e1, sizeLine_eq, e5]
theorem v_ends_there (is : List Int) (hs : Szs is) : ∃ es, EndsOk is es ∧ g_ends_there [.fz (iL is)] = some (.new (.lst (es.map encT)), []) := by
  obtain ⟨es, x', y', z', g1, g2⟩ := en_out (some (.fz (iL is))) is.reverse [] [[0]] none none none (by simpa using hs.len) (.nil ⟨by simp, by simp, fun x => by simp [sm]⟩)
  refine ⟨es, by simpa using g1, ?_⟩
  have hf : f_ends_there = sSeq (sOwn 1 (fLst (fA (fV (fDisp (fDk (fC (.int 0)) (fC (.bl true)) (fD0)))) (fA0)))) (sSeq (sFor (.nm 2) (fiOf seqOf (fV (fRevL (fVar 0)))) enB) (sRet (fRevL (fVar 1)))) := rfl
  have e0 : D.dct false (kvMerge [] [(.int 0, .bl true)]) = encT [0] := rfl
  have e1 : (is.map D.int).reverse = is.reverse.map .int := by simp
  have hz : 1 ≤ sizeLine := by rw [sizeLine_eq]; decide
  have e2 : ([[0]].reverse.map encT) = [encT [0]] := rfl
  rw [e2] at g2
  have e3 : (es.reverse.map encT).reverse = es.map encT := by simp
  generalize is.reverse.map D.int = RV at *
  generalize es.reverse.map encT = ES at *
  simp -implicitDefEqProofs [g_ends_there, m_ends_there, hf, e0, hz, e1, g2, e3, -List.map_reverse]
/-! ### split_with -/
def swA : Fs := (sSet 7 (fV (fLc [4] (fiOf seqOf (fVar 3)) (.nm 4) (fYes) (fV (fOp2 dSub (fV (fOp2 dDiv (fVar 4) (fC (.int 2)))) (fV (fCall g_size_there (fMv (fVar 0) (fMv (fVar 6) (fM0))) [])))))))
def swS : Fs := (sSet 9 (fV (fLc [10] (fiA gRng2 (fA (fVar 8) (fA (fV (fBl gLen (fQ (fVar 0) (fQ0)))) (fA0)))) (.nm 10) (fT (fV (fBl gAny (fQ (fV (fLc [4] (fiOf seqOf (fVar 7)) (.nm 4) (fYes) (fV (fOp2 dIn (fV (fOp2 dSub (fVar 4) (fV (fOp2 dIx (fVar 0) (fVar 10))))) (fV (fOp2 dIx (fVar 5) (fV (fOp2 dAdd (fVar 10) (fC (.int 1)))))))))) (fQ0))))) (fVar 10))))
def swF : Fs := (sSet 8 (fV (fIfN (fT (fV (fOp2 dNe (fVar 6) (fV (fLst (fA0)))))) (fOp2 dAdd (fV (fOp2 dIx (fVar 6) (fNeg (fC (.int 1))))) (fC (.int 1))) (fBl gLen (fQ (fVar 0) (fQ0))))))
def swE : Fs := (sSet 6 (fV (fOp2 dAdd (fVar 6) (fV (fCut (fVar 9) (fPart0) (fPart (fC (.int 1))))))))
def swB : Fs := (sSeq swA
    (sSeq (sIf (fT (fV (fOp2 dIn (fC (.int 0)) (fVar 7)))) (sRet (fO (fVar 6))) (sNext))
    (sSeq swF
    (sSeq swS
    (sSeq (sIf (fT (fV (fOp2 dEq (fVar 9) (fV (fLst (fA0)))))) (sRet (fO (fC .non))) (sNext))
    swE)))))
theorem dDiv2 (i : Int) : dDiv (.int i) (.int 2) = some (.val (.int (i / 2))) := by
  have h : (0 : Int) < 2 ∧ (2 : Int).natAbs.log2 < 9000 := by decide
  simp only [dDiv, if_pos h]
theorem dIn_ints (x : Int) (is : List Int) : dIn (.int x) (.lst (is.map .int)) = some (.val (.bl (decide (x ∈ is)))) := by
  have h1 : inOk (.int x) (is.map .int) = true := by simp [inOk]
  show (if inOk (.int x) (is.map .int) = true then some ((is.map D.int).any fun y => D.eqv y (.int x)) else none).map _ = _
  rw [if_pos h1]
  simp only [Option.map_some]
  congr 3
  rw [List.any_map]
  induction is with
  | nil => rfl
  | cons a is ih =>
    have h2 : inOk (.int x) (is.map .int) = true := by simp [inOk]
    rw [List.any_cons, ih h2]
    show ((a == x) || _) = _
    by_cases h : a = x
    · subst h; simp
    · simp [h, Ne.symm h]
theorem dIn_T (x : Int) (ks : List Int) : dIn (.int x) (encT ks) = some (.val (.bl (decide (x ∈ ks)))) := by
  show (if isKey false (.int x) = true then some (kvGet (ks.map fun k => (D.int k, D.bl true)) (.int x)).isSome else none).map _ = _
  rw [if_pos (show isKey false (.int x) = true from rfl), kvGet_R ks (fun _ => .bl true)]
  by_cases h : x ∈ ks <;> simp [h]
theorem lcM_int {vs : List Nat} {t : Tg} {f : Fe} {δ : Dl} (g : Int → Int) {xs : List Int} (h : ∀ x ∈ xs, lcTurn vs t fYes f (.int x) δ = some (some (.int (g x)), δ)) : lcM vs t fYes f (xs.map D.int) δ = some ((xs.map g).map D.int, δ) := by
  rw [lcM_mapF D.int (fun x => .int (g x)) h, List.map_map]
  rfl
def swL (W : List Int) (z : Int) : List Int := W.map fun m => m / 2 - z
theorem swA_at (is W here : List Int) (hW : W.length ≤ 2) (hh : Lot is.length here) (hn : is.length ≤ 8) (a1 a2 a5 a7 a8 a9 a10 : Option SV) : swA [some (.fz (iL is)), a1, a2, some (.fz (iL W)), none, a5, some (.fz (iL here)), a7, a8, a9, a10] =
    some (.next, [some (.fz (iL is)), a1, a2, some (.fz (iL W)), none, a5, some (.fz (iL here)), some (.fz (iL (swL W (sz is here)))), a8, a9, a10]) := by
  have hsz := v_size_there is here hh.2 (hh.le hn)
  have e1 := lcM_int (vs := [4]) (t := .nm 4) (f := (fV (fOp2 dSub (fV (fOp2 dDiv (fVar 4) (fC (.int 2)))) (fV (fCall g_size_there (fMv (fVar 0) (fMv (fVar 6) (fM0))) []))))) (δ := [some (.fz (iL is)), a1, a2, some (.fz (iL W)), none, a5, some (.fz (iL here)), a7, a8, a9, a10]) (fun m => m / 2 - sz is here) (xs := W) (fun x _ => by
    simp -implicitDefEqProofs [lcTurn, dDiv2, hsz])
  have hl : W.length ≤ 16777216 := by omega
  simp -implicitDefEqProofs [swA, sizeLine_eq, hl, e1, swL]
def swP (is L : List Int) (t : Nat) : Bool := L.any fun y => decide (y - ig is t ∈ sm (is.drop (t + 1)))
theorem swS_at (is L : List Int) (es : List (List Int)) (hE : EndsOk is es) (hL : L.length ≤ 2) (hn : is.length ≤ 8) (b : Nat) (hb : b ≤ is.length) (a1 a2 a3 a6 a9 : Option SV) : swS [some (.fz (iL is)), a1, a2, a3, none, some (.fz (.lst (es.map encT))), a6, some (.fz (iL L)), some (.fz (.int b)), a9, none] =
    some (.next, [some (.fz (iL is)), a1, a2, a3, none, some (.fz (.lst (es.map encT))), a6, some (.fz (iL L)), some (.fz (.int b)), some (.fz (.lst (((List.range' b (is.length - b)).filter (swP is L)).map fun t : Nat => .int (t : Int)))), none]) := by
  have hl : L.length ≤ 16777216 := by omega
  have turn : ∀ t : Nat, t < is.length → lcTurn [10] (.nm 10) (fT (fV (fBl gAny (fQ (fV (fLc [4] (fiOf seqOf (fVar 7)) (.nm 4) (fYes) (fV (fOp2 dIn (fV (fOp2 dSub (fVar 4) (fV (fOp2 dIx (fVar 0) (fVar 10))))) (fV (fOp2 dIx (fVar 5) (fV (fOp2 dAdd (fVar 10) (fC (.int 1)))))))))) (fQ0))))) (fVar 10) (.int (t : Int))
      [some (.fz (iL is)), a1, a2, a3, none, some (.fz (.lst (es.map encT))), a6, some (.fz (iL L)), some (.fz (.int b)), a9, none] = some (if swP is L t = true then some (.int (t : Int)) else none, [some (.fz (iL is)), a1, a2, a3, none, some (.fz (.lst (es.map encT))), a6, some (.fz (iL L)), some (.fz (.int b)), a9, none]) := fun t ht => by
    obtain ⟨ks, k1, k2⟩ := hE.at (t + 1) (by omega)
    have e1 : atI (is.map D.int) (t : Int) = some (.int (ig is t)) := atI_ig (by omega) (by omega)
    have e2 : atI (es.map encT) ((t : Int) + 1) = some (encT ks) := by
      have := atK (xs := es.map encT) (k := t + 1) (x := encT ks) (by simp [k1])
      simpa using this
    have e3 := lcM_mapF (vs := [4]) (t := .nm 4) (c := fYes) (f := (fV (fOp2 dIn (fV (fOp2 dSub (fVar 4) (fV (fOp2 dIx (fVar 0) (fVar 10))))) (fV (fOp2 dIx (fVar 5) (fV (fOp2 dAdd (fVar 10) (fC (.int 1))))))))) (δ := [some (.fz (iL is)), a1, a2, a3, none, some (.fz (.lst (es.map encT))), a6, some (.fz (iL L)), some (.fz (.int b)), a9, some (.fz (.int t))]) D.int (fun y => .bl (decide (y - ig is t ∈ sm (is.drop (t + 1))))) (xs := L) (fun y _ => by
      simp -implicitDefEqProofs [lcTurn, e1, e2, dIn_T, k2.mem])
    have e4 : blsOf (L.map fun y => D.bl (decide (y - ig is t ∈ sm (is.drop (t + 1))))) = some (L.map fun y => decide (y - ig is t ∈ sm (is.drop (t + 1)))) := blsOf_mapF _ _
    have e5 : (L.map fun y => decide (y - ig is t ∈ sm (is.drop (t + 1)))).any id = swP is L t := by
      rw [List.any_map]
      rfl
    by_cases hp : swP is L t = true
    · rw [hp] at e5 ⊢
      simp -implicitDefEqProofs only [lcTurn, tgSet_nm, Option.bind_some, List.set_cons_succ, List.set_cons_zero, fT_eq, fV_eq, fBl_eq, fQ_eq, fLc_eq, fiOf_eq, fVar_eq, List.getElem?_cons_succ, List.getElem?_cons_zero, esc_val, seqOf_lst, Option.map_some, List.length_map, plainAt_cons, plainAt_nil, Bool.and_self, and_true, sizeLine_eq, hl, wipeD_cons, wipeD_nil, e3, mixD_cons, mixD_nil, Option.getD_some, OVd_new, OVd_val, fQ0_eq, peeks_cons, peeks_nil, peek_val, gAny_lst, e4, e5, if_true]
    · have hp' : swP is L t = false := by simpa using hp
      rw [hp'] at e5 ⊢
      simp -implicitDefEqProofs only [lcTurn, tgSet_nm, Option.bind_some, List.set_cons_succ, List.set_cons_zero, fT_eq, fV_eq, fBl_eq, fQ_eq, fLc_eq, fiOf_eq, fVar_eq, List.getElem?_cons_succ, List.getElem?_cons_zero, esc_val, seqOf_lst, Option.map_some, List.length_map, plainAt_cons, plainAt_nil, Bool.and_self, and_true, sizeLine_eq, hl, wipeD_cons, wipeD_nil, e3, mixD_cons, mixD_nil, Option.getD_some, OVd_new, OVd_val, fQ0_eq, peeks_cons, peeks_nil, peek_val, gAny_lst, e4, e5, if_true, Bool.false_eq_true, if_false]
  have e1 := lcM_filterF (vs := [10]) (t := .nm 10) (c := (fT (fV (fBl gAny (fQ (fV (fLc [4] (fiOf seqOf (fVar 7)) (.nm 4) (fYes) (fV (fOp2 dIn (fV (fOp2 dSub (fVar 4) (fV (fOp2 dIx (fVar 0) (fVar 10))))) (fV (fOp2 dIx (fVar 5) (fV (fOp2 dAdd (fVar 10) (fC (.int 1)))))))))) (fQ0)))))) (f := fVar 10) (δ := [some (.fz (iL is)), a1, a2, a3, none, some (.fz (.lst (es.map encT))), a6, some (.fz (iL L)), some (.fz (.int b)), a9, none]) (fun t : Nat => .int (t : Int)) (swP is L) (fun t => .int (t : Int)) (xs := List.range' b (is.length - b)) (fun t ht => turn t (by have := List.mem_range'_1.mp ht; omega))
  have hb1 : b62 (b : Int) = true := b62_of (by omega) (by omega)
  have hb2 : b62 (is.length : Int) = true := b62_of (by omega) (by omega)
  have ht : ((is.length : Int) - b).toNat = is.length - b := by omega
  have hll : is.length - b ≤ 16777216 := by omega
  have hrl : ((List.range' b (is.length - b)).map fun t : Nat => D.int (t : Int)).length ≤ 16777216 := by simpa using hll
  unfold swS
  generalize (fT (fV (fBl gAny (fQ (fV (fLc [4] (fiOf seqOf (fVar 7)) (.nm 4) (fYes) (fV (fOp2 dIn (fV (fOp2 dSub (fVar 4) (fV (fOp2 dIx (fVar 0) (fVar 10))))) (fV (fOp2 dIx (fVar 5) (fV (fOp2 dAdd (fVar 10) (fC (.int 1)))))))))) (fQ0))))) = cond at *
  have h16 : is.length ≤ 16777216 + b := by omega
  simp -implicitDefEqProofs [hb1, hb2, ht, rngD_from, sizeLine_eq, h16, e1]
theorem swF_at (is pre : List Int) (c : Int) (a1 a2 a3 a4 a5 a7 a8 a9 a10 : Option SV) : swF [some (.fz (iL is)), a1, a2, a3, a4, a5, some (.fz (iL (pre ++ [c]))), a7, a8, a9, a10] =
    some (.next, [some (.fz (iL is)), a1, a2, a3, a4, a5, some (.fz (iL (pre ++ [c]))), a7, some (.fz (.int (c + 1))), a9, a10]) := by
  have e1 : dNe (iL (pre ++ [c])) (.lst []) = some (.val (.bl true)) := by
    have := dNe_nil (xs := (pre ++ [c]).map D.int) (plainL_ints _)
    rw [this]
    cases pre <;> rfl
  have e3 : dIx (iL (pre ++ [c])) (.int (-1)) = some (.val (.int c)) := by
    show (atI ((pre ++ [c]).map D.int) (-1)).map OV.val = _
    rw [show atI ((pre ++ [c]).map D.int) (-1) = some (.int c) from atI_last (by simp)]
    rfl
  generalize iL (pre ++ [c]) = I at *
  simp -implicitDefEqProofs [swF, e1, e3]
theorem swE_at (here : List Int) (t : Int) (ts : List D) (hl : here.length ≤ 1000) (a0 a1 a2 a3 a4 a5 a7 a8 a10 : Option SV) : swE [a0, a1, a2, a3, a4, a5, some (.fz (iL here)), a7, a8, some (.fz (.lst (.int t :: ts))), a10] =
    some (.next, [a0, a1, a2, a3, a4, a5, some (.fz (iL (here ++ [t]))), a7, a8, some (.fz (.lst (.int t :: ts))), a10]) := by
  have e1 : cutD (D.int t :: ts) none (some 1) = [.int t] := by rw [cutD_to (by omega)]; rfl
  have h16 : here.length + 1 ≤ 16777216 := by omega
  simp -implicitDefEqProofs [swE, e1, sizeLine_eq, h16]
theorem sw_out (is W : List Int) (es : List (List Int)) (hE : EndsOk is es) (hW : W.length ≤ 2) (hn : is.length ≤ 8) (a1 a2 : Option SV) : ∀ (m : Nat) (pre : List Int) (c : Nat) (x7 x8 x9 : Option SV), is.length - (c + 1) = m → c < is.length → Lot is.length (pre ++ [(c : Int)]) → (pre ++ [(c : Int)]).head? = some 0 → (∃ y ∈ swL W (sz is (pre ++ [(c : Int)])), y ∈ sm (is.drop (c + 1))) →
    ∃ lot δ, Lot is.length lot ∧ lot.head? = some 0 ∧ 0 ∈ swL W (sz is lot) ∧ loopW (fT (fC (.bl true))) swB (m + 1) [some (.fz (iL is)), a1, a2, some (.fz (iL W)), none, some (.fz (.lst (es.map encT))), some (.fz (iL (pre ++ [(c : Int)]))), x7, x8, x9, none] = some (.ret (.val (iL lot)), some (.fz (iL is)) :: a1 :: δ)
  | m, pre, c, x7, x8, x9, hm, hc, hlot, hhd, ⟨y, hy, hys⟩ => by
    have hA := fun x7 x8 x9 => swA_at is W (pre ++ [(c : Int)]) hW hlot hn a1 a2 (some (.fz (.lst (es.map encT)))) x7 x8 x9 none
    have hLl : (swL W (sz is (pre ++ [(c : Int)]))).length ≤ 2 := by simpa [swL] using hW
    have hin := dIn_ints 0 (swL W (sz is (pre ++ [(c : Int)])))
    by_cases h0 : 0 ∈ swL W (sz is (pre ++ [(c : Int)]))
    · refine ⟨pre ++ [(c : Int)], [a2, some (.fz (iL W)), none, some (.fz (.lst (es.map encT))), some (.fz (iL (pre ++ [(c : Int)]))), some (.fz (iL (swL W (sz is (pre ++ [(c : Int)]))))), x8, x9, none], hlot, hhd, h0, ?_⟩
      have hb : swB [some (.fz (iL is)), a1, a2, some (.fz (iL W)), none, some (.fz (.lst (es.map encT))), some (.fz (iL (pre ++ [(c : Int)]))), x7, x8, x9, none] = some (.ret (.val (iL (pre ++ [(c : Int)]))), [some (.fz (iL is)), a1, a2, some (.fz (iL W)), none, some (.fz (.lst (es.map encT))), some (.fz (iL (pre ++ [(c : Int)]))), some (.fz (iL (swL W (sz is (pre ++ [(c : Int)]))))), x8, x9, none]) := by
        have hA := hA x7 x8 x9
        generalize iL (pre ++ [(c : Int)]) = I at *
        generalize swL W (sz is (pre ++ [(c : Int)])) = L at *
        simp -implicitDefEqProofs [swB, hA, hin, h0]
      show ((fT (fC (.bl true))) _).bind _ = _
      simp -implicitDefEqProofs only [fT_eq, fC_eq, Option.bind_some, if_true, hb]
    · have hy0 : y ≠ 0 := fun z => h0 (z ▸ hy)
      obtain ⟨k, s, k1, k2⟩ := sm_next hys hy0
      have hck : c + 1 + k < is.length := by
        have := (List.getElem?_eq_some_iff.mp k1).1
        simp at this
        omega
      have hS := swS_at is (swL W (sz is (pre ++ [(c : Int)]))) es hE hLl hn (c + 1) (by omega) a1 a2 (some (.fz (iL W))) (some (.fz (iL (pre ++ [(c : Int)])))) x9
      have hmem : c + 1 + k ∈ (List.range' (c + 1) (is.length - (c + 1))).filter (swP is (swL W (sz is (pre ++ [(c : Int)])))) := by
        rw [List.mem_filter, List.mem_range'_1]
        refine ⟨by omega, ?_⟩
        rw [List.getElem?_drop] at k1
        rw [List.drop_drop] at k2
        have g1 : ig is ((c + 1 + k : Nat) : Int) = s := by simp only [ig, Int.toNat_natCast, k1, Option.getD_some]
        simp only [swP, List.any_eq_true, decide_eq_true_eq, g1]
        exact ⟨y, hy, k2⟩
      cases hF : (List.range' (c + 1) (is.length - (c + 1))).filter (swP is (swL W (sz is (pre ++ [(c : Int)])))) with
      | nil => rw [hF] at hmem; cases hmem
      | cons t ts =>
        have ht : t ∈ (List.range' (c + 1) (is.length - (c + 1))).filter (swP is (swL W (sz is (pre ++ [(c : Int)])))) := by rw [hF]; simp
        rw [List.mem_filter, List.mem_range'_1] at ht
        obtain ⟨⟨t1, t2⟩, t3⟩ := ht
        simp only [swP, List.any_eq_true, decide_eq_true_eq] at t3
        obtain ⟨y2, y3, y4⟩ := t3
        rw [hF] at hS
        have hs1 := sz_snoc is (pre ++ [(c : Int)]) t
        obtain ⟨n, rfl⟩ : ∃ n, m = n + 1 := ⟨m - 1, by omega⟩
        have hlt : ∀ j ∈ pre ++ [(c : Int)], j < (t : Int) := fun j hj => by
          simp at hj
          rcases hj with hj | rfl
          · have := (List.pairwise_append.mp hlot.1).2.2 j hj (c : Int) (by simp)
            omega
          · omega
        obtain ⟨lot, δ, q1, q2, q3, q4⟩ := sw_out is W es hE hW hn a1 a2 (is.length - (t + 1)) (pre ++ [(c : Int)]) t (some (.fz (iL (swL W (sz is (pre ++ [(c : Int)])))))) (some (.fz (.int ((c : Int) + 1)))) (some (.fz (.lst (.int (t : Int) :: ts.map fun t : Nat => D.int (t : Int))))) rfl (by omega) (hlot.snoc (by omega) hlt (by omega)) (by
          cases pre with
          | nil => simpa using hhd
          | cons a pre => simpa using hhd) ⟨y2 - ig is t, by
            rw [hs1]
            unfold swL at y3 ⊢
            obtain ⟨w, w1, w2⟩ := List.mem_map.mp y3
            exact List.mem_map.mpr ⟨w, w1, by omega⟩, y4⟩
        refine ⟨lot, δ, q1, q2, q3, ?_⟩
        have q4' := loopW_le (show is.length - (t + 1) + 1 ≤ n + 1 by omega) q4
        rw [← q4']
        refine loopW_next (δ1 := [some (.fz (iL is)), a1, a2, some (.fz (iL W)), none, some (.fz (.lst (es.map encT))), some (.fz (iL (pre ++ [(c : Int)]))), x7, x8, x9, none]) rfl ?_
        have hA := hA x7 x8 x9
        have hFF := swF_at is pre (c : Int) a1 a2 (some (.fz (iL W))) none (some (.fz (.lst (es.map encT)))) (some (.fz (iL (swL W (sz is (pre ++ [(c : Int)])))))) x8 x9 none
        have hll : (pre ++ [(c : Int)]).length ≤ 1000 := by have := hlot.length_le; omega
        have hEE := swE_at (pre ++ [(c : Int)]) (t : Int) (ts.map fun t : Nat => D.int (t : Int)) hll (some (.fz (iL is))) a1 a2 (some (.fz (iL W))) none (some (.fz (.lst (es.map encT)))) (some (.fz (iL (swL W (sz is (pre ++ [(c : Int)])))))) (some (.fz (.int ((c : Int) + 1)))) none
        have hq := dEq_nil (xs := (t :: ts).map fun t : Nat => D.int (t : Int)) (plainL_of fun d hd => by
          obtain ⟨t', _, rfl⟩ := List.mem_map.mp hd
          rfl)
        have hc1 : ((c + 1 : Nat) : Int) = (c : Int) + 1 := by push_cast; rfl
        rw [hc1] at hS
        simp only [List.map_cons, List.isEmpty_cons] at hS hq
        generalize iL (pre ++ [(c : Int)]) = I at *
        generalize swL W (sz is (pre ++ [(c : Int)])) = L at *
        generalize (ts.map fun t : Nat => D.int (t : Int)) = TS at *
        simp -implicitDefEqProofs [swB, hA, hin, h0, hFF, hS, hq, hEE]
def evs (W g : Int) : List Int := [W - g, W + g].filter fun x => decide (x % 2 = 0)
theorem v_split_with (s : Int) (l : List Int) (g : Int) (hs : Szs (s :: l)) (hg : ∃ x ∈ sm l, absI (2 * (s + x) - (s :: l).sum) = g) : ∃ lot, Lot (s :: l).length lot ∧ lot.head? = some 0 ∧ absI (2 * sz (s :: l) lot - (s :: l).sum) = g ∧ g_split_with [.fz (iL (s :: l)), .fz (.int g)] = some (.val (iL lot), []) := by
  obtain ⟨es, hE, hEv⟩ := v_ends_there (s :: l) hs
  obtain ⟨x, hx, hgx⟩ := hg
  have hsz0 : sz (s :: l) [0] = s := by simp [sz, ig]
  have hWl : (evs (s :: l).sum g).length ≤ 2 := Nat.le_trans (List.length_filter_le _ _) (by simp)
  have hmem : ∃ m ∈ evs (s :: l).sum g, m = 2 * (s + x) := by
    unfold evs
    simp only [List.mem_filter, decide_eq_true_eq]
    unfold absI at hgx
    split at hgx
    · exact ⟨(s :: l).sum - g, ⟨by simp, by omega⟩, by omega⟩
    · exact ⟨(s :: l).sum + g, ⟨by simp, by omega⟩, by omega⟩
  obtain ⟨m, m1, m2⟩ := hmem
  obtain ⟨lot, δ, q1, q2, q3, q4⟩ := sw_out (s :: l) (evs (s :: l).sum g) es hE hWl hs.len (some (.fz (.int g))) (some (.fz (.int (s :: l).sum))) ((s :: l).length - 1) [] 0 none none none (by simp) (by simp) ⟨by simp, by simp⟩ (by simp) ⟨x, by
    unfold swL
    refine List.mem_map.mpr ⟨m, m1, ?_⟩
    simp only [List.nil_append]
    rw [show (((0 : Nat) : Int)) = 0 from rfl, hsz0]
    omega, by simpa using hx⟩
  refine ⟨lot, q1, q2, ?_, ?_⟩
  · unfold swL at q3
    obtain ⟨w, w1, w2⟩ := List.mem_map.mp q3
    unfold evs at w1
    simp only [List.mem_filter, List.mem_cons, List.not_mem_nil, or_false, decide_eq_true_eq] at w1
    have hg0 : 0 ≤ g := by
      rw [← hgx]
      unfold absI
      split <;> omega
    unfold absI
    obtain ⟨w1 | w1, w3⟩ := w1
    · split <;> omega
    · split <;> omega
  · have hf : f_split_with g_size_there g_ends_there = sSeq (sSet 2 (fV (fBl gSum (fQ (fVar 0) (fQ0)))))
      (sSeq (sSet 3 (fV (fLc [4] (fiOf seqOf (fV (fLst (fA (fV (fOp2 dSub (fVar 2) (fVar 1))) (fA (fV (fOp2 dAdd (fVar 2) (fVar 1))) (fA0)))))) (.nm 4) (fT (fV (fOp2 dEq (fV (fOp2 dMod (fVar 4) (fC (.int 2)))) (fC (.int 0))))) (fVar 4))))
      (sSeq (sPar [5, 6] (fP (fO (fV (fCall g_ends_there (fMv (fVar 0) (fM0)) []))) (fP (fO (fV (fIfN (fT (fV (fOp2 dNe (fVar 0) (fV (fLst (fA0)))))) (fLst (fA (fC (.int 0)) (fA0))) (fLst (fA0))))) (fP0))))
      (sWhile (fT (fC (.bl true))) swB))) := rfl
    have hw := sWhile_of q4
    have e4 : intsOf (D.int s :: l.map D.int) = some (s :: l) := by rw [← List.map_cons]; exact intsOf_map _
    have e5 := lcM_filterF (vs := [4]) (t := .nm 4) (c := (fT (fV (fOp2 dEq (fV (fOp2 dMod (fVar 4) (fC (.int 2)))) (fC (.int 0)))))) (f := fVar 4) (δ := [some (.fz (iL (s :: l))), some (.fz (.int g)), some (.fz (.int (s :: l).sum)), none, none, none, none, none, none, none, none]) D.int (fun x => decide (x % 2 = 0)) D.int (xs := [(s :: l).sum - g, (s :: l).sum + g]) (fun x _ => by
      by_cases h : x % 2 = 0
      · simp [lcTurn, h]
      · simp [lcTurn, h])
    have e6 : dNe (iL (s :: l)) (.lst []) = some (.val (.bl true)) := dNe_nil (xs := (s :: l).map D.int) (plainL_ints _)
    have e7 : iL ([] ++ [((0 : Nat) : Int)]) = .lst [.int 0] := rfl
    rw [e7] at hw
    have e8 : ([(s :: l).sum - g, (s :: l).sum + g].filter fun x => decide (x % 2 = 0)) = evs (s :: l).sum g := rfl
    rw [e8] at e5
    generalize evs (s :: l).sum g = W at *
    generalize es.map encT = ES at *
    have hz : 1 ≤ sizeLine := by rw [sizeLine_eq]; decide
    have hz2 : 2 ≤ sizeLine := by rw [sizeLine_eq]; decide
    simp only [List.map_cons, List.map_nil, List.sum_cons] at e5 hw hEv
    simp -implicitDefEqProofs [g_split_with, m_split_with, hf, e4, hz2, e5, hEv, e6, hz, hw]
theorem lgap_some (s : Int) (l : List Int) (hs : Szs (s :: l)) : ∃ x ∈ sm l, absI (2 * (s + x) - (s :: l).sum) = lgap (s :: l) := (mem_gapL hs).mp (List.min?_eq_some_iff.mp (gapL_min _ hs)).1
theorem v_first_split (s : Int) (l : List Int) (hs : Szs (s :: l)) : ∃ lot, Lot (s :: l).length lot ∧ lot.head? = some 0 ∧ absI (2 * sz (s :: l) lot - (s :: l).sum) = lgap (s :: l) ∧ g_first_split [.fz (iL (s :: l))] = some (.val (iL lot), []) := by
  obtain ⟨lot, h1, h2, h3, h4⟩ := v_split_with s l _ hs (lgap_some s l hs)
  refine ⟨lot, h1, h2, h3, ?_⟩
  have h5 := v_check_sizes (s :: l) hs.pos hs.le
  have h6 := v_least_there s l hs
  generalize iL (s :: l) = I at *
  simp -implicitDefEqProofs [g_first_split, m_first_split, f_first_split, h5, h6, h4]
theorem v_gap_of (is lot : List Int) (hs : Szs is) (hl : Lot is.length lot) (hh : lot.head? = some 0) : g_gap_of [.fz (iL is), .fz (iL lot)] = some (.val (.int (absI (2 * sz is lot - is.sum))), []) := by
  have h1 := v_check_sizes is hs.pos hs.le
  have h2 := v_is_lot is lot hl (hl.le hs.len)
  have h3 : cutD (lot.map D.int) none (some 1) = [0].map D.int := by
    rw [cutD_to (by omega)]
    cases lot with
    | nil => simp at hh
    | cons a t => simp at hh; subst hh; rfl
  have h4 := dEq_ints [0] [0]
  have hz : 1 ≤ sizeLine := by rw [sizeLine_eq]; decide
  have h5 : g_is_split_there [.fz (iL is), .fz (iL lot)] = some (.val (.bl true), []) := by
    simp only [List.map_cons, List.map_nil] at h3 h4
    simp -implicitDefEqProofs [g_is_split_there, m_is_split_there, f_is_split_there, h2, h3, hz, h4]
  have h6 := v_size_there is lot hl.2 (hl.le hs.len)
  have h7 : ∀ i : Int, gAbs [.int i] = some (.val (.int (absI i))) := fun _ => rfl
  have h8 := intsOf_map is
  generalize iL lot = L at *
  simp -implicitDefEqProofs [g_gap_of, m_gap_of, f_gap_of, g_check_split, m_check_split, f_check_split, h1, h5, g_gap_there, m_gap_there, f_gap_there, h6, mulOk2, h7, h8, -gAbs_int]
end K85

set_option Elab.async false
set_option linter.all false
set_option autoImplicit false
set_option maxRecDepth 100000
namespace K85
open PySem PySem.Spec PyProof.Rows L2 L2.Tl
/-! ### the law's purses and draws -/
def pu (a b c d : Int) : D := .lst [.int a, .int b, .int c, .int d]
theorem pow18 : dPow (.int 10) (.int 18) = some (.val (.int 1000000000000000000)) := by
  have h : (0 : Int) ≤ 18 ∧ (Builtin.Int.intBits 10 : Int) * 18 ≤ 2 ^ 27 := by decide +kernel
  simp only [dPow, if_pos h]
  rfl
def big60 : Int := 10 ^ 60
theorem pow60 : dPow (.int 10) (.int 60) = some (.val (.int big60)) := by
  have h : (0 : Int) ≤ 60 ∧ (Builtin.Int.intBits 10 : Int) * 60 ≤ 2 ^ 27 := by decide +kernel
  simp only [dPow, if_pos h]
  rfl
def big480 : Int := big60 ^ 8
theorem pow480 : dPow (.int big60) (.int 8) = some (.val (.int big480)) := by
  have h : (0 : Int) ≤ 8 ∧ (Builtin.Int.intBits big60 : Int) * 8 ≤ 2 ^ 27 := by decide +kernel
  simp only [dPow, if_pos h]
  rfl
theorem big480_pos : 0 < big480 := by unfold big480 big60; decide +kernel
theorem v_purse (ns : List Int) (at' : Int) (h0 : 0 ≤ at') : ∃ a b, g__law_purse [.fz (.kl ns), .fz (.int at')] = some (.new (pu a b 0 at'), []) := by
  have e1 : ∃ is : List Int, cutD (ns.map D.int) (some at') (some (at' + 1)) = is.map .int := by
    rw [cutD_both h0 (by omega), ← List.map_drop, ← List.map_take]
    exact ⟨_, rfl⟩
  obtain ⟨is, e1⟩ := e1
  have e2 := intsOf_map is
  have hz : 4 ≤ sizeLine := by rw [sizeLine_eq]; decide
  refine ⟨max (is.sum - 1000000000000000000) 0 % big480, is.sum % 2147483629, ?_⟩
  simp -implicitDefEqProofs [g__law_purse, m__law_purse, f__law_purse, e1, e2, pow18, pow60, pow480, big480_pos, hz, pu]
theorem v_purses (ns : List Int) (hl : ns.length ≤ 63) : ∃ a b, g__law_purses [.fz (.kl ns), .fz (.int 1)] = some (pu a b 0 0) := by
  obtain ⟨a, b, e⟩ := v_purse ns 0 (Int.le_refl _)
  refine ⟨a, b, ?_⟩
  have hm : max 1 (min 1 (ns.length : Int)) = 1 := by omega
  have hb : b62 1 = true := b62_of (by omega) (by omega)
  have hr : rngD 0 1 1 = [.int 0] := rfl
  simp -implicitDefEqProofs [g__law_purses, m__law_purses, Tl.runN, f__law_purses, f1Lc, hm, hb, hr, e]
theorem v_mixed (a b c : Int) (hb : 0 ≤ b) (hb2 : b ≤ 1000000) : ∃ x, g__law_mixed [.fz (.int a), .fz (.int b), .fz (.int c)] = some (.val (.int x), []) := by
  have h1 : ∀ i : Int, mulOk i 69069 = true := fun i => mulOk_r (by omega) (by omega)
  have h2 : ∀ i : Int, mulOk 104729 i = true := fun i => mulOk_l (by omega) (by omega)
  have h3 : ∀ i : Int, mulOk i b = true := fun i => mulOk_r (by omega) (by omega)
  have h4 : ∀ i : Int, mulOk 7919 i = true := fun i => mulOk_l (by omega) (by omega)
  have h5 : ∀ i j : Int, mulOk (i % 2147483647) j = true := fun i j => mulOk_m (by omega) (by omega)
  have h6 : ∀ i j : Int, mulOk (i % 2147483629) j = true := fun i j => mulOk_m (by omega) (by omega)
  refine ⟨((a * 69069 + 104729 * b * b + 7919 * c + b) % 2147483647 * ((a * 69069 + 104729 * b * b + 7919 * c + b) % 2147483647) + 40503) % 2147483629 * 48271 % 2147483587, ?_⟩
  simp -implicitDefEqProofs [g__law_mixed, m__law_mixed, f__law_mixed, h1, h2, h3, h4, h5, h6]
theorem bits28 (m : Int) (h0 : 0 < m) (h1 : m ≤ 127) : (Builtin.Int.intBits m : Int) / 28 = 0 := by
  have : ∀ k : Fin 128, (Builtin.Int.intBits (k.val : Int) : Int) / 28 = 0 := by decide +kernel
  have h := this ⟨m.toNat, by omega⟩
  rwa [show ((m.toNat : Nat) : Int) = m by omega] at h
theorem v_draw (a b c d m : Int) (h0 : 0 < m) (h1 : m ≤ 127) (hc : 0 ≤ c) (hc2 : c ≤ 1000) : ∃ x a' b' c' d', 0 ≤ x ∧ x < m ∧ 0 ≤ c' ∧ c' ≤ c + 1 ∧ g__law_draw [.inp (pu a b c d), .fz (.int m)] = some (.val (.int x), [pu a' b' c' d']) := by
  have i0 : ∀ a b c d : Int, atI [D.int a, .int b, .int c, .int d] 0 = some (.int a) := fun a b c d => atK (k := 0) rfl
  have i1 : ∀ a b c d : Int, atI [D.int a, .int b, .int c, .int d] 1 = some (.int b) := fun a b c d => atK (k := 1) rfl
  have i2 : ∀ a b c d : Int, atI [D.int a, .int b, .int c, .int d] 2 = some (.int c) := fun a b c d => atK (k := 2) rfl
  have i3 : ∀ a b c d : Int, atI [D.int a, .int b, .int c, .int d] 3 = some (.int d) := fun a b c d => atK (k := 3) rfl
  have s0 : ∀ a b c d x : Int, dSto (.lst [D.int a, .int b, .int c, .int d]) (.int 0) (.int x) = some (.lst [D.int x, .int b, .int c, .int d]) := fun a b c d x => rfl
  have s2 : ∀ a b c d x : Int, dSto (.lst [D.int a, .int b, .int c, .int d]) (.int 2) (.int x) = some (.lst [D.int a, .int b, .int x, .int d]) := fun a b c d x => rfl
  have hdv : ∀ i : Int, dDiv (.int i) (.int m) = some (.val (.int (i / m))) := fun i => by
    have h : (0 : Int) < m ∧ m.natAbs.log2 < 9000 := ⟨h0, Nat.lt_of_le_of_lt (Nat.log2_le_self _) (by omega)⟩
    simp only [dDiv, if_pos h]
  by_cases ha : 0 < a
  · refine ⟨a % m, a / m, b, c, d, Int.emod_nonneg _ (by omega), Int.emod_lt_of_pos _ h0, hc, by omega, ?_⟩
    simp -implicitDefEqProofs [g__law_draw, m__law_draw, f__law_draw, pu, i0, ha, h0, s0, hdv]
  · obtain ⟨x, hx⟩ := v_mixed b (c + 1) d (by omega) (by omega)
    refine ⟨(0 * 2147483587 + x) % m, a, b, c + 1, d, Int.emod_nonneg _ (by omega), Int.emod_lt_of_pos _ h0, by omega, by omega, ?_⟩
    have hdb := bits28 m h0 h1
    have hdd : dDiv (.int (Builtin.Int.intBits m : Int)) (.int 28) = some (.val (.int 0)) := by
      have h : (0 : Int) < 28 ∧ (28 : Int).natAbs.log2 < 9000 := by decide +kernel
      simp only [dDiv, if_pos h, hdb]
    have hb1 : b62 1 = true := b62_of (by omega) (by omega)
    have hr : rngD 0 1 1 = [.int 0] := rfl
    have hm1 : ∀ i : Int, mulOk i 2147483587 = true := fun i => mulOk_r (by omega) (by omega)
    simp -implicitDefEqProofs [g__law_draw, m__law_draw, f__law_draw, pu, i0, i1, i2, i3, ha, h0, s2, hdd, hb1, hr, loopM, hm1, hx]
/-! ### _law_same -/
def Sm' (k : Nat) (d : D) : Prop := g__law_same k [.fz d, .fz d] = some (.val (.bl true), [])
theorem same_int (k : Nat) (i : Int) : Sm' (k + 1) (.int i) := by
  have h1 : ∀ T, isiD T (.int i) = some (kitTab T "int") := fun T => rfl
  have h2 : tyN (.int i) = some "int" := rfl
  have h3 : dIs (.int i) .non = some (.val (.bl false)) := rfl
  have h4 : dEq (.bl false) (.bl false) = some (.val (.bl true)) := rfl
  have h5 : dEq (.bl true) (.bl true) = some (.val (.bl true)) := rfl
  show m__law_same (g__law_same k) _ = _
  simp -implicitDefEqProofs [m__law_same, f__law_same, h1, h2, h3, h4, h5, kitTab]
theorem same_bl (k : Nat) (i : Bool) : Sm' (k + 1) (.bl i) := by
  have h1 : ∀ T, isiD T (.bl i) = some (kitTab T "bool") := fun T => rfl
  have h2 : tyN (.bl i) = some "bool" := rfl
  have h3 : dIs (.bl i) .non = some (.val (.bl false)) := rfl
  have h4 : dEq (.bl false) (.bl false) = some (.val (.bl true)) := rfl
  have h5 : dEq (.bl true) (.bl true) = some (.val (.bl true)) := rfl
  have h6 : dEq (.bl i) (.bl i) = some (.val (.bl true)) := by cases i <;> rfl
  show m__law_same (g__law_same k) _ = _
  simp -implicitDefEqProofs [m__law_same, f__law_same, h1, h2, h3, h4, h5, h6, kitTab]
theorem zipD_self : ∀ ds : List D, zipD ds ds = ds.map fun d => .tup [d, d]
  | [] => rfl
  | d :: ds => by simp [zipD, zipD_self ds]
theorem same_lst (k : Nat) (ds : List D) (hl : ds.length ≤ 100000) (h : ∀ d ∈ ds, Sm' k d) : Sm' (k + 1) (.lst ds) := by
  have h1 : ∀ T, isiD T (.lst ds) = some (kitTab T "list") := fun T => rfl
  have h2 : tyN (.lst ds) = some "list" := rfl
  have h4 : dEq (.bl false) (.bl false) = some (.val (.bl true)) := rfl
  have h5 : dEq (.bl true) (.bl true) = some (.val (.bl true)) := rfl
  have hl2 : ds.length ≤ 16777216 := by omega
  have e1 := fun (a b c d : Option SV) => lcM_mapF (vs := [4, 5]) (t := .tp [4, 5]) (c := fYes) (f := (fV (fCall (g__law_same k) (fMv (fVar 4) (fMv (fVar 5) (fM0))) []))) (δ := [a, b, c, d, none, none]) (fun d : D => .tup [d, d]) (fun _ => .bl true) (xs := ds) (fun d hd => by
    have := h d hd
    unfold Sm' at this
    simp -implicitDefEqProofs [lcTurn, this])
  have e2 : blsOf (ds.map fun _ => D.bl true) = some (ds.map fun _ => true) := blsOf_mapF (fun _ => true) ds
  have e3 : (ds.map fun _ => true).all id = true := by simp
  show m__law_same (g__law_same k) _ = _
  generalize ds.map (fun _ => true) = TT at *
  generalize ds.map (fun _ => D.bl true) = BB at *
  simp -implicitDefEqProofs [m__law_same, f__law_same, h1, h2, h4, h5, kitTab, zipD_self, sizeLine_eq, hl2, e1, e2, e3]
theorem same_ints (k : Nat) (is : List Int) (hl : is.length ≤ 100000) : Sm' (k + 2) (iL is) := same_lst (k + 1) _ (by simpa using hl) fun d hd => by
  obtain ⟨i, _, rfl⟩ := List.mem_map.mp hd
  exact same_int k i
/-! ### _law_lots -/
theorem pd_iL (is : List Int) : (iL is).pd = some (.list (is.map .int)) := by
  have : ∀ is : List Int, pdL (is.map D.int) = some (is.map .int) := fun is => by
    induction is with
    | nil => rfl
    | cons i is ih => simp [pdL, D.pd, ih]
  simp [D.pd, this]
theorem pdL_iL (L : List (List Int)) : pdL (L.map iL) = some (L.map fun is => .list (is.map .int)) := by
  induction L with
  | nil => rfl
  | cons l L ih => simp only [List.map_cons, pdL, pd_iL, ih]
theorem alike_ints : ∀ a b : List Int, PySem.W.alikeAll (a.map .int) (b.map .int) = true
  | [], _ => by cases ‹List Int› <;> rfl
  | _ :: _, [] => rfl
  | x :: a, y :: b => by simp [PySem.W.alikeAll, PySem.W.alike, alike_ints a b]
theorem sortable_iL (L : List (List Int)) : sortable (L.map fun is => .list (is.map .int)) = true := by
  simp only [sortable, Bool.and_eq_true, Bool.or_eq_true, List.all_eq_true, List.mem_map, forall_exists_index, and_imp, forall_apply_eq_imp_iff₂, decide_eq_true_eq]
  refine ⟨⟨fun a _ b _ => alike_ints a b, .inr fun a _ => rfl⟩, fun a _ => ?_⟩
  have : ∀ is : List Int, PySem.PyData.depthAll (is.map PyData.int) ≤ 1 := fun is => by
    induction is with
    | nil => simp [PySem.PyData.depthAll]
    | cons i is ih => simp [PySem.PyData.depthAll, PySem.PyData.depth] at ih ⊢; omega
  have := this a
  simp [PySem.PyData.depth]
  omega
theorem perm_map_inv {α β : Type} (f : α → β) {a : List β} {b : List α} (h : a.Perm (b.map f)) : ∃ b' : List α, b'.Perm b ∧ a = b'.map f := by
  generalize hc : b.map f = c at h
  induction h generalizing b with
  | nil => exact ⟨b, .refl _, hc.symm⟩
  | cons x _ ih =>
    cases b with
    | nil => cases hc
    | cons y b =>
      simp only [List.map_cons, List.cons.injEq] at hc
      obtain ⟨b', h1, h2⟩ := ih hc.2
      exact ⟨y :: b', h1.cons y, by rw [h2, ← hc.1]; rfl⟩
  | swap x y l =>
    match b, hc with
    | u :: v :: b, hc =>
      simp only [List.map_cons, List.cons.injEq] at hc
      obtain ⟨rfl, rfl, rfl⟩ := hc
      exact ⟨v :: u :: b, .swap _ _ _, rfl⟩
  | trans _ _ ih1 ih2 =>
    obtain ⟨b1, h1, h2⟩ := ih2 hc
    obtain ⟨b2, h3, h4⟩ := ih1 h2.symm
    exact ⟨b2, h3.trans h1, h4⟩
def llB : Fs := (sSet 1 (fV (fOp2 dAdd (fVar 1) (fV (fLc [3] (fiOf seqOf (fVar 1)) (.nm 3) (fYes) (fV (fOp2 dAdd (fVar 3) (fV (fLst (fA (fVar 2) (fA0))))))))))) 
theorem ll_loop (a0 : Option SV) (n : Nat) (hn : n ≤ 8) : ∀ (j k : Nat) (x : Option SV), k + j = n → ∃ x', loopM (.nm 2) llB (rngD (k : Int) 1 j) [a0, some (.fz (.lst ((lotsN k).map iL))), x, none] = some (.next, [a0, some (.fz (.lst ((lotsN n).map iL))), x', none])
  | 0, k, x, h => by
    have : k = n := by omega
    subst this
    exact ⟨x, rfl⟩
  | j + 1, k, x, h => by
    obtain ⟨x', e⟩ := ll_loop a0 n hn j (k + 1) (some (.fz (.int k))) (by omega)
    refine ⟨x', ?_⟩
    have er : rngD (k : Int) 1 (j + 1) = .int k :: rngD ((k + 1 : Nat) : Int) 1 j := by
      rw [rngD_from, rngD_from]
      simp [List.range'_succ]
    rw [er, ← e]
    refine loopM_next ?_
    have hp := pow8 (show k ≤ 8 by omega)
    have hlen := lotsN_length k
    have h16 : (lotsN k).length ≤ 16777216 := by omega
    have h17 : (lotsN k).length + (lotsN k).length ≤ 16777216 := by omega
    have hz : 1 ≤ sizeLine := by rw [sizeLine_eq]; decide
    have e1 := lcM_mapF (vs := [3]) (t := .nm 3) (c := fYes) (f := (fV (fOp2 dAdd (fVar 3) (fV (fLst (fA (fVar 2) (fA0))))))) (δ := [a0, some (.fz (.lst ((lotsN k).map iL))), some (.fz (.int k)), none]) iL (fun lot => iL (lot ++ [(k : Int)])) (xs := lotsN k) (fun lot hlot => by
      have := (lotsN_mem.mp hlot).length_le
      have h18 : lot.length + 1 ≤ 16777216 := by omega
      simp -implicitDefEqProofs [lcTurn, sizeLine_eq, h18])
    have e2 : (lotsN k).map (fun lot => iL (lot ++ [(k : Int)])) = ((lotsN k).map (· ++ [(k : Int)])).map iL := by rw [List.map_map]; rfl
    have e3 : ((lotsN (k + 1)).map iL) = (lotsN k).map iL ++ (lotsN k).map (fun lot => iL (lot ++ [(k : Int)])) := by rw [lotsN, List.map_append, e2]
    rw [e3]
    simp -implicitDefEqProofs [llB, sizeLine_eq, h16, e1, h17]
theorem v_lots (n : Nat) (hn : n ≤ 8) : ∃ L : List (List Int), L.Perm (lotsN n) ∧ g__law_lots [.fz (.int n)] = some (.new (.lst (L.map iL)), []) := by
  obtain ⟨x', e⟩ := ll_loop (some (.fz (.int n))) n hn n 0 none (by omega)
  obtain ⟨L, h1, h2⟩ := perm_map_inv iL (List.mergeSort_perm ((lotsN n).map iL) (PySem.W.dataLe false pdOf))
  refine ⟨L, h1, ?_⟩
  have hf : f__law_lots = sSeq (sSet 1 (fV (fLst (fA (fV (fLst (fA0))) (fA0))))) (sSeq (sFor (.nm 2) (fiA gRng1 (fA (fVar 0) (fA0))) llB) (sRet (fBl gSorted (fQ (fVar 1) (fQ0))))) := rfl
  have hp := pow8 hn
  have hlen := lotsN_length n
  have h16 : ((lotsN n).map iL).length ≤ sizeLine := by rw [sizeLine_eq]; simp; omega
  have e1 : gSorted [.lst ((lotsN n).map iL)] = some (.new (.lst (L.map iL))) := by
    show ((pdL ((lotsN n).map iL)).bind fun ps => if sortable ps = true ∧ ((lotsN n).map iL).length ≤ sizeLine then some (OV.new (.lst (sortD ((lotsN n).map iL)))) else none) = _
    rw [pdL_iL]
    simp only [Option.bind_some]
    rw [if_pos ⟨sortable_iL _, h16⟩, ← h2]
    rfl
  have hb : b62 (n : Int) = true := b62_of (by omega) (by omega)
  have hz : 1 ≤ sizeLine := by rw [sizeLine_eq]; decide
  have e0 : ((lotsN 0).map iL) = [.lst []] := rfl
  rw [e0] at e
  have e3 : (((0 : Nat) : Int)) = 0 := rfl
  rw [e3] at e
  generalize (lotsN n).map iL = LN at *
  simp -implicitDefEqProofs [g__law_lots, m__law_lots, hf, hz, hb, e, e1]
end K85

set_option Elab.async false
set_option linter.all false
set_option autoImplicit false
set_option maxRecDepth 100000
namespace K85
open PySem PySem.Spec PyProof.Rows L2 L2.Tl

noncomputable def law_B1 : Fs := (sSet 2 (fV (fLc [3] (fiA gRng1 (fA (fV (fCall g__law_draw (fMi (fVar 1) (fMv (fC (.int 9)) (fM0))) [])) (fA0))) (.nm 3) (fYes) (fV (fOp2 dAdd (fC (.int 1)) (fV (fCall g__law_draw (fMi (fVar 1) (fMv (fC (.int 9)) (fM0))) [])))))))
noncomputable def law_B2 : Fs := (sSet 4 (fV (fLc [5] (fiOf seqOf (fVar 2)) (.nm 5) (fYes) (fV (fCall g__law_draw (fMi (fVar 1) (fMv (fC (.int 12)) (fM0))) [])))))
noncomputable def law_B3 : Fs := (sSet 6 (fV (fBl gSum (fQ (fVar 2) (fQ0)))))
noncomputable def law_B4 : Fs := (sSet 7 (fV (fCall g__law_draw (fMi (fVar 1) (fMv (fV (fOp2 dAdd (fVar 6) (fC (.int 3)))) (fM0))) [])))
noncomputable def law_B5 : Fs := (sSet 8 (fV (fCall g__law_lots (fMv (fV (fBl gLen (fQ (fVar 2) (fQ0)))) (fM0)) [])))
noncomputable def law_B6 : Fs := (sSet 9 (fV (fLc [11] (fiA gRng1 (fA (fV (fOp2 dAdd (fVar 6) (fC (.int 1)))) (fA0))) (.nm 11) (fYes) (fV (fBl gLen (fQ (fV (fLc [10] (fiOf seqOf (fVar 8)) (.nm 10) (fT (fV (fOp2 dEq (fV (fCall g__law_size (fMv (fVar 2) (fMv (fVar 10) (fM0))) [])) (fVar 11)))) (fVar 10))) (fQ0)))))))
noncomputable def law_B7 : Fs := (sSet 12 (fV (fLc [10] (fiOf seqOf (fVar 8)) (.nm 10) (fT (fV (fOp2 dLe (fV (fCall g__law_size (fMv (fVar 2) (fMv (fVar 10) (fM0))) [])) (fVar 7)))) (fVar 10))))
noncomputable def law_B8 : Fs := (sSet 13 (fV (fLst (fA (fV (fCall g_sum_counts (fMv (fVar 2) (fM0)) [])) (fA (fV (fCall g_sums_of (fMv (fVar 2) (fM0)) [])) (fA (fV (fCall g_fitting_count (fMv (fVar 2) (fMv (fVar 7) (fM0))) [])) (fA (fV (fBl gLen (fQ (fV (fCall g_fitting_lots (fMv (fVar 2) (fMv (fVar 7) (fM0))) [])) (fQ0)))) (fA (fV (fCall g_ways_to (fMv (fVar 2) (fMv (fVar 7) (fM0))) [])) (fA0)))))))))
noncomputable def law_B9 : Fs := (sSet 14 (fV (fLst (fA (fVar 9) (fA (fV (fLc [11] (fiA gRng1 (fA (fV (fOp2 dAdd (fVar 6) (fC (.int 1)))) (fA0))) (.nm 11) (fT (fV (fOp2 dGt (fV (fOp2 dIx (fVar 9) (fVar 11))) (fC (.int 0))))) (fVar 11))) (fA (fV (fBl gSum (fQ (fV (fCut (fVar 9) (fPart0) (fPart (fV (fOp2 dAdd (fVar 7) (fC (.int 1))))))) (fQ0)))) (fA (fV (fBl gLen (fQ (fVar 12) (fQ0)))) (fA (fV (fOp2 dIx (fV (fOp2 dAdd (fVar 9) (fV (fLst (fA (fC (.int 0)) (fA (fC (.int 0)) (fA (fC (.int 0)) (fA0)))))))) (fVar 7))) (fA0)))))))))
noncomputable def law_B10 : Fs := (sIf (fTN (fT (fV (fCall (g__law_same 6) (fMv (fVar 13) (fMv (fVar 14) (fM0))) [])))) (sRet (fO (fC (.bl false)))) (sNext))
noncomputable def law_B11 : Fs := (sSet 15 (fV (fBl gMax (fQ (fV (fLc [10] (fiOf seqOf (fVar 12)) (.nm 10) (fYes) (fV (fCall g__law_size (fMv (fVar 2) (fMv (fVar 10) (fM0))) [])))) (fQ0)))))
noncomputable def law_B12 : Fs := (sIf (fTN (fT (fV (fCall (g__law_same 6) (fMv (fV (fLst (fA (fV (fCall g_nearest_below (fMv (fVar 2) (fMv (fVar 7) (fM0))) [])) (fA (fV (fCall g_bag_worth (fMv (fVar 2) (fMv (fVar 2) (fMv (fVar 7) (fM0)))) [])) (fA0))))) (fMv (fV (fLst (fA (fVar 15) (fA (fVar 15) (fA0))))) (fM0))) [])))) (sRet (fO (fC (.bl false)))) (sNext))
noncomputable def law_B13 : Fs := (sSet 16 (fV (fBl gMax (fQ (fV (fLc [10] (fiOf seqOf (fVar 12)) (.nm 10) (fYes) (fV (fBl gSum (fQ (fV (fLc [17] (fiOf seqOf (fVar 10)) (.nm 17) (fYes) (fV (fOp2 dIx (fVar 4) (fVar 17))))) (fQ0)))))) (fQ0)))))
noncomputable def law_B14 : Fs := (sSet 18 (fV (fCall g_best_lot (fMv (fVar 2) (fMv (fVar 4) (fMv (fVar 7) (fM0)))) [])))
noncomputable def law_B15 : Fs := (sIf (fTN (fT (fV (fCall (g__law_same 6) (fMv (fV (fLst (fA (fV (fCall g_bag_worth (fMv (fVar 2) (fMv (fVar 4) (fMv (fVar 7) (fM0)))) [])) (fA (fV (fCall g_worth_of (fMv (fVar 2) (fMv (fVar 4) (fMv (fVar 18) (fM0)))) [])) (fA (fV (fCall g_does_fit (fMv (fVar 2) (fMv (fVar 7) (fMv (fVar 18) (fM0)))) [])) (fA (fV (fOp2 dIn (fVar 18) (fVar 12))) (fA0))))))) (fMv (fV (fLst (fA (fVar 16) (fA (fVar 16) (fA (fC (.bl true)) (fA (fC (.bl true)) (fA0))))))) (fM0))) [])))) (sRet (fO (fC (.bl false)))) (sNext))
noncomputable def law_B16 : Fs := (sIf (fT (fV (fOp2 dNe (fVar 2) (fV (fLst (fA0)))))) (sSeq (sSet 19 (fV (fLc [11] (fiA gRng1 (fA (fV (fOp2 dAdd (fVar 6) (fC (.int 1)))) (fA0))) (.nm 11) (fT (fV (fOp2 dGt (fV (fOp2 dIx (fVar 9) (fVar 11))) (fC (.int 0))))) (fV (fBl gAbs (fQ (fV (fOp2 dSub (fVar 6) (fV (fOp2 dMul (fC (.int 2)) (fVar 11))))) (fQ0))))))) (sSeq (sSet 20 (fV (fCall g_first_split (fMv (fVar 2) (fM0)) []))) (sIf (fTO (fT (fV (fOp2 dNe (fV (fCall g_least_gap (fMv (fVar 2) (fM0)) [])) (fV (fBl gMin (fQ (fVar 19) (fQ0))))))) (fTO (fT (fV (fOp2 dNe (fV (fCall g_gap_of (fMv (fVar 2) (fMv (fVar 20) (fM0))) [])) (fV (fBl gMin (fQ (fVar 19) (fQ0))))))) (fT (fV (fOp2 dNe (fV (fBl gSorted (fQ (fV (fCall g_gap_counts (fMv (fVar 2) (fM0)) [])) (fQ0)))) (fV (fBl gSorted (fQ (fV (fBl gDict (fQ (fV (fLc [21] (fiOf seqOf (fVar 19)) (.nm 21) (fYes) (fV (fTup (fA (fVar 21) (fA (fC (.bl true)) (fA0))))))) (fQ0)))) (fQ0))))))))) (sRet (fO (fC (.bl false)))) (sNext)))) (sNext))
noncomputable def law_B17 : Fs := (sIf (fT (fV (fOp2 dGt (fV (fCall g_size_of (fMv (fVar 2) (fMv (fVar 18) (fM0))) [])) (fVar 7)))) (sRet (fO (fC (.bl false)))) (sNext))
noncomputable def law_B18 : Fs := (sRet (fO (fC (.bl true))))
theorem law_parts : f_law (g__law_purses) (g_size_of) (g_gap_counts) (g_gap_of) (g_least_gap) (g_first_split) ((g__law_same 6)) (g_does_fit) (g_worth_of) (g_bag_worth) (g_best_lot) (g_nearest_below) (g__law_size) (g_ways_to) (g_fitting_lots) (g_fitting_count) (g_sums_of) (g_sum_counts) (g__law_lots) (g__law_draw) = (sSeq (sFor1 1 (f1Call g__law_purses (fA (fVar 0) (fA (fC (.int 1)) (fA0)))) (sSeq law_B1 (sSeq law_B2 (sSeq law_B3 (sSeq law_B4 (sSeq law_B5 (sSeq law_B6 (sSeq law_B7 (sSeq law_B8 (sSeq law_B9 (sSeq law_B10 (sSeq law_B11 (sSeq law_B12 (sSeq law_B13 (sSeq law_B14 (sSeq law_B15 (sSeq law_B16 law_B17))))))))))))))))) law_B18) := rfl

theorem draws9 (s a2 : Option SV) (rest : Dl) : ∀ (ds : List D) (a b c d : Int), 0 ≤ c → c + ds.length ≤ 900 → ∃ (xs : List Int) (a' b' c' d' : Int), xs.length = ds.length ∧ (∀ x ∈ xs, 1 ≤ x ∧ x ≤ 9) ∧ 0 ≤ c' ∧ c' ≤ c + ds.length ∧
    lcM [3] (.nm 3) fYes (fV (fOp2 dAdd (fC (.int 1)) (fV (fCall g__law_draw (fMi (fVar 1) (fMv (fC (.int 9)) (fM0))) [])))) ds (s :: some (.own (pu a b c d)) :: a2 :: none :: rest) = some (xs.map .int, s :: some (.own (pu a' b' c' d')) :: a2 :: none :: rest)
  | [], a, b, c, d, h, _ => ⟨[], a, b, c, d, rfl, by simp, h, by simp, rfl⟩
  | e :: ds, a, b, c, d, h, hl => by
    simp only [List.length_cons] at hl
    obtain ⟨x, a1, b1, c1, d1, h1, h2, h3, h4, h5⟩ := v_draw a b c d 9 (by omega) (by omega) h (by omega)
    obtain ⟨xs, a', b', c', d', g1, g2, g3, g4, g5⟩ := draws9 s a2 rest ds a1 b1 c1 d1 h3 (by omega)
    refine ⟨(1 + x) :: xs, a', b', c', d', by simp [g1], fun y hy => ?_, g3, by simp only [List.length_cons]; omega, ?_⟩
    · simp only [List.mem_cons] at hy
      rcases hy with rfl | hy
      · omega
      · exact g2 y hy
    · rw [lcM_turn]
      have : lcTurn [3] (.nm 3) fYes (fV (fOp2 dAdd (fC (.int 1)) (fV (fCall g__law_draw (fMi (fVar 1) (fMv (fC (.int 9)) (fM0))) [])))) e (s :: some (.own (pu a b c d)) :: a2 :: none :: rest) = some (some (.int (1 + x)), s :: some (.own (pu a1 b1 c1 d1)) :: a2 :: none :: rest) := by
        simp -implicitDefEqProofs [lcTurn, h5]
      rw [this]
      simp -implicitDefEqProofs only [Option.bind_some, g5, Option.map_some, List.map_cons]
theorem draws12 (s a2 a3 a4 : Option SV) (rest : Dl) : ∀ (ds : List D) (a b c d : Int), 0 ≤ c → c + ds.length ≤ 900 → ∃ (xs : List Int) (a' b' c' d' : Int), xs.length = ds.length ∧ (∀ x ∈ xs, 0 ≤ x) ∧ 0 ≤ c' ∧ c' ≤ c + ds.length ∧
    lcM [5] (.nm 5) fYes (fV (fCall g__law_draw (fMi (fVar 1) (fMv (fC (.int 12)) (fM0))) [])) ds (s :: some (.own (pu a b c d)) :: a2 :: a3 :: a4 :: none :: rest) = some (xs.map .int, s :: some (.own (pu a' b' c' d')) :: a2 :: a3 :: a4 :: none :: rest)
  | [], a, b, c, d, h, _ => ⟨[], a, b, c, d, rfl, by simp, h, by simp, rfl⟩
  | e :: ds, a, b, c, d, h, hl => by
    simp only [List.length_cons] at hl
    obtain ⟨x, a1, b1, c1, d1, h1, h2, h3, h4, h5⟩ := v_draw a b c d 12 (by omega) (by omega) h (by omega)
    obtain ⟨xs, a', b', c', d', g1, g2, g3, g4, g5⟩ := draws12 s a2 a3 a4 rest ds a1 b1 c1 d1 h3 (by omega)
    refine ⟨x :: xs, a', b', c', d', by simp [g1], fun y hy => ?_, g3, by simp only [List.length_cons]; omega, ?_⟩
    · simp only [List.mem_cons] at hy
      rcases hy with rfl | hy
      · omega
      · exact g2 y hy
    · rw [lcM_turn]
      have : lcTurn [5] (.nm 5) fYes (fV (fCall g__law_draw (fMi (fVar 1) (fMv (fC (.int 12)) (fM0))) [])) e (s :: some (.own (pu a b c d)) :: a2 :: a3 :: a4 :: none :: rest) = some (some (.int x), s :: some (.own (pu a1 b1 c1 d1)) :: a2 :: a3 :: a4 :: none :: rest) := by
        simp -implicitDefEqProofs [lcTurn, h5]
      rw [this]
      simp -implicitDefEqProofs only [Option.bind_some, g5, Option.map_some, List.map_cons]
theorem sum_le9 : ∀ {xs : List Int}, (∀ x ∈ xs, 1 ≤ x ∧ x ≤ 9) → 0 ≤ xs.sum ∧ xs.sum ≤ 9 * xs.length
  | [], _ => by simp
  | x :: xs, h => by
    have := h x (by simp)
    have := sum_le9 fun y hy => h y (List.mem_cons_of_mem _ hy)
    simp only [List.sum_cons, List.length_cons]
    push_cast
    omega


theorem B1_at (ns : List Int) (a b : Int) : ∃ (is : List Int) (a' b' c' d' : Int), Szs is ∧ is.sum ≤ 72 ∧ 0 ≤ c' ∧ c' ≤ 100 ∧ law_B1 [some (.fz (.kl ns)), some (.own (pu a b 0 0)), none, none, none, none, none, none, none, none, none, none, none, none, none, none, none, none, none, none, none, none] = some (.next, [some (.fz (.kl ns)), some (.own (pu a' b' c' d')), some (.fz (iL is)), none, none, none, none, none, none, none, none, none, none, none, none, none, none, none, none, none, none, none]) := by
  obtain ⟨x, a1, b1, c1, d1, h1, h2, h3, h4, h5⟩ := v_draw a b 0 0 9 (by omega) (by omega) (by omega) (by omega)
  have hr : (rngD 0 1 x.toNat).length = x.toNat := by simp [rngD]
  obtain ⟨xs, a', b', c', d', g1, g2, g3, g4, g5⟩ := draws9 (some (.fz (.kl ns))) none (List.replicate 18 none) (rngD 0 1 x.toNat) a1 b1 c1 d1 h3 (by rw [hr]; omega)
  rw [hr] at g1 g4
  have hsum := sum_le9 g2
  refine ⟨xs, a', b', c', d', ⟨fun i hi => (g2 i hi).1, by omega⟩, by omega, g3, by omega, ?_⟩
  have hb : b62 x = true := b62_of (by omega) (by omega)
  have hl : (rngD 0 1 x.toNat).length ≤ 16777216 := by omega
  have e0 : List.replicate 18 (none : Option SV) = [none, none, none, none, none, none, none, none, none, none, none, none, none, none, none, none, none, none] := rfl
  rw [e0] at g5
  simp -implicitDefEqProofs [law_B1, h5, hb, sizeLine_eq, hl, g5]


theorem B2_at (ns is : List Int) (hs : Szs is) (a b c d : Int) (h0 : 0 ≤ c) (h1 : c ≤ 100) : ∃ (ws : List Int) (a' b' c' d' : Int), Wts is ws ∧ 0 ≤ c' ∧ c' ≤ 200 ∧ law_B2 [some (.fz (.kl ns)), some (.own (pu a b c d)), some (.fz (iL is)), none, none, none, none, none, none, none, none, none, none, none, none, none, none, none, none, none, none, none] = some (.next, [some (.fz (.kl ns)), some (.own (pu a' b' c' d')), some (.fz (iL is)), none, some (.fz (iL ws)), none, none, none, none, none, none, none, none, none, none, none, none, none, none, none, none, none]) := by
  have hl := hs.len
  have hr : (is.map D.int).length = is.length := by simp
  obtain ⟨xs, a', b', c', d', g1, g2, g3, g4, g5⟩ := draws12 (some (.fz (.kl ns))) (some (.fz (iL is))) none none (List.replicate 16 none) (is.map D.int) a b c d h0 (by rw [hr]; omega)
  rw [hr] at g1 g4
  refine ⟨xs, a', b', c', d', ⟨g2, g1⟩, g3, by omega, ?_⟩
  have e0 : List.replicate 16 (none : Option SV) = [none, none, none, none, none, none, none, none, none, none, none, none, none, none, none, none] := rfl
  rw [e0] at g5
  have hl2 : is.length ≤ 16777216 := by omega
  simp -implicitDefEqProofs [law_B2, sizeLine_eq, hl2, g5]


theorem B3_at (ns is ws : List Int) (p : D) : law_B3 [some (.fz (.kl ns)), some (.own p), some (.fz (iL is)), none, some (.fz (iL ws)), none, none, none, none, none, none, none, none, none, none, none, none, none, none, none, none, none] = some (.next, [some (.fz (.kl ns)), some (.own p), some (.fz (iL is)), none, some (.fz (iL ws)), none, some (.fz (.int is.sum)), none, none, none, none, none, none, none, none, none, none, none, none, none, none, none]) := by
  have e := intsOf_map is
  simp -implicitDefEqProofs [law_B3, e]


theorem B4_at (ns is ws : List Int) (a b c d : Int) (h0 : 0 ≤ c) (h1 : c ≤ 200) (hs0 : 0 ≤ is.sum) (hs1 : is.sum ≤ 72) : ∃ (r : Int) (p : D), 0 ≤ r ∧ r < is.sum + 3 ∧ law_B4 [some (.fz (.kl ns)), some (.own (pu a b c d)), some (.fz (iL is)), none, some (.fz (iL ws)), none, some (.fz (.int is.sum)), none, none, none, none, none, none, none, none, none, none, none, none, none, none, none] = some (.next, [some (.fz (.kl ns)), some (.own p), some (.fz (iL is)), none, some (.fz (iL ws)), none, some (.fz (.int is.sum)), some (.fz (.int r)), none, none, none, none, none, none, none, none, none, none, none, none, none, none]) := by
  obtain ⟨x, a1, b1, c1, d1, h1, h2, h3, h4, h5⟩ := v_draw a b c d (is.sum + 3) (by omega) (by omega) (by omega) (by omega)
  refine ⟨x, pu a1 b1 c1 d1, h1, h2, ?_⟩
  simp -implicitDefEqProofs [law_B4, h5]


theorem B5_at (ns is ws : List Int) (p : D) (r : Int) (L : List (List Int)) (e : g__law_lots [.fz (.int is.length)] = some (.new (.lst (L.map iL)), [])) : law_B5 [some (.fz (.kl ns)), some (.own p), some (.fz (iL is)), none, some (.fz (iL ws)), none, some (.fz (.int is.sum)), some (.fz (.int r)), none, none, none, none, none, none, none, none, none, none, none, none, none, none] = some (.next, [some (.fz (.kl ns)), some (.own p), some (.fz (iL is)), none, some (.fz (iL ws)), none, some (.fz (.int is.sum)), some (.fz (.int r)), some (.fz (.lst (L.map iL))), none, none, none, none, none, none, none, none, none, none, none, none, none]) := by
  simp -implicitDefEqProofs [law_B5, e]
/-- the law's lots -/
structure Lts (is : List Int) (L : List (List Int)) : Prop where
  pm : L.Perm (lotsN is.length)
theorem Lts.lot {is : List Int} {L : List (List Int)} (h : Lts is L) {lot : List Int} : lot ∈ L ↔ Lot is.length lot := h.pm.mem_iff.trans lotsN_mem
theorem Lts.len {is : List Int} {L : List (List Int)} (h : Lts is L) (hn : is.length ≤ 8) : L.length ≤ 256 := by
  rw [h.pm.length_eq, lotsN_length]
  exact pow8 hn
theorem Lts.cnt {is : List Int} {L : List (List Int)} (h : Lts is L) (hp : ∀ i ∈ is, 0 ≤ i) (x : Int) : (L.filter fun lot => decide (sz is lot = x)).length = K85.cnt is x := by
  rw [← List.countP_eq_length_filter, h.pm.countP_eq, cnt_sm hp, ← (lots_sm is).count_eq, List.count_eq_countP, List.countP_map]
  refine List.countP_congr fun lot _ => ?_
  simp
theorem Lts.nle {is : List Int} {L : List (List Int)} (h : Lts is L) (hp : ∀ i ∈ is, 0 ≤ i) {x : Int} (h0 : 0 ≤ x) : (L.filter fun lot => decide (sz is lot ≤ x)).length = K85.nle is x := by
  rw [← List.countP_eq_length_filter, h.pm.countP_eq, nle_sm hp x h0, ← (lots_sm is).countP_eq, List.countP_map]
  rfl
theorem Lts.best {is ws : List Int} {L : List (List Int)} (h : Lts is L) (hs : ∀ i ∈ is, 0 ≤ i) (he : ws.length = is.length) {x : Int} (h0 : 0 ≤ x) : ((L.filter fun lot => decide (sz is lot ≤ x)).map (sz ws)).max? = some (bst is ws x) := by
  have hm := fun p => ((h.pm.map fun lot => (sz is lot, sz ws lot)).trans (lots_prs is ws he)).mem_iff (a := p)
  obtain ⟨p, p1, p2, p3⟩ := bst_mem is ws h0
  obtain ⟨lot, q1, q2⟩ := List.mem_map.mp ((hm p).mpr p1)
  subst q2
  refine max_is (List.mem_map.mpr ⟨lot, List.mem_filter.mpr ⟨q1, by simpa using p2⟩, p3⟩) fun b hb => ?_
  obtain ⟨lot', r1, rfl⟩ := List.mem_map.mp hb
  rw [List.mem_filter, decide_eq_true_eq] at r1
  exact (bst_le hs ((hm (sz is lot', sz ws lot')).mp (List.mem_map.mpr ⟨lot', r1.1, rfl⟩)) r1.2).2
theorem cntL_rI (is : List Int) : cntL is = (rI (1 + is.sum).toNat).map fun x => .int (K85.cnt is x) := by
  unfold cntL fL rI
  rw [List.map_map]
  rfl


theorem B6_at (ns is ws : List Int) (p : D) (r : Int) (L : List (List Int)) (hs : Szs is) (h0 : 0 ≤ is.sum) (h1 : is.sum ≤ 72) (hL : Lts is L) : law_B6 [some (.fz (.kl ns)), some (.own p), some (.fz (iL is)), none, some (.fz (iL ws)), none, some (.fz (.int is.sum)), some (.fz (.int r)), some (.fz (.lst (L.map iL))), none, none, none, none, none, none, none, none, none, none, none, none, none] = some (.next, [some (.fz (.kl ns)), some (.own p), some (.fz (iL is)), none, some (.fz (iL ws)), none, some (.fz (.int is.sum)), some (.fz (.int r)), some (.fz (.lst (L.map iL))), some (.fz (.lst (cntL is))), none, none, none, none, none, none, none, none, none, none, none, none]) := by
  have hLl := hL.len hs.len
  have hl16 : (L.map iL).length ≤ 16777216 := by simp; omega
  have turn : ∀ x : Int, lcM [10] (.nm 10) (fT (fV (fOp2 dEq (fV (fCall g__law_size (fMv (fVar 2) (fMv (fVar 10) (fM0))) [])) (fVar 11)))) (fVar 10) (L.map iL) [some (.fz (.kl ns)), some (.own p), some (.fz (iL is)), none, some (.fz (iL ws)), none, some (.fz (.int is.sum)), some (.fz (.int r)), some (.fz (.lst (L.map iL))), none, none, some (.fz (.int x)), none, none, none, none, none, none, none, none, none, none] = some ((L.filter fun lot => decide (sz is lot = x)).map iL, [some (.fz (.kl ns)), some (.own p), some (.fz (iL is)), none, some (.fz (iL ws)), none, some (.fz (.int is.sum)), some (.fz (.int r)), some (.fz (.lst (L.map iL))), none, none, some (.fz (.int x)), none, none, none, none, none, none, none, none, none, none]) := fun x =>
    lcM_filterF iL (fun lot => decide (sz is lot = x)) iL fun lot hlot => by
      have hl := hL.lot.mp hlot
      have e := v_law_size is lot hl.2 (hl.le hs.len)
      by_cases hx : sz is lot = x
      · simp -implicitDefEqProofs [lcTurn, e, hx]
      · simp -implicitDefEqProofs [lcTurn, e, hx]
  have e1 := lcM_mapF (vs := [11]) (t := .nm 11) (c := fYes) (f := (fV (fBl gLen (fQ (fV (fLc [10] (fiOf seqOf (fVar 8)) (.nm 10) (fT (fV (fOp2 dEq (fV (fCall g__law_size (fMv (fVar 2) (fMv (fVar 10) (fM0))) [])) (fVar 11)))) (fVar 10))) (fQ0))))) (δ := [some (.fz (.kl ns)), some (.own p), some (.fz (iL is)), none, some (.fz (iL ws)), none, some (.fz (.int is.sum)), some (.fz (.int r)), some (.fz (.lst (L.map iL))), none, none, none, none, none, none, none, none, none, none, none, none, none]) D.int (fun x => .int (K85.cnt is x)) (xs := rI (1 + is.sum).toNat) (fun x _ => by
    have ht := turn x
    have hc : ((L.filter fun lot => decide (sz is lot = x)).map iL).length = K85.cnt is x := by rw [List.length_map]; exact hL.cnt hs.nn x
    generalize ((L.filter fun lot => decide (sz is lot = x)).map iL) = F at *
    generalize L.map iL = LL at *
    simp -implicitDefEqProofs [lcTurn, sizeLine_eq, hl16, ht, hc])
  have hb : b62 (is.sum + 1) = true := b62_of (by omega) (by omega)
  have hn : (is.sum + 1).toNat = (1 + is.sum).toNat := by omega
  have hrl : ((rI (1 + is.sum).toNat).map D.int).length ≤ 16777216 := by simp [rI]; omega
  rw [cntL_rI]
  generalize hRR : (rI (1 + is.sum).toNat).map D.int = RR at *
  have hrr : rngD 0 1 (is.sum + 1).toNat = RR := by rw [hn, rngD_up, hRR]
  simp -implicitDefEqProofs [law_B6, hb, hrr, sizeLine_eq, hrl, e1]


def fnL (is : List Int) (r : Int) (L : List (List Int)) : List (List Int) := L.filter fun lot => decide (sz is lot ≤ r)
theorem B7_at (ns is ws : List Int) (p : D) (r : Int) (L : List (List Int)) (hs : Szs is) (hL : Lts is L) : law_B7 [some (.fz (.kl ns)), some (.own p), some (.fz (iL is)), none, some (.fz (iL ws)), none, some (.fz (.int is.sum)), some (.fz (.int r)), some (.fz (.lst (L.map iL))), some (.fz (.lst (cntL is))), none, none, none, none, none, none, none, none, none, none, none, none] = some (.next, [some (.fz (.kl ns)), some (.own p), some (.fz (iL is)), none, some (.fz (iL ws)), none, some (.fz (.int is.sum)), some (.fz (.int r)), some (.fz (.lst (L.map iL))), some (.fz (.lst (cntL is))), none, none, some (.fz (.lst ((fnL is r L).map iL))), none, none, none, none, none, none, none, none, none]) := by
  have hLl := hL.len hs.len
  have hl16 : (L.map iL).length ≤ 16777216 := by simp; omega
  have turn := lcM_filterF (vs := [10]) (t := .nm 10) (c := (fT (fV (fOp2 dLe (fV (fCall g__law_size (fMv (fVar 2) (fMv (fVar 10) (fM0))) [])) (fVar 7))))) (f := fVar 10) (δ := [some (.fz (.kl ns)), some (.own p), some (.fz (iL is)), none, some (.fz (iL ws)), none, some (.fz (.int is.sum)), some (.fz (.int r)), some (.fz (.lst (L.map iL))), some (.fz (.lst (cntL is))), none, none, none, none, none, none, none, none, none, none, none, none]) iL (fun lot => decide (sz is lot ≤ r)) iL (xs := L) (fun lot hlot => by
      have hl := hL.lot.mp hlot
      have e := v_law_size is lot hl.2 (hl.le hs.len)
      by_cases hx : sz is lot ≤ r
      · simp -implicitDefEqProofs [lcTurn, e, hx]
      · simp -implicitDefEqProofs [lcTurn, e, hx])
  have hF : (L.filter fun lot => decide (sz is lot ≤ r)) = fnL is r L := rfl
  rw [hF] at turn
  generalize (fnL is r L).map iL = F at *
  generalize L.map iL = LL at *
  simp -implicitDefEqProofs [law_B7, sizeLine_eq, hl16, turn]

end K85

set_option Elab.async false
set_option linter.all false
set_option autoImplicit false
set_option maxRecDepth 100000
namespace K85
open PySem PySem.Spec PyProof.Rows L2 L2.Tl


def toldL (is : List Int) (r : Int) : D := .lst [.lst (cntL is), iL (smL is), .int (K85.nle is r), .int (K85.nle is r), .int (K85.cnt is r)]
/-- the law's things -/
structure Lw (is ws : List Int) (r : Int) (L : List (List Int)) : Prop where
  hs : Szs is
  s0 : 0 ≤ is.sum
  s1 : is.sum ≤ 72
  hw : Wts is ws
  r0 : 0 ≤ r
  r1 : r < is.sum + 3
  hL : Lts is L
theorem B8_at (ns is ws : List Int) (p : D) (r : Int) (L : List (List Int)) (h : Lw is ws r L) : law_B8 [some (.fz (.kl ns)), some (.own p), some (.fz (iL is)), none, some (.fz (iL ws)), none, some (.fz (.int is.sum)), some (.fz (.int r)), some (.fz (.lst (L.map iL))), some (.fz (.lst (cntL is))), none, none, some (.fz (.lst ((fnL is r L).map iL))), none, none, none, none, none, none, none, none, none] = some (.next, [some (.fz (.kl ns)), some (.own p), some (.fz (iL is)), none, some (.fz (iL ws)), none, some (.fz (.int is.sum)), some (.fz (.int r)), some (.fz (.lst (L.map iL))), some (.fz (.lst (cntL is))), none, none, some (.fz (.lst ((fnL is r L).map iL))), some (.fz (toldL is r)), none, none, none, none, none, none, none, none]) := by
  have e1 := v_sum_counts is h.hs (by have := h.s1; omega)
  have e2 := v_sums_of is h.hs
  have e3 := v_fitting_count is r h.hs h.r0
  obtain ⟨F, f1, f2⟩ := v_fitting_lots is r h.hs h.r0
  have e4 := v_ways_to is r h.hs h.r0
  have hz : 5 ≤ sizeLine := by rw [sizeLine_eq]; decide
  unfold toldL
  generalize iL is = I at *
  generalize iL (smL is) = SM at *
  simp -implicitDefEqProofs [law_B8, e1, e2, e3, f2, f1, e4, hz]
theorem sum_cast (f : Nat → Nat) (l : List Nat) : (l.map fun i => (f i : Int)).sum = ((l.map f).sum : Nat) := by
  induction l with
  | nil => rfl
  | cons a l ih => simp only [List.map_cons, List.sum_cons, ih]; push_cast; rfl
theorem cntL_at {is : List Int} {x : Int} (h0 : 0 ≤ x) (h1 : x < 1 + is.sum) : atI (cntL is) x = some (.int (K85.cnt is x)) := by
  obtain ⟨k, rfl⟩ := Int.eq_ofNat_of_zero_le h0
  exact fL_at (fun x => K85.cnt is x) (by omega)
theorem cntL_len (is : List Int) : (cntL is).length = (1 + is.sum).toNat := fL_length _ _
theorem cntL_take {is : List Int} (hp : ∀ i ∈ is, 0 ≤ i) {r : Int} (h0 : 0 ≤ r) : ∃ js : List Int, (cntL is).take (r + 1).toNat = js.map .int ∧ js.sum = (K85.nle is r : Nat) := by
  refine ⟨(List.range (min (r + 1).toNat (1 + is.sum).toNat)).map fun i : Nat => (K85.cnt is i : Int), ?_, ?_⟩
  · unfold cntL fL
    rw [← List.map_take, List.take_range, List.map_map]
    rfl
  · rw [sum_cast (fun i => K85.cnt is i), sum_cnt hp, nle_sm hp r h0]
    congr 1
    refine List.countP_congr fun y hy => ?_
    have := sm_nonneg hp y hy
    simp only [decide_eq_true_eq]
    omega
theorem B9_at (ns is ws : List Int) (p : D) (r : Int) (L : List (List Int)) (h : Lw is ws r L) : law_B9 [some (.fz (.kl ns)), some (.own p), some (.fz (iL is)), none, some (.fz (iL ws)), none, some (.fz (.int is.sum)), some (.fz (.int r)), some (.fz (.lst (L.map iL))), some (.fz (.lst (cntL is))), none, none, some (.fz (.lst ((fnL is r L).map iL))), some (.fz (toldL is r)), none, none, none, none, none, none, none, none] = some (.next, [some (.fz (.kl ns)), some (.own p), some (.fz (iL is)), none, some (.fz (iL ws)), none, some (.fz (.int is.sum)), some (.fz (.int r)), some (.fz (.lst (L.map iL))), some (.fz (.lst (cntL is))), none, none, some (.fz (.lst ((fnL is r L).map iL))), some (.fz (toldL is r)), some (.fz (toldL is r)), none, none, none, none, none, none, none]) := by
  have hr0 := h.r0
  have hr1 := h.r1
  have hs0 := h.s0
  have hs1 := h.s1
  have e1 := lcM_filterF (vs := [11]) (t := .nm 11) (c := (fT (fV (fOp2 dGt (fV (fOp2 dIx (fVar 9) (fVar 11))) (fC (.int 0)))))) (f := fVar 11) (δ := [some (.fz (.kl ns)), some (.own p), some (.fz (iL is)), none, some (.fz (iL ws)), none, some (.fz (.int is.sum)), some (.fz (.int r)), some (.fz (.lst (L.map iL))), some (.fz (.lst (cntL is))), none, none, some (.fz (.lst ((fnL is r L).map iL))), some (.fz (toldL is r)), none, none, none, none, none, none, none, none]) D.int (fun x => decide (0 < K85.cnt is x)) D.int (xs := rI (1 + is.sum).toNat) (fun x hx => by
    have hx := mem_rI.mp hx
    have e := cntL_at (is := is) hx.1 (by omega)
    by_cases h0 : 0 < K85.cnt is x
    · simp -implicitDefEqProofs [lcTurn, e, h0]
    · simp -implicitDefEqProofs [lcTurn, e, h0])
  have e1' : ((rI (1 + is.sum).toNat).filter fun x => decide (0 < K85.cnt is x)) = smL is := rfl
  rw [e1'] at e1
  have hb : b62 (is.sum + 1) = true := b62_of (by omega) (by omega)
  have hn : (is.sum + 1).toNat = (1 + is.sum).toNat := by omega
  have hrl : ((rI (1 + is.sum).toNat).map D.int).length ≤ 16777216 := by simp [rI]; omega
  generalize hRR : (rI (1 + is.sum).toNat).map D.int = RR at *
  have hrr : rngD 0 1 (is.sum + 1).toNat = RR := by rw [hn, rngD_up, hRR]
  obtain ⟨js, j1, j2⟩ := cntL_take h.hs.nn h.r0
  have e2 : cutD (cntL is) none (some (r + 1)) = js.map .int := by rw [cutD_to (by omega), j1]
  have e3 := intsOf_map js
  have e4 : ((fnL is r L).map iL).length = K85.nle is r := by rw [List.length_map]; exact h.hL.nle h.hs.nn h.r0
  have hz3 : 3 ≤ sizeLine := by rw [sizeLine_eq]; decide
  have hz5 : 5 ≤ sizeLine := by rw [sizeLine_eq]; decide
  have hcl := cntL_len is
  have hcl2 : (cntL is).length + 3 ≤ sizeLine := by rw [sizeLine_eq, hcl]; omega
  have e5 : atI (cntL is ++ [.int 0, .int 0, .int 0]) r = some (.int (K85.cnt is r)) := by
    by_cases hlt : r < 1 + is.sum
    · have := cntL_at h.r0 hlt
      obtain ⟨k, rfl⟩ := Int.eq_ofNat_of_zero_le h.r0
      refine atK ?_
      rw [List.getElem?_append_left (by rw [hcl]; omega)]
      have hk : k < (1 + is.sum).toNat := by omega
      simp [cntL, fL, hk]
    · have hz : K85.cnt is r = 0 := cnt_zero is r h.hs.pos (by omega)
      obtain ⟨k, rfl⟩ := Int.eq_ofNat_of_zero_le h.r0
      refine atK ?_
      rw [hz, List.getElem?_append_right (by rw [hcl]; omega), hcl]
      have : k - (1 + is.sum).toNat = 0 ∨ k - (1 + is.sum).toNat = 1 := by omega
      rcases this with h | h <;> rw [h] <;> rfl
  have hdd : dAdd (.lst (cntL is)) (.lst [.int 0, .int 0, .int 0]) = some (.new (.lst (cntL is ++ [.int 0, .int 0, .int 0]))) := by
    rw [dAdd_lst]
    exact if_pos hcl2
  unfold toldL at *
  generalize cntL is ++ [.int 0, .int 0, .int 0] = CC at *
  generalize cntL is = C at *
  generalize (fnL is r L).map iL = F at *
  generalize js.map D.int = J at *
  simp -implicitDefEqProofs [law_B9, hb, hrr, sizeLine_eq, hrl, e1, e2, e3, e4, j2, hdd, e5, hz3, hz5]
theorem told_same (is ws : List Int) (r : Int) (L : List (List Int)) (h : Lw is ws r L) : Sm' 6 (toldL is r) := by
  have hs1 := h.s1
  refine same_lst 5 _ (by simp) fun d hd => ?_
  simp only [List.mem_cons, List.not_mem_nil, or_false] at hd
  rcases hd with rfl | rfl | rfl | rfl | rfl
  · have : cntL is = ((rI (1 + is.sum).toNat).map fun x => (K85.cnt is x : Int)).map .int := by
      rw [cntL_rI, List.map_map]
      rfl
    rw [this]
    exact same_ints 3 _ (by simp [rI]; omega)
  · exact same_ints 3 _ (by have := smL_len is (by omega); omega)
  · exact same_int 4 _
  · exact same_int 4 _
  · exact same_int 4 _
theorem B10_at (ns is ws : List Int) (p : D) (r : Int) (L : List (List Int)) (h : Lw is ws r L) : law_B10 [some (.fz (.kl ns)), some (.own p), some (.fz (iL is)), none, some (.fz (iL ws)), none, some (.fz (.int is.sum)), some (.fz (.int r)), some (.fz (.lst (L.map iL))), some (.fz (.lst (cntL is))), none, none, some (.fz (.lst ((fnL is r L).map iL))), some (.fz (toldL is r)), some (.fz (toldL is r)), none, none, none, none, none, none, none] = some (.next, [some (.fz (.kl ns)), some (.own p), some (.fz (iL is)), none, some (.fz (iL ws)), none, some (.fz (.int is.sum)), some (.fz (.int r)), some (.fz (.lst (L.map iL))), some (.fz (.lst (cntL is))), none, none, some (.fz (.lst ((fnL is r L).map iL))), some (.fz (toldL is r)), some (.fz (toldL is r)), none, none, none, none, none, none, none]) := by
  have e := told_same is ws r L h
  unfold Sm' at e
  generalize toldL is r = T at *
  simp -implicitDefEqProofs [law_B10, e]
theorem B11_at (ns is ws : List Int) (p : D) (r : Int) (L : List (List Int)) (h : Lw is ws r L) : law_B11 [some (.fz (.kl ns)), some (.own p), some (.fz (iL is)), none, some (.fz (iL ws)), none, some (.fz (.int is.sum)), some (.fz (.int r)), some (.fz (.lst (L.map iL))), some (.fz (.lst (cntL is))), none, none, some (.fz (.lst ((fnL is r L).map iL))), some (.fz (toldL is r)), some (.fz (toldL is r)), none, none, none, none, none, none, none] = some (.next, [some (.fz (.kl ns)), some (.own p), some (.fz (iL is)), none, some (.fz (iL ws)), none, some (.fz (.int is.sum)), some (.fz (.int r)), some (.fz (.lst (L.map iL))), some (.fz (.lst (cntL is))), none, none, some (.fz (.lst ((fnL is r L).map iL))), some (.fz (toldL is r)), some (.fz (toldL is r)), some (.fz (.int (bst is is r))), none, none, none, none, none, none]) := by
  have hLl := h.hL.len h.hs.len
  have hFl : ((fnL is r L).map iL).length ≤ 16777216 := by
    have := List.length_filter_le (fun lot => decide (sz is lot ≤ r)) L
    rw [List.length_map]
    unfold fnL
    omega
  have e1 := lcM_mapF (vs := [10]) (t := .nm 10) (c := fYes) (f := (fV (fCall g__law_size (fMv (fVar 2) (fMv (fVar 10) (fM0))) []))) (δ := [some (.fz (.kl ns)), some (.own p), some (.fz (iL is)), none, some (.fz (iL ws)), none, some (.fz (.int is.sum)), some (.fz (.int r)), some (.fz (.lst (L.map iL))), some (.fz (.lst (cntL is))), none, none, some (.fz (.lst ((fnL is r L).map iL))), some (.fz (toldL is r)), some (.fz (toldL is r)), none, none, none, none, none, none, none]) iL (fun lot => .int (sz is lot)) (xs := fnL is r L) (fun lot hlot => by
      have hl := h.hL.lot.mp (List.mem_filter.mp hlot).1
      have e := v_law_size is lot hl.2 (hl.le h.hs.len)
      simp -implicitDefEqProofs [lcTurn, e])
  have e2 : intsOf ((fnL is r L).map fun lot => D.int (sz is lot)) = some ((fnL is r L).map (sz is)) := intsOf_mapF _ _
  have e3 : ((fnL is r L).map (sz is)).max? = some (bst is is r) := h.hL.best h.hs.nn rfl h.r0
  generalize ((fnL is r L).map fun lot => D.int (sz is lot)) = G1 at *
  generalize (fnL is r L).map iL = F at *
  simp -implicitDefEqProofs [law_B11, sizeLine_eq, hFl, e1, e2, e3]
theorem B12_at (ns is ws : List Int) (p : D) (r : Int) (L : List (List Int)) (h : Lw is ws r L) : law_B12 [some (.fz (.kl ns)), some (.own p), some (.fz (iL is)), none, some (.fz (iL ws)), none, some (.fz (.int is.sum)), some (.fz (.int r)), some (.fz (.lst (L.map iL))), some (.fz (.lst (cntL is))), none, none, some (.fz (.lst ((fnL is r L).map iL))), some (.fz (toldL is r)), some (.fz (toldL is r)), some (.fz (.int (bst is is r))), none, none, none, none, none, none] = some (.next, [some (.fz (.kl ns)), some (.own p), some (.fz (iL is)), none, some (.fz (iL ws)), none, some (.fz (.int is.sum)), some (.fz (.int r)), some (.fz (.lst (L.map iL))), some (.fz (.lst (cntL is))), none, none, some (.fz (.lst ((fnL is r L).map iL))), some (.fz (toldL is r)), some (.fz (toldL is r)), some (.fz (.int (bst is is r))), none, none, none, none, none, none]) := by
  have hs1 := h.s1
  have e1 := v_nearest_below is r h.hs (by omega) h.r0
  have e2 := v_bag_worth is is r h.hs ⟨h.hs.nn, rfl⟩ h.r0
  have e3 : Sm' 6 (.lst [.int (bst is is r), .int (bst is is r)]) := same_lst 5 _ (by simp) fun d hd => by
    simp only [List.mem_cons, List.not_mem_nil, or_false, or_self] at hd
    subst hd
    exact same_int 4 _
  unfold Sm' at e3
  have hz2 : 2 ≤ sizeLine := by rw [sizeLine_eq]; decide
  generalize iL is = I at *
  simp -implicitDefEqProofs [law_B12, e1, e2, e3, hz2]
theorem B13_at (ns is ws : List Int) (p : D) (r : Int) (L : List (List Int)) (h : Lw is ws r L) : law_B13 [some (.fz (.kl ns)), some (.own p), some (.fz (iL is)), none, some (.fz (iL ws)), none, some (.fz (.int is.sum)), some (.fz (.int r)), some (.fz (.lst (L.map iL))), some (.fz (.lst (cntL is))), none, none, some (.fz (.lst ((fnL is r L).map iL))), some (.fz (toldL is r)), some (.fz (toldL is r)), some (.fz (.int (bst is is r))), none, none, none, none, none, none] = some (.next, [some (.fz (.kl ns)), some (.own p), some (.fz (iL is)), none, some (.fz (iL ws)), none, some (.fz (.int is.sum)), some (.fz (.int r)), some (.fz (.lst (L.map iL))), some (.fz (.lst (cntL is))), none, none, some (.fz (.lst ((fnL is r L).map iL))), some (.fz (toldL is r)), some (.fz (toldL is r)), some (.fz (.int (bst is is r))), some (.fz (.int (bst is ws r))), none, none, none, none, none]) := by
  have hLl := h.hL.len h.hs.len
  have hFl : ((fnL is r L).map iL).length ≤ 16777216 := by
    have := List.length_filter_le (fun lot => decide (sz is lot ≤ r)) L
    rw [List.length_map]
    unfold fnL
    omega
  have e1 := lcM_mapF (vs := [10]) (t := .nm 10) (c := fYes) (f := (fV (fBl gSum (fQ (fV (fLc [17] (fiOf seqOf (fVar 10)) (.nm 17) (fYes) (fV (fOp2 dIx (fVar 4) (fVar 17))))) (fQ0))))) (δ := [some (.fz (.kl ns)), some (.own p), some (.fz (iL is)), none, some (.fz (iL ws)), none, some (.fz (.int is.sum)), some (.fz (.int r)), some (.fz (.lst (L.map iL))), some (.fz (.lst (cntL is))), none, none, some (.fz (.lst ((fnL is r L).map iL))), some (.fz (toldL is r)), some (.fz (toldL is r)), some (.fz (.int (bst is is r))), none, none, none, none, none, none]) iL (fun lot => .int (sz ws lot)) (xs := fnL is r L) (fun lot hlot => by
      have hl := h.hL.lot.mp (List.mem_filter.mp hlot).1
      have hll := hl.length_le
      have hs8 := h.hs.len
      have h16 : lot.length ≤ 16777216 := by omega
      have i1 := lcM_mapF (vs := [17]) (t := .nm 17) (c := fYes) (f := (fV (fOp2 dIx (fVar 4) (fVar 17)))) (δ := [some (.fz (.kl ns)), some (.own p), some (.fz (iL is)), none, some (.fz (iL ws)), none, some (.fz (.int is.sum)), some (.fz (.int r)), some (.fz (.lst (L.map iL))), some (.fz (.lst (cntL is))), some (.fz (iL lot)), none, some (.fz (.lst ((fnL is r L).map iL))), some (.fz (toldL is r)), some (.fz (toldL is r)), some (.fz (.int (bst is is r))), none, none, none, none, none, none]) D.int (fun i => .int (ig ws i)) (xs := lot) (fun i hi => by
        have hi2 := hl.2 i hi
        have := atI_ig (l := ws) hi2.1 (by rw [h.hw.len]; exact hi2.2)
        simp -implicitDefEqProofs [lcTurn, this])
      have i2 : intsOf (lot.map fun i => D.int (ig ws i)) = some (lot.map (ig ws)) := intsOf_mapF _ _
      have i3 : (lot.map (ig ws)).sum = sz ws lot := rfl
      generalize (lot.map fun i => D.int (ig ws i)) = GG at *
      simp -implicitDefEqProofs [lcTurn, sizeLine_eq, h16, i1, i2, i3])
  have e2 : intsOf ((fnL is r L).map fun lot => D.int (sz ws lot)) = some ((fnL is r L).map (sz ws)) := intsOf_mapF _ _
  have e3 : ((fnL is r L).map (sz ws)).max? = some (bst is ws r) := h.hL.best h.hs.nn h.hw.len h.r0
  generalize ((fnL is r L).map fun lot => D.int (sz ws lot)) = G1 at *
  generalize (fnL is r L).map iL = F at *
  simp -implicitDefEqProofs [law_B13, sizeLine_eq, hFl, e1, e2, e3]
structure Bs (is ws : List Int) (r : Int) (best : List Int) : Prop where
  lot : Lot is.length best
  le : sz is best ≤ r
  wt : sz ws best = bst is ws r
theorem B14_at (ns is ws : List Int) (p : D) (r : Int) (L : List (List Int)) (h : Lw is ws r L) : ∃ best, Bs is ws r best ∧ law_B14 [some (.fz (.kl ns)), some (.own p), some (.fz (iL is)), none, some (.fz (iL ws)), none, some (.fz (.int is.sum)), some (.fz (.int r)), some (.fz (.lst (L.map iL))), some (.fz (.lst (cntL is))), none, none, some (.fz (.lst ((fnL is r L).map iL))), some (.fz (toldL is r)), some (.fz (toldL is r)), some (.fz (.int (bst is is r))), some (.fz (.int (bst is ws r))), none, none, none, none, none] = some (.next, [some (.fz (.kl ns)), some (.own p), some (.fz (iL is)), none, some (.fz (iL ws)), none, some (.fz (.int is.sum)), some (.fz (.int r)), some (.fz (.lst (L.map iL))), some (.fz (.lst (cntL is))), none, none, some (.fz (.lst ((fnL is r L).map iL))), some (.fz (toldL is r)), some (.fz (toldL is r)), some (.fz (.int (bst is is r))), some (.fz (.int (bst is ws r))), none, some (.fz (iL best)), none, none, none]) := by
  obtain ⟨lot, h1, h2, h3, h4⟩ := v_best_lot is ws r h.hs h.hw h.r0
  refine ⟨lot, ⟨h1, h2, h3⟩, ?_⟩
  generalize iL is = I at *
  generalize iL ws = W at *
  simp -implicitDefEqProofs [law_B14, h4]
theorem dIn_lots (x : List Int) (L : List (List Int)) (h : x ∈ L) : dIn (iL x) (.lst (L.map iL)) = some (.val (.bl true)) := by
  have h1 : inOk (iL x) (L.map iL) = true := by
    simp only [inOk, Bool.and_eq_true, decide_eq_true_eq]
    refine ⟨plain_iL x, plainL_of fun d hd => ?_, ?_⟩
    · obtain ⟨l, _, rfl⟩ := List.mem_map.mp hd
      exact plain_iL l
    · exact Nat.le_trans (Nat.min_le_right _ _) (by simp)
  have h2 : ((L.map iL).any fun y => D.eqv y (iL x)) = true := by
    rw [List.any_eq_true]
    exact ⟨iL x, List.mem_map.mpr ⟨x, h, rfl⟩, by
      show eqvL _ _ = true
      rw [eqvL_ints]
      exact decide_eq_true rfl⟩
  show (if inOk (iL x) (L.map iL) = true then some ((L.map iL).any fun y => D.eqv y (iL x)) else none).map _ = _
  rw [if_pos h1, h2]
  rfl
theorem B15_at (ns is ws : List Int) (p : D) (r : Int) (L : List (List Int)) (h : Lw is ws r L) (best : List Int) (hb : Bs is ws r best) : law_B15 [some (.fz (.kl ns)), some (.own p), some (.fz (iL is)), none, some (.fz (iL ws)), none, some (.fz (.int is.sum)), some (.fz (.int r)), some (.fz (.lst (L.map iL))), some (.fz (.lst (cntL is))), none, none, some (.fz (.lst ((fnL is r L).map iL))), some (.fz (toldL is r)), some (.fz (toldL is r)), some (.fz (.int (bst is is r))), some (.fz (.int (bst is ws r))), none, some (.fz (iL best)), none, none, none] = some (.next, [some (.fz (.kl ns)), some (.own p), some (.fz (iL is)), none, some (.fz (iL ws)), none, some (.fz (.int is.sum)), some (.fz (.int r)), some (.fz (.lst (L.map iL))), some (.fz (.lst (cntL is))), none, none, some (.fz (.lst ((fnL is r L).map iL))), some (.fz (toldL is r)), some (.fz (toldL is r)), some (.fz (.int (bst is is r))), some (.fz (.int (bst is ws r))), none, some (.fz (iL best)), none, none, none]) := by
  have e1 := v_bag_worth is ws r h.hs h.hw h.r0
  have e2 := v_worth_of is ws best h.hs h.hw.nn h.hw.len hb.lot
  rw [hb.wt] at e2
  have e3 := v_does_fit is best r h.r0 h.hs hb.lot
  rw [decide_eq_true hb.le] at e3
  have e4 := dIn_lots best (fnL is r L) (List.mem_filter.mpr ⟨h.hL.lot.mpr hb.lot, by simpa using hb.le⟩)
  have e5 : Sm' 6 (.lst [.int (bst is ws r), .int (bst is ws r), .bl true, .bl true]) := same_lst 5 _ (by simp) fun d hd => by
    simp only [List.mem_cons, List.not_mem_nil, or_false, or_self] at hd
    rcases hd with rfl | rfl | rfl
    · exact same_int 4 _
    · exact same_int 4 _
    · exact same_bl 4 _
  unfold Sm' at e5
  have hz4 : 4 ≤ sizeLine := by rw [sizeLine_eq]; decide
  generalize iL is = I at *
  generalize iL ws = W at *
  generalize iL best = BB at *
  generalize (fnL is r L).map iL = F at *
  simp -implicitDefEqProofs [law_B15, e1, e2, e3, e4, e5, hz4]

end K85

set_option Elab.async false
set_option linter.all false
set_option autoImplicit false
set_option maxRecDepth 100000
namespace K85
open PySem PySem.Spec PyProof.Rows L2 L2.Tl


noncomputable def law_B16c : Fs := (sIf (fTO (fT (fV (fOp2 dNe (fV (fCall g_least_gap (fMv (fVar 2) (fM0)) [])) (fV (fBl gMin (fQ (fVar 19) (fQ0))))))) (fTO (fT (fV (fOp2 dNe (fV (fCall g_gap_of (fMv (fVar 2) (fMv (fVar 20) (fM0))) [])) (fV (fBl gMin (fQ (fVar 19) (fQ0))))))) (fT (fV (fOp2 dNe (fV (fBl gSorted (fQ (fV (fCall g_gap_counts (fMv (fVar 2) (fM0)) [])) (fQ0)))) (fV (fBl gSorted (fQ (fV (fBl gDict (fQ (fV (fLc [21] (fiOf seqOf (fVar 19)) (.nm 21) (fYes) (fV (fTup (fA (fVar 21) (fA (fC (.bl true)) (fA0))))))) (fQ0)))) (fQ0))))))))) (sRet (fO (fC (.bl false)))) (sNext))
noncomputable def law_B16a : Fs := (sSet 19 (fV (fLc [11] (fiA gRng1 (fA (fV (fOp2 dAdd (fVar 6) (fC (.int 1)))) (fA0))) (.nm 11) (fT (fV (fOp2 dGt (fV (fOp2 dIx (fVar 9) (fVar 11))) (fC (.int 0))))) (fV (fBl gAbs (fQ (fV (fOp2 dSub (fVar 6) (fV (fOp2 dMul (fC (.int 2)) (fVar 11))))) (fQ0)))))))
theorem law_B16_eq : law_B16 = sIf (fT (fV (fOp2 dNe (fVar 2) (fV (fLst (fA0)))))) (sSeq law_B16a (sSeq (sSet 20 (fV (fCall g_first_split (fMv (fVar 2) (fM0)) []))) law_B16c)) (sNext) := rfl
theorem B16a_at (ns is ws : List Int) (p : D) (r : Int) (L : List (List Int)) (h : Lw is ws r L) (best : List Int) : law_B16a [some (.fz (.kl ns)), some (.own p), some (.fz (iL is)), none, some (.fz (iL ws)), none, some (.fz (.int is.sum)), some (.fz (.int r)), some (.fz (.lst (L.map iL))), some (.fz (.lst (cntL is))), none, none, some (.fz (.lst ((fnL is r L).map iL))), some (.fz (toldL is r)), some (.fz (toldL is r)), some (.fz (.int (bst is is r))), some (.fz (.int (bst is ws r))), none, some (.fz (iL best)), none, none, none] = some (.next, [some (.fz (.kl ns)), some (.own p), some (.fz (iL is)), none, some (.fz (iL ws)), none, some (.fz (.int is.sum)), some (.fz (.int r)), some (.fz (.lst (L.map iL))), some (.fz (.lst (cntL is))), none, none, some (.fz (.lst ((fnL is r L).map iL))), some (.fz (toldL is r)), some (.fz (toldL is r)), some (.fz (.int (bst is is r))), some (.fz (.int (bst is ws r))), none, some (.fz (iL best)), some (.fz (.lst ((gapL is).map D.int))), none, none]) := by
  have hr0 := h.r0
  have hr1 := h.r1
  have hs0 := h.s0
  have hs1 := h.s1
  have e1 := lcM_filterF (vs := [11]) (t := .nm 11) (c := (fT (fV (fOp2 dGt (fV (fOp2 dIx (fVar 9) (fVar 11))) (fC (.int 0)))))) (f := (fV (fBl gAbs (fQ (fV (fOp2 dSub (fVar 6) (fV (fOp2 dMul (fC (.int 2)) (fVar 11))))) (fQ0))))) (δ := [some (.fz (.kl ns)), some (.own p), some (.fz (iL is)), none, some (.fz (iL ws)), none, some (.fz (.int is.sum)), some (.fz (.int r)), some (.fz (.lst (L.map iL))), some (.fz (.lst (cntL is))), none, none, some (.fz (.lst ((fnL is r L).map iL))), some (.fz (toldL is r)), some (.fz (toldL is r)), some (.fz (.int (bst is is r))), some (.fz (.int (bst is ws r))), none, some (.fz (iL best)), none, none, none]) D.int (fun x => decide (0 < K85.cnt is x)) (fun x => .int (absI (is.sum - 2 * x))) (xs := rI (1 + is.sum).toNat) (fun x hx => by
    have hx := mem_rI.mp hx
    have e := cntL_at (is := is) hx.1 (by omega)
    have ha : ∀ i : Int, gAbs [.int i] = some (.val (.int (absI i))) := fun _ => rfl
    by_cases h0 : 0 < K85.cnt is x
    · simp -implicitDefEqProofs [lcTurn, e, h0, ha, mulOk2, -gAbs_int]
    · simp -implicitDefEqProofs [lcTurn, e, h0])
  have e1' : ((rI (1 + is.sum).toNat).filter fun x => decide (0 < K85.cnt is x)).map (fun x => D.int (absI (is.sum - 2 * x))) = (gapL is).map .int := by
    unfold gapL smL
    rw [List.map_map]
    rfl
  rw [e1'] at e1
  have hb : b62 (is.sum + 1) = true := b62_of (by omega) (by omega)
  have hn : (is.sum + 1).toNat = (1 + is.sum).toNat := by omega
  have hrl : ((rI (1 + is.sum).toNat).map D.int).length ≤ 16777216 := by simp [rI]; omega
  generalize hRR : (rI (1 + is.sum).toNat).map D.int = RR at *
  have hrr : rngD 0 1 (is.sum + 1).toNat = RR := by rw [hn, rngD_up, hRR]
  generalize (gapL is).map D.int = GG at *
  generalize cntL is = CC at *
  simp -implicitDefEqProofs [law_B16a, hb, hrr, sizeLine_eq, hrl, e1]
theorem B16c_at (ns ws : List Int) (s : Int) (l : List Int) (p : D) (r : Int) (L : List (List Int)) (h : Lw (s :: l) ws r L) (best lot : List Int) (hl : Lot (s :: l).length lot) (hh : lot.head? = some 0) (hg : absI (2 * sz (s :: l) lot - (s :: l).sum) = lgap (s :: l)) : law_B16c [some (.fz (.kl ns)), some (.own p), some (.fz (iL (s :: l))), none, some (.fz (iL ws)), none, some (.fz (.int (s :: l).sum)), some (.fz (.int r)), some (.fz (.lst (L.map iL))), some (.fz (.lst (cntL (s :: l)))), none, none, some (.fz (.lst ((fnL (s :: l) r L).map iL))), some (.fz (toldL (s :: l) r)), some (.fz (toldL (s :: l) r)), some (.fz (.int (bst (s :: l) (s :: l) r))), some (.fz (.int (bst (s :: l) ws r))), none, some (.fz (iL best)), some (.fz (.lst ((gapL (s :: l)).map D.int))), some (.fz (iL lot)), none] = some (.next, [some (.fz (.kl ns)), some (.own p), some (.fz (iL (s :: l))), none, some (.fz (iL ws)), none, some (.fz (.int (s :: l).sum)), some (.fz (.int r)), some (.fz (.lst (L.map iL))), some (.fz (.lst (cntL (s :: l)))), none, none, some (.fz (.lst ((fnL (s :: l) r L).map iL))), some (.fz (toldL (s :: l) r)), some (.fz (toldL (s :: l) r)), some (.fz (.int (bst (s :: l) (s :: l) r))), some (.fz (.int (bst (s :: l) ws r))), none, some (.fz (iL best)), some (.fz (.lst ((gapL (s :: l)).map D.int))), some (.fz (iL lot)), none]) := by
  have e1 := v_least_gap s l h.hs
  have e2 := v_gap_of (s :: l) lot h.hs hl hh
  rw [hg] at e2
  obtain ⟨kvs, e3, e4⟩ := v_gap_counts s l h.hs
  have e5 := intsOf_map (gapL (s :: l))
  have e6 := gapL_min (s :: l) h.hs
  have hs1 := h.s1
  have hgl : ((gapL (s :: l)).map D.int).length ≤ 16777216 := by
    have := smL_len (s :: l) (by omega)
    unfold gapL
    simp
    omega
  have hz2 : 2 ≤ sizeLine := by rw [sizeLine_eq]; decide
  have e7 := lcM_mapF (vs := [21]) (t := .nm 21) (c := fYes) (f := (fV (fTup (fA (fVar 21) (fA (fC (.bl true)) (fA0)))))) (δ := [some (.fz (.kl ns)), some (.own p), some (.fz (iL (s :: l))), none, some (.fz (iL ws)), none, some (.fz (.int (s :: l).sum)), some (.fz (.int r)), some (.fz (.lst (L.map iL))), some (.fz (.lst (cntL (s :: l)))), none, none, some (.fz (.lst ((fnL (s :: l) r L).map iL))), some (.fz (toldL (s :: l) r)), some (.fz (toldL (s :: l) r)), some (.fz (.int (bst (s :: l) (s :: l) r))), some (.fz (.int (bst (s :: l) ws r))), none, some (.fz (iL best)), some (.fz (.lst ((gapL (s :: l)).map D.int))), some (.fz (iL lot)), none]) D.int (fun g => .tup [.int g, .bl true]) (xs := gapL (s :: l)) (fun x hx => by
    simp -implicitDefEqProofs [lcTurn, hz2])
  have e8 : gDict [.lst ((gapL (s :: l)).map fun g => .tup [.int g, .bl true])] = some (.new (encT (updT [] (gapL (s :: l))))) := by
    have hp : ∀ G : List Int, Tl.pairsOf (G.map fun g => .tup [.int g, .bl true]) = some (G.map fun g => (.int g, .bl true)) := fun G => by
      induction G with
      | nil => rfl
      | cons g G ih => simp only [List.map_cons, Tl.pairsOf, ih]; rfl
    show (Tl.pairsOf _).map _ = _
    rw [hp]
    have := kvMerge_T (gapL (s :: l)) []
    simp only [List.map_nil] at this
    simp only [Option.map_some, this]
    rfl
  have e9 : gSorted [encT (updT [] (gapL (s :: l)))] = some (.new (iL (sortI (updT [] (gapL (s :: l)))))) := by
    show (intsOf (((updT [] (gapL (s :: l))).map fun k => (D.int k, D.bl true)).map (·.1))).map _ = _
    rw [List.map_map]
    have : ((updT [] (gapL (s :: l))).map ((·.1) ∘ fun k => (D.int k, D.bl true))) = (updT [] (gapL (s :: l))).map .int := rfl
    rw [this, intsOf_map]
    rfl
  have e10 : dNe (iL (sortI (updT [] (gapL (s :: l))))) (iL (sortI (updT [] (gapL (s :: l))))) = some (.val (.bl false)) := by
    rw [dNe_ints]
    simp
  generalize ((gapL (s :: l)).map fun g => D.tup [.int g, .bl true]) = TT at *
  generalize encT (updT [] (gapL (s :: l))) = ET at *
  generalize (sortI (updT [] (gapL (s :: l)))) = SS at *
  generalize (gapL (s :: l)).map D.int = GG at *
  generalize iL (s :: l) = I at *
  generalize iL lot = LO at *
  generalize lgap (s :: l) = gg at *
  generalize (s :: l).sum = SU at *
  simp -implicitDefEqProofs [law_B16c, e1, e2, e3, e4, e5, e6, sizeLine_eq, hgl, e7, e8, e9, e10]
theorem B16_at (ns is ws : List Int) (p : D) (r : Int) (L : List (List Int)) (h : Lw is ws r L) (best : List Int) : ∃ a19 a20, law_B16 [some (.fz (.kl ns)), some (.own p), some (.fz (iL is)), none, some (.fz (iL ws)), none, some (.fz (.int is.sum)), some (.fz (.int r)), some (.fz (.lst (L.map iL))), some (.fz (.lst (cntL is))), none, none, some (.fz (.lst ((fnL is r L).map iL))), some (.fz (toldL is r)), some (.fz (toldL is r)), some (.fz (.int (bst is is r))), some (.fz (.int (bst is ws r))), none, some (.fz (iL best)), none, none, none] = some (.next, [some (.fz (.kl ns)), some (.own p), some (.fz (iL is)), none, some (.fz (iL ws)), none, some (.fz (.int is.sum)), some (.fz (.int r)), some (.fz (.lst (L.map iL))), some (.fz (.lst (cntL is))), none, none, some (.fz (.lst ((fnL is r L).map iL))), some (.fz (toldL is r)), some (.fz (toldL is r)), some (.fz (.int (bst is is r))), some (.fz (.int (bst is ws r))), none, some (.fz (iL best)), a19, a20, none]) := by
  cases is with
  | nil =>
    refine ⟨none, none, ?_⟩
    have e0 : dNe (iL []) (.lst []) = some (.val (.bl false)) := dNe_nil (xs := []) rfl
    generalize iL [] = I at *
    generalize law_B16a = A at *
    generalize law_B16c = C at *
    simp -implicitDefEqProofs [law_B16_eq, e0]
  | cons s l =>
    obtain ⟨lot, h1, h2, h3, h4⟩ := v_first_split s l h.hs
    refine ⟨some (.fz (iL (gapL (s :: l)))), some (.fz (iL lot)), ?_⟩
    have e0 : dNe (iL (s :: l)) (.lst []) = some (.val (.bl true)) := dNe_nil (xs := (s :: l).map D.int) (plainL_ints _)
    have ea := B16a_at ns (s :: l) ws p r L h best
    have ec := B16c_at ns ws s l p r L h best lot h1 h2 h3
    generalize iL (s :: l) = I at *
    generalize iL lot = LO at *
    generalize (s :: l).sum = SU at *
    simp -implicitDefEqProofs [law_B16_eq, e0, ea, h4, ec]
theorem B17_at (ns is ws : List Int) (p : D) (r : Int) (L : List (List Int)) (h : Lw is ws r L) (best : List Int) (hb : Bs is ws r best) (a19 a20 : Option SV) : law_B17 [some (.fz (.kl ns)), some (.own p), some (.fz (iL is)), none, some (.fz (iL ws)), none, some (.fz (.int is.sum)), some (.fz (.int r)), some (.fz (.lst (L.map iL))), some (.fz (.lst (cntL is))), none, none, some (.fz (.lst ((fnL is r L).map iL))), some (.fz (toldL is r)), some (.fz (toldL is r)), some (.fz (.int (bst is is r))), some (.fz (.int (bst is ws r))), none, some (.fz (iL best)), a19, a20, none] = some (.next, [some (.fz (.kl ns)), some (.own p), some (.fz (iL is)), none, some (.fz (iL ws)), none, some (.fz (.int is.sum)), some (.fz (.int r)), some (.fz (.lst (L.map iL))), some (.fz (.lst (cntL is))), none, none, some (.fz (.lst ((fnL is r L).map iL))), some (.fz (toldL is r)), some (.fz (toldL is r)), some (.fz (.int (bst is is r))), some (.fz (.int (bst is ws r))), none, some (.fz (iL best)), a19, a20, none]) := by
  have e1 := v_size_of is best h.hs hb.lot
  have e2 : ¬ r < sz is best := by have := hb.le; omega
  generalize iL is = I at *
  generalize iL best = BB at *
  simp -implicitDefEqProofs [law_B17, e1, e2]
theorem sSeq_next {f g : Fs} {δ δ' : Dl} (h : f δ = some (.next, δ')) : sSeq f g δ = g δ' := by
  rw [sSeq_eq, h]
  rfl
theorem law_true (ns : List Int) (h : ns.length ≤ 63) : g_law [.fz (.kl ns)] = some (.val (.bl true), []) := by
  obtain ⟨a, b, e0⟩ := v_purses ns h
  obtain ⟨is, a1, b1, c1, d1, hs, hsum, hc0, hc1, e1⟩ := B1_at ns a b
  obtain ⟨ws, a2, b2, c2, d2, hw, hc2, hc3, e2⟩ := B2_at ns is hs a1 b1 c1 d1 hc0 hc1
  have e3 := B3_at ns is ws (pu a2 b2 c2 d2)
  have hs0 : 0 ≤ is.sum := sum_nonneg hs.nn
  obtain ⟨r, p, hr0, hr1, e4⟩ := B4_at ns is ws a2 b2 c2 d2 hc2 hc3 hs0 hsum
  obtain ⟨L, hL, eL⟩ := v_lots is.length hs.len
  have lw : Lw is ws r L := ⟨hs, hs0, hsum, hw, hr0, hr1, ⟨hL⟩⟩
  have e5 := B5_at ns is ws p r L eL
  have e6 := B6_at ns is ws p r L hs hs0 hsum ⟨hL⟩
  have e7 := B7_at ns is ws p r L hs ⟨hL⟩
  have e8 := B8_at ns is ws p r L lw
  have e9 := B9_at ns is ws p r L lw
  have e10 := B10_at ns is ws p r L lw
  have e11 := B11_at ns is ws p r L lw
  have e12 := B12_at ns is ws p r L lw
  have e13 := B13_at ns is ws p r L lw
  obtain ⟨best, hb, e14⟩ := B14_at ns is ws p r L lw
  have e15 := B15_at ns is ws p r L lw best hb
  obtain ⟨a19, a20, e16⟩ := B16_at ns is ws p r L lw best
  have e17 := B17_at ns is ws p r L lw best hb a19 a20
  have hall : sSeq law_B1 (sSeq law_B2 (sSeq law_B3 (sSeq law_B4 (sSeq law_B5 (sSeq law_B6 (sSeq law_B7 (sSeq law_B8 (sSeq law_B9 (sSeq law_B10 (sSeq law_B11 (sSeq law_B12 (sSeq law_B13 (sSeq law_B14 (sSeq law_B15 (sSeq law_B16 law_B17))))))))))))))) [some (.fz (.kl ns)), some (.own (pu a b 0 0)), none, none, none, none, none, none, none, none, none, none, none, none, none, none, none, none, none, none, none, none] = some (.next, [some (.fz (.kl ns)), some (.own p), some (.fz (iL is)), none, some (.fz (iL ws)), none, some (.fz (.int is.sum)), some (.fz (.int r)), some (.fz (.lst (L.map iL))), some (.fz (.lst (cntL is))), none, none, some (.fz (.lst ((fnL is r L).map iL))), some (.fz (toldL is r)), some (.fz (toldL is r)), some (.fz (.int (bst is is r))), some (.fz (.int (bst is ws r))), none, some (.fz (iL best)), a19, a20, none]) := by
    rw [sSeq_next e1, sSeq_next e2, sSeq_next e3, sSeq_next e4, sSeq_next e5, sSeq_next e6, sSeq_next e7, sSeq_next e8, sSeq_next e9, sSeq_next e10, sSeq_next e11, sSeq_next e12, sSeq_next e13, sSeq_next e14, sSeq_next e15, sSeq_next e16, e17]
  have hg : g_law = runP 1 (sSeq (sFor1 1 (f1Call g__law_purses (fA (fVar 0) (fA (fC (.int 1)) (fA0)))) (sSeq law_B1 (sSeq law_B2 (sSeq law_B3 (sSeq law_B4 (sSeq law_B5 (sSeq law_B6 (sSeq law_B7 (sSeq law_B8 (sSeq law_B9 (sSeq law_B10 (sSeq law_B11 (sSeq law_B12 (sSeq law_B13 (sSeq law_B14 (sSeq law_B15 (sSeq law_B16 law_B17))))))))))))))))) law_B18) 21 := congrArg (fun f => runP 1 f 21) law_parts
  generalize (sSeq law_B1 (sSeq law_B2 (sSeq law_B3 (sSeq law_B4 (sSeq law_B5 (sSeq law_B6 (sSeq law_B7 (sSeq law_B8 (sSeq law_B9 (sSeq law_B10 (sSeq law_B11 (sSeq law_B12 (sSeq law_B13 (sSeq law_B14 (sSeq law_B15 (sSeq law_B16 law_B17)))))))))))))))) = body at *
  simp -implicitDefEqProofs [hg, e0, hall, law_B18]

end K85

set_option Elab.async false
set_option linter.all false
set_option autoImplicit false
set_option maxRecDepth 100000
namespace K85
open PySem PySem.Spec PyProof.Rows L2 L2.Tl
def spLaw (K : PySem.W.Frag) : Sp := fun vs H Q _ => ∃ (a : Addr) (ns : List Int), vs = [.ref a] ∧ SqL K H a (ns.map V.int) ∧ ns.length ≤ 63 ∧ ∀ H', Q (.bl true) H'
theorem law_promise {K : PySem.W.Frag} (vs : List V) (H : Hp) (Q : VK) (E : XK) (q : spLaw K vs H Q E) : spT K g_law vs H Q E := by
  obtain ⟨a, ns, rfl, hS, hl, k⟩ := q
  refine ⟨H, [.fz (.kl ns)], [], .val (.bl true), [], .refl H, .fz (.kl hS) .nil, .nil, law_true ns hl, fun v H' G' A r => ?_⟩
  have := Rep.bl_inv (K := K) (G := G') r
  subst this
  exact k H'
set_option maxHeartbeats 0 in
theorem law_mk {l : PySem.W.OpenLaw} {w : World} {K : PySem.W.Frag} {mg : Str → Option Value} {fa : Addr} (hfa : mg "law" = some (.ref fa)) (hb : NoMg mg blts)
    (d_is_whole : ∃ f fd, DefD K mg "is_whole" "is_whole" s_is_whole [] f fd)
    (d_is_count : ∃ f fd, DefD K mg "is_count" "is_count" s_is_count [.int 0] f fd)
    (d_are_sizes : ∃ f fd, DefD K mg "are_sizes" "are_sizes" s_are_sizes [] f fd)
    (d_check_sizes : ∃ f fd, DefD K mg "check_sizes" "check_sizes" s_check_sizes [] f fd)
    (d_are_worths_there : ∃ f fd, DefD K mg "are_worths_there" "are_worths_there" s_are_worths_there [] f fd)
    (d_is_lot_there : ∃ f fd, DefD K mg "is_lot_there" "is_lot_there" s_is_lot_there [] f fd)
    (d_check_worths : ∃ f fd, DefD K mg "check_worths" "check_worths" s_check_worths [] f fd)
    (d_check_lot : ∃ f fd, DefD K mg "check_lot" "check_lot" s_check_lot [] f fd)
    (d_check_room : ∃ f fd, DefD K mg "check_room" "check_room" s_check_room [] f fd)
    (d_size_there : ∃ f fd, DefD K mg "size_there" "size_there" s_size_there [] f fd)
    (d_size_of : ∃ f fd, DefD K mg "size_of" "size_of" s_size_of [] f fd)
    (d_worth_of : ∃ f fd, DefD K mg "worth_of" "worth_of" s_worth_of [] f fd)
    (d_does_fit : ∃ f fd, DefD K mg "does_fit" "does_fit" s_does_fit [] f fd)
    (d_count_from : ∃ f fd, DefD K mg "count_from" "count_from" s_count_from [] f fd)
    (d_fitting_there : ∃ f fd, DefD K mg "fitting_there" "fitting_there" s_fitting_there [] f fd)
    (d_fitting_count : ∃ f fd, DefD K mg "fitting_count" "fitting_count" s_fitting_count [] f fd)
    (d_all_fitting : ∃ f fd, DefD K mg "all_fitting" "all_fitting" s_all_fitting [] f fd)
    (d_check_many : ∃ f fd, DefD K mg "check_many" "check_many" s_check_many [] f fd)
    (d_fitting_lots : ∃ f fd, DefD K mg "fitting_lots" "fitting_lots" s_fitting_lots [] f fd)
    (d_check_bag : ∃ f fd, DefD K mg "check_bag" "check_bag" s_check_bag [] f fd)
    (d_asked_rooms : ∃ f fd, DefD K mg "asked_rooms" "asked_rooms" s_asked_rooms [] f fd)
    (d_better : ∃ f fd, DefD K mg "better" "better" s_better [] f fd)
    (d_bests_there : ∃ f fd, DefD K mg "bests_there" "bests_there" s_bests_there [] f fd)
    (d_worth_there : ∃ f fd, DefD K mg "worth_there" "worth_there" s_worth_there [] f fd)
    (d_bag_worth : ∃ f fd, DefD K mg "bag_worth" "bag_worth" s_bag_worth [] f fd)
    (d_next_things : ∃ f fd, DefD K mg "next_things" "next_things" s_next_things [] f fd)
    (d_best_lot : ∃ f fd, DefD K mg "best_lot" "best_lot" s_best_lot [] f fd)
    (d_is_split_there : ∃ f fd, DefD K mg "is_split_there" "is_split_there" s_is_split_there [] f fd)
    (d_check_split : ∃ f fd, DefD K mg "check_split" "check_split" s_check_split [] f fd)
    (d_gap_there : ∃ f fd, DefD K mg "gap_there" "gap_there" s_gap_there [] f fd)
    (d_gap_of : ∃ f fd, DefD K mg "gap_of" "gap_of" s_gap_of [] f fd)
    (d_sums_there : ∃ f fd, DefD K mg "sums_there_heaps" "sums_there" s_sums_there [] f fd)
    (d_least_there : ∃ f fd, DefD K mg "least_there" "least_there" s_least_there [] f fd)
    (d_least_gap : ∃ f fd, DefD K mg "least_gap" "least_gap" s_least_gap [] f fd)
    (d_gap_counts : ∃ f fd, DefD K mg "gap_counts" "gap_counts" s_gap_counts [] f fd)
    (d_ends_there : ∃ f fd, DefD K mg "ends_there" "ends_there" s_ends_there [] f fd)
    (d_split_with : ∃ f fd, DefD K mg "split_with" "split_with" s_split_with [] f fd)
    (d_first_split : ∃ f fd, DefD K mg "first_split" "first_split" s_first_split [] f fd)
    (d_counts_there : ∃ f fd, DefD K mg "counts_there" "counts_there" s_counts_there [] f fd)
    (d_sum_counts : ∃ f fd, DefD K mg "sum_counts" "sum_counts" s_sum_counts [] f fd)
    (d_tails_there : ∃ f fd, DefD K mg "tails_there" "tails_there" s_tails_there [] f fd)
    (d_check_number : ∃ f fd, DefD K mg "check_number" "check_number" s_check_number [] f fd)
    (d_ways_there : ∃ f fd, DefD K mg "ways_there" "ways_there" s_ways_there [] f fd)
    (d_ways_to : ∃ f fd, DefD K mg "ways_to" "ways_to" s_ways_to [] f fd)
    (d_sums_there2 : ∃ f fd, DefD K mg "sums_there" "sums_there" s_sums_there2 [] f fd)
    (d_sums_of : ∃ f fd, DefD K mg "sums_of" "sums_of" s_sums_of [] f fd)
    (d_nearest_below : ∃ f fd, DefD K mg "nearest_below" "nearest_below" s_nearest_below [] f fd)
    (d__law_purse : ∃ f fd, DefD K mg "_law_purse" "_law_purse" s__law_purse [] f fd)
    (d__law_mixed : ∃ f fd, DefD K mg "_law_mixed" "_law_mixed" s__law_mixed [] f fd)
    (d__law_draw : ∃ f fd, DefD K mg "_law_draw" "_law_draw" s__law_draw [] f fd)
    (d__law_same : ∃ f fd, DefD K mg "_law_same" "_law_same" s__law_same [] f fd)
    (d__law_purses : ∃ f fd, DefD K mg "_law_purses" "_law_purses" s__law_purses [] f fd)
    (d__law_lots : ∃ f fd, DefD K mg "_law_lots" "_law_lots" s__law_lots [] f fd)
    (d__law_size : ∃ f fd, DefD K mg "_law_size" "_law_size" s__law_size [] f fd)
    (d_law : ∃ f fd, DefD K mg "law" "law" s_law [] f fd)
    (al_sums_there_sums : ∀ f fd, DefD K mg "sums_there" "sums_there" s_sums_there2 [] f fd → mg "sums_there_sums" = some (.ref f))
    (h_MOST : ∃ t, mg "MOST" = some (.int 3000 t)) :
    ∃ fd : FuncData, (∀ (s : Shared) (v : Value), BindsTo s fd ⟨[v], []⟩ [("script", v)]) ∧ ∀ base : Heap, K.In base → base.Ns mainGlobals mg → FnOk l.prog w K mg base CX0 7 fa fd ["script"] (spLaw K) := by
  obtain ⟨f_is_whole, fd_is_whole, D_is_whole⟩ := d_is_whole
  have b_is_whole : Binds K fd_is_whole p_is_whole [] := FunD.bindsN D_is_whole.fn fun _ _ _ _ _ _ us hl => match us, hl with | [_], _ => rfl
  obtain ⟨f_is_count, fd_is_count, D_is_count⟩ := d_is_count
  obtain ⟨f_are_sizes, fd_are_sizes, D_are_sizes⟩ := d_are_sizes
  have b_are_sizes : Binds K fd_are_sizes p_are_sizes [] := FunD.bindsN D_are_sizes.fn fun _ _ _ _ _ _ us hl => match us, hl with | [_], _ => rfl
  obtain ⟨f_check_sizes, fd_check_sizes, D_check_sizes⟩ := d_check_sizes
  have b_check_sizes : Binds K fd_check_sizes p_check_sizes [] := FunD.bindsN D_check_sizes.fn fun _ _ _ _ _ _ us hl => match us, hl with | [_], _ => rfl
  obtain ⟨f_are_worths_there, fd_are_worths_there, D_are_worths_there⟩ := d_are_worths_there
  have b_are_worths_there : Binds K fd_are_worths_there p_are_worths_there [] := FunD.bindsN D_are_worths_there.fn fun _ _ _ _ _ _ us hl => match us, hl with | [_, _], _ => rfl
  obtain ⟨f_is_lot_there, fd_is_lot_there, D_is_lot_there⟩ := d_is_lot_there
  have b_is_lot_there : Binds K fd_is_lot_there p_is_lot_there [] := FunD.bindsN D_is_lot_there.fn fun _ _ _ _ _ _ us hl => match us, hl with | [_, _], _ => rfl
  obtain ⟨f_check_worths, fd_check_worths, D_check_worths⟩ := d_check_worths
  have b_check_worths : Binds K fd_check_worths p_check_worths [] := FunD.bindsN D_check_worths.fn fun _ _ _ _ _ _ us hl => match us, hl with | [_, _], _ => rfl
  obtain ⟨f_check_lot, fd_check_lot, D_check_lot⟩ := d_check_lot
  have b_check_lot : Binds K fd_check_lot p_check_lot [] := FunD.bindsN D_check_lot.fn fun _ _ _ _ _ _ us hl => match us, hl with | [_, _], _ => rfl
  obtain ⟨f_check_room, fd_check_room, D_check_room⟩ := d_check_room
  have b_check_room : Binds K fd_check_room p_check_room [] := FunD.bindsN D_check_room.fn fun _ _ _ _ _ _ us hl => match us, hl with | [_], _ => rfl
  obtain ⟨f_size_there, fd_size_there, D_size_there⟩ := d_size_there
  have b_size_there : Binds K fd_size_there p_size_there [] := FunD.bindsN D_size_there.fn fun _ _ _ _ _ _ us hl => match us, hl with | [_, _], _ => rfl
  obtain ⟨f_size_of, fd_size_of, D_size_of⟩ := d_size_of
  have b_size_of : Binds K fd_size_of p_size_of [] := FunD.bindsN D_size_of.fn fun _ _ _ _ _ _ us hl => match us, hl with | [_, _], _ => rfl
  obtain ⟨f_worth_of, fd_worth_of, D_worth_of⟩ := d_worth_of
  have b_worth_of : Binds K fd_worth_of p_worth_of [] := FunD.bindsN D_worth_of.fn fun _ _ _ _ _ _ us hl => match us, hl with | [_, _, _], _ => rfl
  obtain ⟨f_does_fit, fd_does_fit, D_does_fit⟩ := d_does_fit
  have b_does_fit : Binds K fd_does_fit p_does_fit [] := FunD.bindsN D_does_fit.fn fun _ _ _ _ _ _ us hl => match us, hl with | [_, _, _], _ => rfl
  obtain ⟨f_count_from, fd_count_from, D_count_from⟩ := d_count_from
  have b_count_from : Binds K fd_count_from p_count_from [] := FunD.bindsN D_count_from.fn fun _ _ _ _ _ _ us hl => match us, hl with | [_, _], _ => rfl
  obtain ⟨f_fitting_there, fd_fitting_there, D_fitting_there⟩ := d_fitting_there
  have b_fitting_there : Binds K fd_fitting_there p_fitting_there [] := FunD.bindsN D_fitting_there.fn fun _ _ _ _ _ _ us hl => match us, hl with | [_, _], _ => rfl
  obtain ⟨f_fitting_count, fd_fitting_count, D_fitting_count⟩ := d_fitting_count
  have b_fitting_count : Binds K fd_fitting_count p_fitting_count [] := FunD.bindsN D_fitting_count.fn fun _ _ _ _ _ _ us hl => match us, hl with | [_, _], _ => rfl
  obtain ⟨f_all_fitting, fd_all_fitting, D_all_fitting⟩ := d_all_fitting
  have b_all_fitting : Binds K fd_all_fitting p_all_fitting [] := FunD.bindsN D_all_fitting.fn fun _ _ _ _ _ _ us hl => match us, hl with | [_, _], _ => rfl
  obtain ⟨f_check_many, fd_check_many, D_check_many⟩ := d_check_many
  have b_check_many : Binds K fd_check_many p_check_many [] := FunD.bindsN D_check_many.fn fun _ _ _ _ _ _ us hl => match us, hl with | [_, _], _ => rfl
  obtain ⟨f_fitting_lots, fd_fitting_lots, D_fitting_lots⟩ := d_fitting_lots
  have b_fitting_lots : Binds K fd_fitting_lots p_fitting_lots [] := FunD.bindsN D_fitting_lots.fn fun _ _ _ _ _ _ us hl => match us, hl with | [_, _], _ => rfl
  obtain ⟨f_check_bag, fd_check_bag, D_check_bag⟩ := d_check_bag
  have b_check_bag : Binds K fd_check_bag p_check_bag [] := FunD.bindsN D_check_bag.fn fun _ _ _ _ _ _ us hl => match us, hl with | [_, _, _], _ => rfl
  obtain ⟨f_asked_rooms, fd_asked_rooms, D_asked_rooms⟩ := d_asked_rooms
  have b_asked_rooms : Binds K fd_asked_rooms p_asked_rooms [] := FunD.bindsN D_asked_rooms.fn fun _ _ _ _ _ _ us hl => match us, hl with | [_, _], _ => rfl
  obtain ⟨f_better, fd_better, D_better⟩ := d_better
  have b_better : Binds K fd_better p_better [] := FunD.bindsN D_better.fn fun _ _ _ _ _ _ us hl => match us, hl with | [_, _], _ => rfl
  obtain ⟨f_bests_there, fd_bests_there, D_bests_there⟩ := d_bests_there
  have b_bests_there : Binds K fd_bests_there p_bests_there [] := FunD.bindsN D_bests_there.fn fun _ _ _ _ _ _ us hl => match us, hl with | [_, _, _], _ => rfl
  obtain ⟨f_worth_there, fd_worth_there, D_worth_there⟩ := d_worth_there
  have b_worth_there : Binds K fd_worth_there p_worth_there [] := FunD.bindsN D_worth_there.fn fun _ _ _ _ _ _ us hl => match us, hl with | [_, _, _], _ => rfl
  obtain ⟨f_bag_worth, fd_bag_worth, D_bag_worth⟩ := d_bag_worth
  have b_bag_worth : Binds K fd_bag_worth p_bag_worth [] := FunD.bindsN D_bag_worth.fn fun _ _ _ _ _ _ us hl => match us, hl with | [_, _, _], _ => rfl
  obtain ⟨f_next_things, fd_next_things, D_next_things⟩ := d_next_things
  have b_next_things : Binds K fd_next_things p_next_things [] := FunD.bindsN D_next_things.fn fun _ _ _ _ _ _ us hl => match us, hl with | [_, _, _, _, _], _ => rfl
  obtain ⟨f_best_lot, fd_best_lot, D_best_lot⟩ := d_best_lot
  have b_best_lot : Binds K fd_best_lot p_best_lot [] := FunD.bindsN D_best_lot.fn fun _ _ _ _ _ _ us hl => match us, hl with | [_, _, _], _ => rfl
  obtain ⟨f_is_split_there, fd_is_split_there, D_is_split_there⟩ := d_is_split_there
  have b_is_split_there : Binds K fd_is_split_there p_is_split_there [] := FunD.bindsN D_is_split_there.fn fun _ _ _ _ _ _ us hl => match us, hl with | [_, _], _ => rfl
  obtain ⟨f_check_split, fd_check_split, D_check_split⟩ := d_check_split
  have b_check_split : Binds K fd_check_split p_check_split [] := FunD.bindsN D_check_split.fn fun _ _ _ _ _ _ us hl => match us, hl with | [_, _], _ => rfl
  obtain ⟨f_gap_there, fd_gap_there, D_gap_there⟩ := d_gap_there
  have b_gap_there : Binds K fd_gap_there p_gap_there [] := FunD.bindsN D_gap_there.fn fun _ _ _ _ _ _ us hl => match us, hl with | [_, _], _ => rfl
  obtain ⟨f_gap_of, fd_gap_of, D_gap_of⟩ := d_gap_of
  have b_gap_of : Binds K fd_gap_of p_gap_of [] := FunD.bindsN D_gap_of.fn fun _ _ _ _ _ _ us hl => match us, hl with | [_, _], _ => rfl
  obtain ⟨f_sums_there, fd_sums_there, D_sums_there⟩ := d_sums_there
  have b_sums_there : Binds K fd_sums_there p_sums_there [] := FunD.bindsN D_sums_there.fn fun _ _ _ _ _ _ us hl => match us, hl with | [_], _ => rfl
  obtain ⟨f_least_there, fd_least_there, D_least_there⟩ := d_least_there
  have b_least_there : Binds K fd_least_there p_least_there [] := FunD.bindsN D_least_there.fn fun _ _ _ _ _ _ us hl => match us, hl with | [_], _ => rfl
  obtain ⟨f_least_gap, fd_least_gap, D_least_gap⟩ := d_least_gap
  have b_least_gap : Binds K fd_least_gap p_least_gap [] := FunD.bindsN D_least_gap.fn fun _ _ _ _ _ _ us hl => match us, hl with | [_], _ => rfl
  obtain ⟨f_gap_counts, fd_gap_counts, D_gap_counts⟩ := d_gap_counts
  have b_gap_counts : Binds K fd_gap_counts p_gap_counts [] := FunD.bindsN D_gap_counts.fn fun _ _ _ _ _ _ us hl => match us, hl with | [_], _ => rfl
  obtain ⟨f_ends_there, fd_ends_there, D_ends_there⟩ := d_ends_there
  have b_ends_there : Binds K fd_ends_there p_ends_there [] := FunD.bindsN D_ends_there.fn fun _ _ _ _ _ _ us hl => match us, hl with | [_], _ => rfl
  obtain ⟨f_split_with, fd_split_with, D_split_with⟩ := d_split_with
  have b_split_with : Binds K fd_split_with p_split_with [] := FunD.bindsN D_split_with.fn fun _ _ _ _ _ _ us hl => match us, hl with | [_, _], _ => rfl
  obtain ⟨f_first_split, fd_first_split, D_first_split⟩ := d_first_split
  have b_first_split : Binds K fd_first_split p_first_split [] := FunD.bindsN D_first_split.fn fun _ _ _ _ _ _ us hl => match us, hl with | [_], _ => rfl
  obtain ⟨f_counts_there, fd_counts_there, D_counts_there⟩ := d_counts_there
  have b_counts_there : Binds K fd_counts_there p_counts_there [] := FunD.bindsN D_counts_there.fn fun _ _ _ _ _ _ us hl => match us, hl with | [_], _ => rfl
  obtain ⟨f_sum_counts, fd_sum_counts, D_sum_counts⟩ := d_sum_counts
  have b_sum_counts : Binds K fd_sum_counts p_sum_counts [] := FunD.bindsN D_sum_counts.fn fun _ _ _ _ _ _ us hl => match us, hl with | [_], _ => rfl
  obtain ⟨f_tails_there, fd_tails_there, D_tails_there⟩ := d_tails_there
  have b_tails_there : Binds K fd_tails_there p_tails_there [] := FunD.bindsN D_tails_there.fn fun _ _ _ _ _ _ us hl => match us, hl with | [_, _], _ => rfl
  obtain ⟨f_check_number, fd_check_number, D_check_number⟩ := d_check_number
  have b_check_number : Binds K fd_check_number p_check_number [] := FunD.bindsN D_check_number.fn fun _ _ _ _ _ _ us hl => match us, hl with | [_], _ => rfl
  obtain ⟨f_ways_there, fd_ways_there, D_ways_there⟩ := d_ways_there
  have b_ways_there : Binds K fd_ways_there p_ways_there [] := FunD.bindsN D_ways_there.fn fun _ _ _ _ _ _ us hl => match us, hl with | [_, _], _ => rfl
  obtain ⟨f_ways_to, fd_ways_to, D_ways_to⟩ := d_ways_to
  have b_ways_to : Binds K fd_ways_to p_ways_to [] := FunD.bindsN D_ways_to.fn fun _ _ _ _ _ _ us hl => match us, hl with | [_, _], _ => rfl
  obtain ⟨f_sums_there2, fd_sums_there2, D_sums_there2⟩ := d_sums_there2
  have b_sums_there2 : Binds K fd_sums_there2 p_sums_there2 [] := FunD.bindsN D_sums_there2.fn fun _ _ _ _ _ _ us hl => match us, hl with | [_], _ => rfl
  obtain ⟨f_sums_of, fd_sums_of, D_sums_of⟩ := d_sums_of
  have b_sums_of : Binds K fd_sums_of p_sums_of [] := FunD.bindsN D_sums_of.fn fun _ _ _ _ _ _ us hl => match us, hl with | [_], _ => rfl
  obtain ⟨f_nearest_below, fd_nearest_below, D_nearest_below⟩ := d_nearest_below
  have b_nearest_below : Binds K fd_nearest_below p_nearest_below [] := FunD.bindsN D_nearest_below.fn fun _ _ _ _ _ _ us hl => match us, hl with | [_, _], _ => rfl
  obtain ⟨f__law_purse, fd__law_purse, D__law_purse⟩ := d__law_purse
  have b__law_purse : Binds K fd__law_purse p__law_purse [] := FunD.bindsN D__law_purse.fn fun _ _ _ _ _ _ us hl => match us, hl with | [_, _], _ => rfl
  obtain ⟨f__law_mixed, fd__law_mixed, D__law_mixed⟩ := d__law_mixed
  have b__law_mixed : Binds K fd__law_mixed p__law_mixed [] := FunD.bindsN D__law_mixed.fn fun _ _ _ _ _ _ us hl => match us, hl with | [_, _, _], _ => rfl
  obtain ⟨f__law_draw, fd__law_draw, D__law_draw⟩ := d__law_draw
  have b__law_draw : Binds K fd__law_draw p__law_draw [] := FunD.bindsN D__law_draw.fn fun _ _ _ _ _ _ us hl => match us, hl with | [_, _], _ => rfl
  obtain ⟨f__law_same, fd__law_same, D__law_same⟩ := d__law_same
  have b__law_same : Binds K fd__law_same p__law_same [] := FunD.bindsN D__law_same.fn fun _ _ _ _ _ _ us hl => match us, hl with | [_, _], _ => rfl
  obtain ⟨f__law_purses, fd__law_purses, D__law_purses⟩ := d__law_purses
  have b__law_purses : Binds K fd__law_purses p__law_purses [] := FunD.bindsN D__law_purses.fn fun _ _ _ _ _ _ us hl => match us, hl with | [_, _], _ => rfl
  obtain ⟨f__law_lots, fd__law_lots, D__law_lots⟩ := d__law_lots
  have b__law_lots : Binds K fd__law_lots p__law_lots [] := FunD.bindsN D__law_lots.fn fun _ _ _ _ _ _ us hl => match us, hl with | [_], _ => rfl
  obtain ⟨f__law_size, fd__law_size, D__law_size⟩ := d__law_size
  have b__law_size : Binds K fd__law_size p__law_size [] := FunD.bindsN D__law_size.fn fun _ _ _ _ _ _ us hl => match us, hl with | [_, _], _ => rfl
  obtain ⟨f_law, fd_law, D_law⟩ := d_law
  have b_law : Binds K fd_law p_law [] := FunD.bindsN D_law.fn fun _ _ _ _ _ _ us hl => match us, hl with | [_], _ => rfl
  have e := hfa.symm.trans D_law.mgf
  cases e
  refine ⟨fd_law, fun s v => FunD.bindsA (ps := p_law) D_law.fn (fun _ _ _ _ _ _ us hl => match us, hl with | [_], _ => rfl) s [v] rfl, fun base hK hN => ?_⟩
  have o_is_whole : FnOk l.prog w K mg base CX0 1 _ fd_is_whole p_is_whole (spT K (g_is_whole)) := (ok_is_whole D_is_whole.c8 hb )
  have c_is_whole : Cal l.prog w K mg base 1 "is_whole" (g_is_whole) [] := cal_of D_is_whole b_is_whole o_is_whole
  have o_is_count : FnOk l.prog w K mg base CX0 2 _ fd_is_count p_is_count (spT K (g_is_count)) := (ok_is_count D_is_count.c8 hb c_is_whole)
  have c_is_count : Cal l.prog w K mg base 2 "is_count" (g_is_count) [] := cal_d D_is_count (FunD.binds1 (ps := p_is_count) D_is_count.fn 2 1 (by simp) (by rfl) fun T kV doc pm an cdv ct us its hl hi => match us, hl, its, hi with | [_, _], _, [_], _ => ⟨_, rfl, rfl⟩) .nil o_is_count
  have c_is_count_d : Cal l.prog w K mg base 2 "is_count" (g_is_count) [.int 0] := cal_d D_is_count (FunD.binds1 (ps := p_is_count) D_is_count.fn 1 0 (by simp) (by rfl) fun T kV doc pm an cdv ct us its hl hi => match us, hl, its, hi with | [_], _, [_], _ => ⟨_, rfl, rfl⟩) (.cons (fun _ => .int _) .nil) o_is_count
  have o_are_sizes : FnOk l.prog w K mg base CX0 3 _ fd_are_sizes p_are_sizes (spT K (g_are_sizes)) := (ok_are_sizes D_are_sizes.c8 hb c_is_count)
  have c_are_sizes : Cal l.prog w K mg base 3 "are_sizes" (g_are_sizes) [] := cal_of D_are_sizes b_are_sizes o_are_sizes
  have o_check_sizes : FnOk l.prog w K mg base CX0 4 _ fd_check_sizes p_check_sizes (spT K (g_check_sizes)) := (ok_check_sizes D_check_sizes.c8 hb c_are_sizes)
  have c_check_sizes : Cal l.prog w K mg base 4 "check_sizes" (g_check_sizes) [] := cal_of D_check_sizes b_check_sizes o_check_sizes
  have o_are_worths_there : FnOk l.prog w K mg base CX0 3 _ fd_are_worths_there p_are_worths_there (spT K (g_are_worths_there)) := (ok_are_worths_there D_are_worths_there.c8 hb c_is_count_d)
  have c_are_worths_there : Cal l.prog w K mg base 3 "are_worths_there" (g_are_worths_there) [] := cal_of D_are_worths_there b_are_worths_there o_are_worths_there
  have o_is_lot_there : FnOk l.prog w K mg base CX0 3 _ fd_is_lot_there p_is_lot_there (spT K (g_is_lot_there)) := (ok_is_lot_there D_is_lot_there.c8 hb c_is_count_d)
  have c_is_lot_there : Cal l.prog w K mg base 3 "is_lot_there" (g_is_lot_there) [] := cal_of D_is_lot_there b_is_lot_there o_is_lot_there
  have o_check_worths : FnOk l.prog w K mg base CX0 4 _ fd_check_worths p_check_worths (spT K (g_check_worths)) := (ok_check_worths D_check_worths.c8 hb c_are_worths_there)
  have c_check_worths : Cal l.prog w K mg base 4 "check_worths" (g_check_worths) [] := cal_of D_check_worths b_check_worths o_check_worths
  have o_check_lot : FnOk l.prog w K mg base CX0 4 _ fd_check_lot p_check_lot (spT K (g_check_lot)) := (ok_check_lot D_check_lot.c8 hb c_is_lot_there)
  have c_check_lot : Cal l.prog w K mg base 4 "check_lot" (g_check_lot) [] := cal_of D_check_lot b_check_lot o_check_lot
  have o_check_room : FnOk l.prog w K mg base CX0 3 _ fd_check_room p_check_room (spT K (g_check_room)) := (ok_check_room D_check_room.c8 hb c_is_count_d)
  have c_check_room : Cal l.prog w K mg base 3 "check_room" (g_check_room) [] := cal_of D_check_room b_check_room o_check_room
  have o_size_there : FnOk l.prog w K mg base CX0 1 _ fd_size_there p_size_there (spT K (g_size_there)) := (ok_size_there D_size_there.c8 hb )
  have c_size_there : Cal l.prog w K mg base 1 "size_there" (g_size_there) [] := cal_of D_size_there b_size_there o_size_there
  have o_size_of : FnOk l.prog w K mg base CX0 5 _ fd_size_of p_size_of (spT K (g_size_of)) := (ok_size_of D_size_of.c8 hb c_size_there c_check_lot c_check_sizes)
  have c_size_of : Cal l.prog w K mg base 5 "size_of" (g_size_of) [] := cal_of D_size_of b_size_of o_size_of
  have o_worth_of : FnOk l.prog w K mg base CX0 5 _ fd_worth_of p_worth_of (spT K (g_worth_of)) := (ok_worth_of D_worth_of.c8 hb c_check_lot c_check_worths c_check_sizes)
  have c_worth_of : Cal l.prog w K mg base 5 "worth_of" (g_worth_of) [] := cal_of D_worth_of b_worth_of o_worth_of
  have o_does_fit : FnOk l.prog w K mg base CX0 5 _ fd_does_fit p_does_fit (spT K (g_does_fit)) := (ok_does_fit D_does_fit.c8 hb c_size_there c_check_lot c_check_room c_check_sizes)
  have c_does_fit : Cal l.prog w K mg base 5 "does_fit" (g_does_fit) [] := cal_of D_does_fit b_does_fit o_does_fit
  have o_count_from : FnOk l.prog w K mg base CX0 1 _ fd_count_from p_count_from (spT K (g_count_from)) := (ok_count_from D_count_from.c8 hb )
  have c_count_from : Cal l.prog w K mg base 1 "count_from" (g_count_from) [] := cal_of D_count_from b_count_from o_count_from
  have o_fitting_there : FnOk l.prog w K mg base CX0 2 _ fd_fitting_there p_fitting_there (spT K (g_fitting_there)) := (ok_fitting_there D_fitting_there.c8 hb c_count_from)
  have c_fitting_there : Cal l.prog w K mg base 2 "fitting_there" (g_fitting_there) [] := cal_of D_fitting_there b_fitting_there o_fitting_there
  have o_fitting_count : FnOk l.prog w K mg base CX0 5 _ fd_fitting_count p_fitting_count (spT K (g_fitting_count)) := (ok_fitting_count D_fitting_count.c8 hb c_fitting_there c_check_room c_check_sizes)
  have c_fitting_count : Cal l.prog w K mg base 5 "fitting_count" (g_fitting_count) [] := cal_of D_fitting_count b_fitting_count o_fitting_count
  have o_all_fitting : FnOk l.prog w K mg base CX0 1 _ fd_all_fitting p_all_fitting (spT K (g_all_fitting)) := (ok_all_fitting D_all_fitting.c8 hb )
  have c_all_fitting : Cal l.prog w K mg base 1 "all_fitting" (g_all_fitting) [] := cal_of D_all_fitting b_all_fitting o_all_fitting
  have o_check_many : FnOk l.prog w K mg base CX0 3 _ fd_check_many p_check_many (spT K (g_check_many)) := (ok_check_many D_check_many.c8 hb h_MOST c_fitting_there)
  have c_check_many : Cal l.prog w K mg base 3 "check_many" (g_check_many) [] := cal_of D_check_many b_check_many o_check_many
  have o_fitting_lots : FnOk l.prog w K mg base CX0 5 _ fd_fitting_lots p_fitting_lots (spT K (g_fitting_lots)) := (ok_fitting_lots D_fitting_lots.c8 hb c_all_fitting c_check_many c_check_room c_check_sizes)
  have c_fitting_lots : Cal l.prog w K mg base 5 "fitting_lots" (g_fitting_lots) [] := cal_of D_fitting_lots b_fitting_lots o_fitting_lots
  have o_check_bag : FnOk l.prog w K mg base CX0 5 _ fd_check_bag p_check_bag (spT K (g_check_bag)) := (ok_check_bag D_check_bag.c8 hb c_check_room c_check_worths c_check_sizes)
  have c_check_bag : Cal l.prog w K mg base 5 "check_bag" (g_check_bag) [] := cal_of D_check_bag b_check_bag o_check_bag
  have o_asked_rooms : FnOk l.prog w K mg base CX0 1 _ fd_asked_rooms p_asked_rooms (spT K (g_asked_rooms)) := (ok_asked_rooms D_asked_rooms.c8 hb )
  have c_asked_rooms : Cal l.prog w K mg base 1 "asked_rooms" (g_asked_rooms) [] := cal_of D_asked_rooms b_asked_rooms o_asked_rooms
  have o_better : FnOk l.prog w K mg base CX0 1 _ fd_better p_better (spT K (g_better)) := (ok_better D_better.c8 hb )
  have c_better : Cal l.prog w K mg base 1 "better" (g_better) [] := cal_of D_better b_better o_better
  have o_bests_there : FnOk l.prog w K mg base CX0 2 _ fd_bests_there p_bests_there (spT K (g_bests_there)) := (ok_bests_there D_bests_there.c8 hb c_better c_asked_rooms)
  have c_bests_there : Cal l.prog w K mg base 2 "bests_there" (g_bests_there) [] := cal_of D_bests_there b_bests_there o_bests_there
  have o_worth_there : FnOk l.prog w K mg base CX0 3 _ fd_worth_there p_worth_there (spT K (g_worth_there)) := (ok_worth_there D_worth_there.c8 hb c_bests_there)
  have c_worth_there : Cal l.prog w K mg base 3 "worth_there" (g_worth_there) [] := cal_of D_worth_there b_worth_there o_worth_there
  have o_bag_worth : FnOk l.prog w K mg base CX0 6 _ fd_bag_worth p_bag_worth (spT K (g_bag_worth)) := (ok_bag_worth D_bag_worth.c8 hb c_worth_there c_check_bag)
  have c_bag_worth : Cal l.prog w K mg base 6 "bag_worth" (g_bag_worth) [] := cal_of D_bag_worth b_bag_worth o_bag_worth
  have o_next_things : FnOk l.prog w K mg base CX0 1 _ fd_next_things p_next_things (spT K (g_next_things)) := (ok_next_things D_next_things.c8 hb )
  have c_next_things : Cal l.prog w K mg base 1 "next_things" (g_next_things) [] := cal_of D_next_things b_next_things o_next_things
  have o_best_lot : FnOk l.prog w K mg base CX0 6 _ fd_best_lot p_best_lot (spT K (g_best_lot)) := (ok_best_lot D_best_lot.c8 hb c_next_things c_bests_there c_check_bag)
  have c_best_lot : Cal l.prog w K mg base 6 "best_lot" (g_best_lot) [] := cal_of D_best_lot b_best_lot o_best_lot
  have o_is_split_there : FnOk l.prog w K mg base CX0 4 _ fd_is_split_there p_is_split_there (spT K (g_is_split_there)) := (ok_is_split_there D_is_split_there.c8 hb c_is_lot_there)
  have c_is_split_there : Cal l.prog w K mg base 4 "is_split_there" (g_is_split_there) [] := cal_of D_is_split_there b_is_split_there o_is_split_there
  have o_check_split : FnOk l.prog w K mg base CX0 5 _ fd_check_split p_check_split (spT K (g_check_split)) := (ok_check_split D_check_split.c8 hb c_is_split_there c_check_sizes)
  have c_check_split : Cal l.prog w K mg base 5 "check_split" (g_check_split) [] := cal_of D_check_split b_check_split o_check_split
  have o_gap_there : FnOk l.prog w K mg base CX0 2 _ fd_gap_there p_gap_there (spT K (g_gap_there)) := (ok_gap_there D_gap_there.c8 hb c_size_there)
  have c_gap_there : Cal l.prog w K mg base 2 "gap_there" (g_gap_there) [] := cal_of D_gap_there b_gap_there o_gap_there
  have o_gap_of : FnOk l.prog w K mg base CX0 6 _ fd_gap_of p_gap_of (spT K (g_gap_of)) := (ok_gap_of D_gap_of.c8 hb c_gap_there c_check_split)
  have c_gap_of : Cal l.prog w K mg base 6 "gap_of" (g_gap_of) [] := cal_of D_gap_of b_gap_of o_gap_of
  have o_sums_there : FnOk l.prog w K mg base CX0 1 _ fd_sums_there p_sums_there (spT K (g_sums_there)) := (ok_sums_there D_sums_there.c8 hb )
  have c_sums_there_heaps : Cal l.prog w K mg base 1 "sums_there_heaps" (g_sums_there) [] := cal_of D_sums_there b_sums_there o_sums_there
  have o_least_there : FnOk l.prog w K mg base CX0 2 _ fd_least_there p_least_there (spT K (g_least_there)) := (ok_least_there D_least_there.c8 hb c_sums_there_heaps)
  have c_least_there : Cal l.prog w K mg base 2 "least_there" (g_least_there) [] := cal_of D_least_there b_least_there o_least_there
  have o_least_gap : FnOk l.prog w K mg base CX0 5 _ fd_least_gap p_least_gap (spT K (g_least_gap)) := (ok_least_gap D_least_gap.c8 hb c_least_there c_check_sizes)
  have c_least_gap : Cal l.prog w K mg base 5 "least_gap" (g_least_gap) [] := cal_of D_least_gap b_least_gap o_least_gap
  have o_gap_counts : FnOk l.prog w K mg base CX0 5 _ fd_gap_counts p_gap_counts (spT K (g_gap_counts)) := (ok_gap_counts D_gap_counts.c8 hb c_sums_there_heaps c_check_sizes)
  have c_gap_counts : Cal l.prog w K mg base 5 "gap_counts" (g_gap_counts) [] := cal_of D_gap_counts b_gap_counts o_gap_counts
  have o_ends_there : FnOk l.prog w K mg base CX0 1 _ fd_ends_there p_ends_there (spT K (g_ends_there)) := (ok_ends_there D_ends_there.c8 hb )
  have c_ends_there : Cal l.prog w K mg base 1 "ends_there" (g_ends_there) [] := cal_of D_ends_there b_ends_there o_ends_there
  have o_split_with : FnOk l.prog w K mg base CX0 2 _ fd_split_with p_split_with (spT K (g_split_with)) := (ok_split_with D_split_with.c8 hb c_size_there c_ends_there)
  have c_split_with : Cal l.prog w K mg base 2 "split_with" (g_split_with) [] := cal_of D_split_with b_split_with o_split_with
  have o_first_split : FnOk l.prog w K mg base CX0 5 _ fd_first_split p_first_split (spT K (g_first_split)) := (ok_first_split D_first_split.c8 hb c_split_with c_least_there c_check_sizes)
  have c_first_split : Cal l.prog w K mg base 5 "first_split" (g_first_split) [] := cal_of D_first_split b_first_split o_first_split
  have o_counts_there : FnOk l.prog w K mg base CX0 1 _ fd_counts_there p_counts_there (spT K (g_counts_there)) := (ok_counts_there D_counts_there.c8 hb )
  have c_counts_there : Cal l.prog w K mg base 1 "counts_there" (g_counts_there) [] := cal_of D_counts_there b_counts_there o_counts_there
  have o_sum_counts : FnOk l.prog w K mg base CX0 5 _ fd_sum_counts p_sum_counts (spT K (g_sum_counts)) := (ok_sum_counts D_sum_counts.c8 hb c_counts_there c_check_sizes)
  have c_sum_counts : Cal l.prog w K mg base 5 "sum_counts" (g_sum_counts) [] := cal_of D_sum_counts b_sum_counts o_sum_counts
  have o_tails_there : FnOk l.prog w K mg base CX0 1 _ fd_tails_there p_tails_there (spT K (g_tails_there)) := (ok_tails_there D_tails_there.c8 hb )
  have c_tails_there : Cal l.prog w K mg base 1 "tails_there" (g_tails_there) [] := cal_of D_tails_there b_tails_there o_tails_there
  have o_check_number : FnOk l.prog w K mg base CX0 3 _ fd_check_number p_check_number (spT K (g_check_number)) := (ok_check_number D_check_number.c8 hb c_is_count_d)
  have c_check_number : Cal l.prog w K mg base 3 "check_number" (g_check_number) [] := cal_of D_check_number b_check_number o_check_number
  have o_ways_there : FnOk l.prog w K mg base CX0 2 _ fd_ways_there p_ways_there (spT K (g_ways_there)) := (ok_ways_there D_ways_there.c8 hb c_tails_there)
  have c_ways_there : Cal l.prog w K mg base 2 "ways_there" (g_ways_there) [] := cal_of D_ways_there b_ways_there o_ways_there
  have o_ways_to : FnOk l.prog w K mg base CX0 5 _ fd_ways_to p_ways_to (spT K (g_ways_to)) := (ok_ways_to D_ways_to.c8 hb c_ways_there c_check_number c_check_sizes)
  have c_ways_to : Cal l.prog w K mg base 5 "ways_to" (g_ways_to) [] := cal_of D_ways_to b_ways_to o_ways_to
  have o_sums_there2 : FnOk l.prog w K mg base CX0 1 _ fd_sums_there2 p_sums_there2 (spT K (g_sums_there2)) := (ok_sums_there2 D_sums_there2.c8 hb )
  have c_sums_there : Cal l.prog w K mg base 1 "sums_there" (g_sums_there2) [] := cal_of D_sums_there2 b_sums_there2 o_sums_there2
  have c_sums_there_sums : Cal l.prog w K mg base 1 "sums_there_sums" (g_sums_there2) [] := cal_as D_sums_there2 (al_sums_there_sums _ _ D_sums_there2) b_sums_there2 o_sums_there2
  have o_sums_of : FnOk l.prog w K mg base CX0 5 _ fd_sums_of p_sums_of (spT K (g_sums_of)) := (ok_sums_of D_sums_of.c8 hb c_sums_there_sums c_check_sizes)
  have c_sums_of : Cal l.prog w K mg base 5 "sums_of" (g_sums_of) [] := cal_of D_sums_of b_sums_of o_sums_of
  have o_nearest_below : FnOk l.prog w K mg base CX0 5 _ fd_nearest_below p_nearest_below (spT K (g_nearest_below)) := (ok_nearest_below D_nearest_below.c8 hb c_sums_there_sums c_check_room c_check_sizes)
  have c_nearest_below : Cal l.prog w K mg base 5 "nearest_below" (g_nearest_below) [] := cal_of D_nearest_below b_nearest_below o_nearest_below
  have o__law_purse : FnOk l.prog w K mg base CX0 1 _ fd__law_purse p__law_purse (spT K (g__law_purse)) := (ok__law_purse D__law_purse.c8 hb )
  have c__law_purse : Cal l.prog w K mg base 1 "_law_purse" (g__law_purse) [] := cal_of D__law_purse b__law_purse o__law_purse
  have o__law_mixed : FnOk l.prog w K mg base CX0 1 _ fd__law_mixed p__law_mixed (spT K (g__law_mixed)) := (ok__law_mixed D__law_mixed.c8 hb )
  have c__law_mixed : Cal l.prog w K mg base 1 "_law_mixed" (g__law_mixed) [] := cal_of D__law_mixed b__law_mixed o__law_mixed
  have o__law_draw : FnOk l.prog w K mg base CX0 2 _ fd__law_draw p__law_draw (spT K (g__law_draw)) := (ok__law_draw D__law_draw.c8 hb c__law_mixed)
  have c__law_draw : Cal l.prog w K mg base 2 "_law_draw" (g__law_draw) [] := cal_of D__law_draw b__law_draw o__law_draw
  have o__law_same : ∀ k, FnOk l.prog w K mg base CX0 k _ fd__law_same p__law_same (spT K (g__law_same k)) := fun k => by
    induction k with
    | zero => exact fnOk_none (fun _ => rfl)
    | succ k ih => exact (ok__law_same D__law_same.c8 hb (cal_of D__law_same b__law_same ih))
  have c__law_same : Cal l.prog w K mg base 6 "_law_same" (g__law_same 6) [] := cal_of D__law_same b__law_same (o__law_same 6)
  have c__law_purses : CalN l.prog w K mg base 2 "_law_purses" g__law_purses := ⟨_, _, _, (ok__law_purses D__law_purses.c8 hb c__law_purse), D__law_purses.mgf, D__law_purses.fn.kp, b__law_purses⟩
  have o__law_lots : FnOk l.prog w K mg base CX0 1 _ fd__law_lots p__law_lots (spT K (g__law_lots)) := (ok__law_lots D__law_lots.c8 hb )
  have c__law_lots : Cal l.prog w K mg base 1 "_law_lots" (g__law_lots) [] := cal_of D__law_lots b__law_lots o__law_lots
  have o__law_size : FnOk l.prog w K mg base CX0 1 _ fd__law_size p__law_size (spT K (g__law_size)) := (ok__law_size D__law_size.c8 hb )
  have c__law_size : Cal l.prog w K mg base 1 "_law_size" (g__law_size) [] := cal_of D__law_size b__law_size o__law_size
  exact (ok_law D_law.c8 hb c__law_purses c_size_of c_gap_counts c_gap_of c_least_gap c_first_split c__law_same c_does_fit c_worth_of c_bag_worth c_best_lot c_nearest_below c__law_size c_ways_to c_fitting_lots c_fitting_count c_sums_of c_sum_counts c__law_lots c__law_draw).imp law_promise
theorem walk {l : PySem.W.OpenLaw} {q : Program} {loose : List Str} {XP : (Str → Option Value) → Heap → Prop} {YP : World → Heap → Prop} {d : DefRec} {K : Params → PySem.W.Frag} (hn : l.most = some 63) (hdf : d.params.defaults = [])
    (hY : ∀ (w : World) (h : Heap), YP w h → (K w.params).In h)
    (F : ∀ (w : World) (mg : Str → Option Value) (fa : Addr) (h : Heap), (K w.params).In h → h.Ns mainGlobals mg → mg d.name = some (.ref fa) →
      ∃ fd : FuncData, (∀ (s : Shared) (u : Value), BindsTo s fd ⟨[u], []⟩ [("script", u)]) ∧ ∀ base : Heap, (K w.params).In base → base.Ns mainGlobals mg → FnOk l.prog w (K w.params) mg base CX0 7 fa fd ["script"] (spLaw (K w.params))) :
    PySem.W.WalkO q loose XP YP l.row.toRowW d [] (fun f vs => PySem.call f vs) :=
  L2.walk_of (n := 63) (k := 7) (x := "script") (CX := fun _ => CX0) (sp := fun w => spLaw (K w.params)) hn (by decide) hdf ⟨rfl, by decide, by decide⟩ hY F (fun _ _ a ns hl _ hS => ⟨a, ns, rfl, hS, hl, fun _ => rfl⟩) fun _ _ _ _ _ z => z
end K85
open PySem PySem.W PyProof.Rows L2 L2.Tl
set_option maxRecDepth 100000 in
set_option maxHeartbeats 0 in
theorem PySem.Challenge.cw_filledup_k85_whole_lots_and_sums_holds : PySem.Challenge.rw_filledup_k85_whole_lots_and_sums.Holds := by
  w_on; o_law; k_head; (case hw => w_witness2)
  k_fill
  refine K85.walk (l := PySem.Challenge.rw_filledup_k85_whole_lots_and_sums) rfl rfl (fun w h Y => PySem.W.kIn_of Y) ?F
  case F =>
    intro w mg fa h KX G hmg
    refine' K85.law_mk hmg ?hb ?d_is_whole ?d_is_count ?d_are_sizes ?d_check_sizes ?d_are_worths_there ?d_is_lot_there ?d_check_worths ?d_check_lot ?d_check_room ?d_size_there ?d_size_of ?d_worth_of ?d_does_fit ?d_count_from ?d_fitting_there ?d_fitting_count ?d_all_fitting ?d_check_many ?d_fitting_lots ?d_check_bag ?d_asked_rooms ?d_better ?d_bests_there ?d_worth_there ?d_bag_worth ?d_next_things ?d_best_lot ?d_is_split_there ?d_check_split ?d_gap_there ?d_gap_of ?d_sums_there ?d_least_there ?d_least_gap ?d_gap_counts ?d_ends_there ?d_split_with ?d_first_split ?d_counts_there ?d_sum_counts ?d_tails_there ?d_check_number ?d_ways_there ?d_ways_to ?d_sums_there2 ?d_sums_of ?d_nearest_below ?d__law_purse ?d__law_mixed ?d__law_draw ?d__law_same ?d__law_purses ?d__law_lots ?d__law_size ?d_law ?al_sums_there_sums ?h_MOST
    case hb => exact (noMg_cons (PySem.W.mg_none_of KX G (by k_is)) <| noMg_cons (PySem.W.mg_none_of KX G (by k_is)) <| noMg_cons (PySem.W.mg_none_of KX G (by k_is)) <| noMg_cons (PySem.W.mg_none_of KX G (by k_is)) <| noMg_cons (PySem.W.mg_none_of KX G (by k_is)) <| noMg_cons (PySem.W.mg_none_of KX G (by k_is)) <| noMg_cons (PySem.W.mg_none_of KX G (by k_is)) <| noMg_cons (PySem.W.mg_none_of KX G (by k_is)) <| noMg_cons (PySem.W.mg_none_of KX G (by k_is)) <| noMg_cons (PySem.W.mg_none_of KX G (by k_is)) <| noMg_cons (PySem.W.mg_none_of KX G (by k_is)) <| noMg_cons (PySem.W.mg_none_of KX G (by k_is)) <| noMg_cons (PySem.W.mg_none_of KX G (by k_is)) <| noMg_cons (PySem.W.mg_none_of KX G (by k_is)) <| noMg_cons (PySem.W.mg_none_of KX G (by k_is)) <| noMg_cons (PySem.W.mg_none_of KX G (by k_is)) <| noMg_cons (PySem.W.mg_none_of KX G (by k_is)) <| noMg_cons (PySem.W.mg_none_of KX G (by k_is)) <| noMg_nil)
    case d_is_whole =>
      refine' defD_mk KX G ?a ?l ?c ?k
      (case a => k_is); (case l => k_is); (case c => k_is); (case k => k_is)
    case d_is_count =>
      refine' defD_mk1 KX G ?a ?l ?c ?k ?hT ?oT ?rT ?hd
      (case a => k_is); (case l => k_is); (case c => k_is); (case k => k_is); (case hT => k_is)
      (case oT => exact rfl); (case rT => exact .cons ⟨_, rfl⟩ .nil); (case hd => exact fun z => nomatch z)
    case d_are_sizes =>
      refine' defD_mk KX G ?a ?l ?c ?k
      (case a => k_is); (case l => k_is); (case c => k_is); (case k => k_is)
    case d_check_sizes =>
      refine' defD_mk KX G ?a ?l ?c ?k
      (case a => k_is); (case l => k_is); (case c => k_is); (case k => k_is)
    case d_are_worths_there =>
      refine' defD_mk KX G ?a ?l ?c ?k
      (case a => k_is); (case l => k_is); (case c => k_is); (case k => k_is)
    case d_is_lot_there =>
      refine' defD_mk KX G ?a ?l ?c ?k
      (case a => k_is); (case l => k_is); (case c => k_is); (case k => k_is)
    case d_check_worths =>
      refine' defD_mk KX G ?a ?l ?c ?k
      (case a => k_is); (case l => k_is); (case c => k_is); (case k => k_is)
    case d_check_lot =>
      refine' defD_mk KX G ?a ?l ?c ?k
      (case a => k_is); (case l => k_is); (case c => k_is); (case k => k_is)
    case d_check_room =>
      refine' defD_mk KX G ?a ?l ?c ?k
      (case a => k_is); (case l => k_is); (case c => k_is); (case k => k_is)
    case d_size_there =>
      refine' defD_mk KX G ?a ?l ?c ?k
      (case a => k_is); (case l => k_is); (case c => k_is); (case k => k_is)
    case d_size_of =>
      refine' defD_mk KX G ?a ?l ?c ?k
      (case a => k_is); (case l => k_is); (case c => k_is); (case k => k_is)
    case d_worth_of =>
      refine' defD_mk KX G ?a ?l ?c ?k
      (case a => k_is); (case l => k_is); (case c => k_is); (case k => k_is)
    case d_does_fit =>
      refine' defD_mk KX G ?a ?l ?c ?k
      (case a => k_is); (case l => k_is); (case c => k_is); (case k => k_is)
    case d_count_from =>
      refine' defD_mk KX G ?a ?l ?c ?k
      (case a => k_is); (case l => k_is); (case c => k_is); (case k => k_is)
    case d_fitting_there =>
      refine' defD_mk KX G ?a ?l ?c ?k
      (case a => k_is); (case l => k_is); (case c => k_is); (case k => k_is)
    case d_fitting_count =>
      refine' defD_mk KX G ?a ?l ?c ?k
      (case a => k_is); (case l => k_is); (case c => k_is); (case k => k_is)
    case d_all_fitting =>
      refine' defD_mk KX G ?a ?l ?c ?k
      (case a => k_is); (case l => k_is); (case c => k_is); (case k => k_is)
    case d_check_many =>
      refine' defD_mk KX G ?a ?l ?c ?k
      (case a => k_is); (case l => k_is); (case c => k_is); (case k => k_is)
    case d_fitting_lots =>
      refine' defD_mk KX G ?a ?l ?c ?k
      (case a => k_is); (case l => k_is); (case c => k_is); (case k => k_is)
    case d_check_bag =>
      refine' defD_mk KX G ?a ?l ?c ?k
      (case a => k_is); (case l => k_is); (case c => k_is); (case k => k_is)
    case d_asked_rooms =>
      refine' defD_mk KX G ?a ?l ?c ?k
      (case a => k_is); (case l => k_is); (case c => k_is); (case k => k_is)
    case d_better =>
      refine' defD_mk KX G ?a ?l ?c ?k
      (case a => k_is); (case l => k_is); (case c => k_is); (case k => k_is)
    case d_bests_there =>
      refine' defD_mk KX G ?a ?l ?c ?k
      (case a => k_is); (case l => k_is); (case c => k_is); (case k => k_is)
    case d_worth_there =>
      refine' defD_mk KX G ?a ?l ?c ?k
      (case a => k_is); (case l => k_is); (case c => k_is); (case k => k_is)
    case d_bag_worth =>
      refine' defD_mk KX G ?a ?l ?c ?k
      (case a => k_is); (case l => k_is); (case c => k_is); (case k => k_is)
    case d_next_things =>
      refine' defD_mk KX G ?a ?l ?c ?k
      (case a => k_is); (case l => k_is); (case c => k_is); (case k => k_is)
    case d_best_lot =>
      refine' defD_mk KX G ?a ?l ?c ?k
      (case a => k_is); (case l => k_is); (case c => k_is); (case k => k_is)
    case d_is_split_there =>
      refine' defD_mk KX G ?a ?l ?c ?k
      (case a => k_is); (case l => k_is); (case c => k_is); (case k => k_is)
    case d_check_split =>
      refine' defD_mk KX G ?a ?l ?c ?k
      (case a => k_is); (case l => k_is); (case c => k_is); (case k => k_is)
    case d_gap_there =>
      refine' defD_mk KX G ?a ?l ?c ?k
      (case a => k_is); (case l => k_is); (case c => k_is); (case k => k_is)
    case d_gap_of =>
      refine' defD_mk KX G ?a ?l ?c ?k
      (case a => k_is); (case l => k_is); (case c => k_is); (case k => k_is)
    case d_sums_there =>
      refine' defD_mk KX G ?a ?l ?c ?k
      (case a => k_is); (case l => k_is); (case c => k_is); (case k => k_is)
    case d_least_there =>
      refine' defD_mk KX G ?a ?l ?c ?k
      (case a => k_is); (case l => k_is); (case c => k_is); (case k => k_is)
    case d_least_gap =>
      refine' defD_mk KX G ?a ?l ?c ?k
      (case a => k_is); (case l => k_is); (case c => k_is); (case k => k_is)
    case d_gap_counts =>
      refine' defD_mk KX G ?a ?l ?c ?k
      (case a => k_is); (case l => k_is); (case c => k_is); (case k => k_is)
    case d_ends_there =>
      refine' defD_mk KX G ?a ?l ?c ?k
      (case a => k_is); (case l => k_is); (case c => k_is); (case k => k_is)
    case d_split_with =>
      refine' defD_mk KX G ?a ?l ?c ?k
      (case a => k_is); (case l => k_is); (case c => k_is); (case k => k_is)
    case d_first_split =>
      refine' defD_mk KX G ?a ?l ?c ?k
      (case a => k_is); (case l => k_is); (case c => k_is); (case k => k_is)
    case d_counts_there =>
      refine' defD_mk KX G ?a ?l ?c ?k
      (case a => k_is); (case l => k_is); (case c => k_is); (case k => k_is)
    case d_sum_counts =>
      refine' defD_mk KX G ?a ?l ?c ?k
      (case a => k_is); (case l => k_is); (case c => k_is); (case k => k_is)
    case d_tails_there =>
      refine' defD_mk KX G ?a ?l ?c ?k
      (case a => k_is); (case l => k_is); (case c => k_is); (case k => k_is)
    case d_check_number =>
      refine' defD_mk KX G ?a ?l ?c ?k
      (case a => k_is); (case l => k_is); (case c => k_is); (case k => k_is)
    case d_ways_there =>
      refine' defD_mk KX G ?a ?l ?c ?k
      (case a => k_is); (case l => k_is); (case c => k_is); (case k => k_is)
    case d_ways_to =>
      refine' defD_mk KX G ?a ?l ?c ?k
      (case a => k_is); (case l => k_is); (case c => k_is); (case k => k_is)
    case d_sums_there2 =>
      refine' defD_mk KX G ?a ?l ?c ?k
      (case a => k_is); (case l => k_is); (case c => k_is); (case k => k_is)
    case d_sums_of =>
      refine' defD_mk KX G ?a ?l ?c ?k
      (case a => k_is); (case l => k_is); (case c => k_is); (case k => k_is)
    case d_nearest_below =>
      refine' defD_mk KX G ?a ?l ?c ?k
      (case a => k_is); (case l => k_is); (case c => k_is); (case k => k_is)
    case d__law_purse =>
      refine' defD_mk KX G ?a ?l ?c ?k
      (case a => k_is); (case l => k_is); (case c => k_is); (case k => k_is)
    case d__law_mixed =>
      refine' defD_mk KX G ?a ?l ?c ?k
      (case a => k_is); (case l => k_is); (case c => k_is); (case k => k_is)
    case d__law_draw =>
      refine' defD_mk KX G ?a ?l ?c ?k
      (case a => k_is); (case l => k_is); (case c => k_is); (case k => k_is)
    case d__law_same =>
      refine' defD_mk KX G ?a ?l ?c ?k
      (case a => k_is); (case l => k_is); (case c => k_is); (case k => k_is)
    case d__law_purses =>
      refine' defD_mk KX G ?a ?l ?c ?k
      (case a => k_is); (case l => k_is); (case c => k_is); (case k => k_is)
    case d__law_lots =>
      refine' defD_mk KX G ?a ?l ?c ?k
      (case a => k_is); (case l => k_is); (case c => k_is); (case k => k_is)
    case d__law_size =>
      refine' defD_mk KX G ?a ?l ?c ?k
      (case a => k_is); (case l => k_is); (case c => k_is); (case k => k_is)
    case d_law =>
      refine' defD_mk KX G ?a ?l ?c ?k
      (case a => k_is); (case l => k_is); (case c => k_is); (case k => k_is)
    case al_sums_there_sums =>
      refine' alias_mk KX G ?a1 ?a2
      (case a1 => k_is); (case a2 => k_is)
    case h_MOST => exact ⟨_, PySem.W.mg_of KX G (by k_is)⟩
