import PyProof.Rows.All
import Wide.All
import OpenK.AllK
import Wide.FinOn
import HandS.ForMost
import HandS.DictComp
import HandS.Walk
import HandS.Codes
import HandS.IsInst
import HandS.Flow
import HandS.SortKw
import HandS.Wide
import HandS.WideBits
import HandS.SetKeys
import HandS.Style
import HandS.TupAny
import HandS.TupLe
import HandS.Star
import HandS.Defaults
import HandS.Ends
import HandS.ForDict
import KE.SortData
import KE.DataFind
import KE.DataCmp
import KE.DataMinMax
import HandS.Conv
import PySem.Challenge.RW_filledup_k83_whole_rules_in_a_store
set_option Elab.async false
set_option linter.all false
set_option autoImplicit false
set_option maxRecDepth 100000
/-! Tl: what expressions and statements compute on plain data trees, over the hand layer. -/
namespace L2.Tl
open PySem PySem.Spec PyProof.Rows

/-- a plain value with all that hangs on it; an instance with its fields; kl: a list of ints that is only read (the script) -/
inductive D where
  | non | bl (b : Bool) | int (i : Int) | str (s : Str)
  | lst (xs : List D) | tup (xs : List D) | dct (t : Bool) (kvs : List (D × D)) | obj (C : Addr) (fs : List (Str × D)) | kl (ns : List Int)
instance : Inhabited D := ⟨.non⟩

def kD : Key → D
  | .inl i => .int i
  | .inr x => .str x

/-! ### a value of the abstract heap stands for a tree -/
mutual
inductive Rep (K : PySem.W.Frag) (G : Hp) : V → D → Prop
  | non : Rep K G .non .non
  | bl (b : Bool) : Rep K G (.bl b) (.bl b)
  | int (i : Int) : Rep K G (.int i) (.int i)
  | str (x : Str) : Rep K G (.str x) (.str x)
  | lst {a : Addr} {vs : List V} {ds : List D} : Rd G a (.lst vs) → RepL K G vs ds → Rep K G (.ref a) (.lst ds)
  | kl {a : Addr} {ns : List Int} : SqL K G a (ns.map V.int) → Rep K G (.ref a) (.kl ns)
  | tup {a : Addr} {vs : List V} {ds : List D} : G a = some (.tup vs) → RepL K G vs ds → Rep K G (.ref a) (.tup ds)
  | dK {a : Addr} {kvs : List (Key × V)} {ds : List (D × D)} : Rd G a (.dK kvs) → RepD K G kvs ds → Rep K G (.ref a) (.dct false ds)
  | dT {a : Addr} {kvs : List (List Key × V)} {ds : List (D × D)} : Rd G a (.dT kvs) → RepT K G kvs ds → Rep K G (.ref a) (.dct true ds)
  | obj {a C dx : Addr} {fs : List (Str × V)} {ds : List (Str × D)} : G a = some (.ins C dx fs) → RepF K G fs ds → Rep K G (.ref a) (.obj C ds)
inductive RepL (K : PySem.W.Frag) (G : Hp) : List V → List D → Prop
  | nil : RepL K G [] []
  | cons {v : V} {vs : List V} {d : D} {ds : List D} : Rep K G v d → RepL K G vs ds → RepL K G (v :: vs) (d :: ds)
inductive RepD (K : PySem.W.Frag) (G : Hp) : List (Key × V) → List (D × D) → Prop
  | nil : RepD K G [] []
  | cons {k : Key} {v : V} {vs : List (Key × V)} {d : D} {ds : List (D × D)} : Rep K G v d → RepD K G vs ds → RepD K G ((k, v) :: vs) ((kD k, d) :: ds)
inductive RepT (K : PySem.W.Frag) (G : Hp) : List (List Key × V) → List (D × D) → Prop
  | nil : RepT K G [] []
  | cons {k : List Key} {v : V} {vs : List (List Key × V)} {d : D} {ds : List (D × D)} : Rep K G v d → RepT K G vs ds → RepT K G ((k, v) :: vs) ((.tup (k.map kD), d) :: ds)
inductive RepF (K : PySem.W.Frag) (G : Hp) : List (Str × V) → List (Str × D) → Prop
  | nil : RepF K G [] []
  | cons {k : Str} {v : V} {vs : List (Str × V)} {d : D} {ds : List (Str × D)} : Rep K G v d → RepF K G vs ds → RepF K G ((k, v) :: vs) ((k, d) :: ds)
end

/-- what was to be read is to be read -/
structure Le (G G' : Hp) : Prop where
  rd : ∀ a u, Rd G a u → Rd G' a u
  tup : ∀ a vs, G a = some (.tup vs) → G' a = some (.tup vs)
  ins : ∀ a C dx fs, G a = some (.ins C dx fs) → G' a = some (.ins C dx fs)
  frz : ∀ a o u, G a = some (.frz o u) → G' a = some (.frz o u)
/-- all that was is as it was -/
def Sub (G G' : Hp) : Prop := ∀ a o, G a = some o → G' a = some o
theorem Sub.refl (G : Hp) : Sub G G := fun _ _ h => h
theorem Sub.trans {G1 G2 G3 : Hp} (a : Sub G1 G2) (b : Sub G2 G3) : Sub G1 G3 := fun c o h => b c o (a c o h)
theorem Sub.le {G G' : Hp} (s : Sub G G') : Le G G' := ⟨fun a u h => by
  rcases h with h | ⟨o, h⟩
  · exact .inl (s a u h)
  · exact .inr ⟨o, s a _ h⟩, fun a vs h => s a _ h, fun a _ _ _ h => s a _ h, fun a _ _ h => s a _ h⟩
theorem Le.refl (G : Hp) : Le G G := ⟨fun _ _ h => h, fun _ _ h => h, fun _ _ _ _ h => h, fun _ _ _ h => h⟩
theorem Le.trans {G1 G2 G3 : Hp} (a : Le G1 G2) (b : Le G2 G3) : Le G1 G3 := ⟨fun c o h => b.rd c o (a.rd c o h), fun c o h => b.tup c o (a.tup c o h), fun c C d o h => b.ins c C d o (a.ins c C d o h), fun c o u h => b.frz c o u (a.frz c o u h)⟩
theorem sub_upd {G : Hp} {p : Addr} {o : HO} (h : G p = none) : Sub G (upd G p o) := fun a u e => by
  rw [upd_ne (ne_of_none e h)]; exact e
section
variable {K : PySem.W.Frag} {G G' : Hp}
theorem sqUp {a : Addr} {vs : List V} (l : Le G G') (h : SqL K G a vs) : SqL K G' a vs := by
  rcases h with h | h
  · exact .inl (l.rd _ _ h)
  · exact .inr h
mutual
theorem Rep.mono (l : Le G G') : ∀ {v : V} {d : D}, Rep K G v d → Rep K G' v d
  | _, _, .non => .non
  | _, _, .bl b => .bl b
  | _, _, .int i => .int i
  | _, _, .str x => .str x
  | _, _, .lst h r => .lst (l.rd _ _ h) (r.mono l)
  | _, _, .kl h => .kl (sqUp l h)
  | _, _, .tup h r => .tup (l.tup _ _ h) (r.mono l)
  | _, _, .dK h r => .dK (l.rd _ _ h) (r.mono l)
  | _, _, .dT h r => .dT (l.rd _ _ h) (r.mono l)
  | _, _, .obj h r => .obj (l.ins _ _ _ _ h) (r.mono l)
theorem RepL.mono (l : Le G G') : ∀ {v : List V} {d : List D}, RepL K G v d → RepL K G' v d
  | _, _, .nil => .nil
  | _, _, .cons h r => .cons (h.mono l) (r.mono l)
theorem RepD.mono (l : Le G G') : ∀ {v : List (Key × V)} {d : List (D × D)}, RepD K G v d → RepD K G' v d
  | _, _, .nil => .nil
  | _, _, .cons h r => .cons (h.mono l) (r.mono l)
theorem RepT.mono (l : Le G G') : ∀ {v : List (List Key × V)} {d : List (D × D)}, RepT K G v d → RepT K G' v d
  | _, _, .nil => .nil
  | _, _, .cons h r => .cons (h.mono l) (r.mono l)
theorem RepF.mono (l : Le G G') : ∀ {v : List (Str × V)} {d : List (Str × D)}, RepF K G v d → RepF K G' v d
  | _, _, .nil => .nil
  | _, _, .cons h r => .cons (h.mono l) (r.mono l)
end
end

/-! ### lists of represented things -/
section
variable {K : PySem.W.Frag} {G : Hp}
theorem RepL.length : ∀ {vs : List V} {ds : List D}, RepL K G vs ds → vs.length = ds.length
  | _, _, .nil => rfl
  | _, _, .cons _ r => by simp [r.length]
theorem RepL.append : ∀ {vs ws : List V} {ds es : List D}, RepL K G vs ds → RepL K G ws es → RepL K G (vs ++ ws) (ds ++ es)
  | _, _, _, _, .nil, s => s
  | _, _, _, _, .cons h r, s => .cons h (r.append s)
theorem RepL.get : ∀ {vs : List V} {ds : List D} {i : Nat} {d : D}, RepL K G vs ds → ds[i]? = some d → ∃ v, vs[i]? = some v ∧ Rep K G v d
  | _, _, _, _, .nil, e => by simp at e
  | _, _, 0, _, .cons h _, e => by simp at e; subst e; exact ⟨_, rfl, h⟩
  | _, _, i + 1, d, .cons _ r, e => by
    obtain ⟨v, h1, h2⟩ := RepL.get (i := i) (d := d) r (by simpa using e)
    exact ⟨v, by simpa using h1, h2⟩
theorem RepL.getv : ∀ {vs : List V} {ds : List D} {i : Nat} {v : V}, RepL K G vs ds → vs[i]? = some v → ∃ d, ds[i]? = some d ∧ Rep K G v d
  | _, _, _, _, .nil, e => by simp at e
  | _, _, 0, _, .cons h _, e => by simp at e; subst e; exact ⟨_, rfl, h⟩
  | _, _, i + 1, v, .cons _ r, e => by
    obtain ⟨d, h1, h2⟩ := RepL.getv (i := i) (v := v) r (by simpa using e)
    exact ⟨d, by simpa using h1, h2⟩
theorem RepL.set {v : V} {d : D} (h : Rep K G v d) : ∀ {vs : List V} {ds : List D} (i : Nat), RepL K G vs ds → RepL K G (vs.set i v) (ds.set i d)
  | _, _, _, .nil => .nil
  | _, _, 0, .cons _ r => .cons h r
  | _, _, i + 1, .cons q r => .cons q (RepL.set h i r)
theorem RepL.take : ∀ {vs : List V} {ds : List D} (n : Nat), RepL K G vs ds → RepL K G (vs.take n) (ds.take n)
  | _, _, 0, _ => .nil
  | _, _, _ + 1, .nil => .nil
  | _, _, n + 1, .cons h r => .cons h (RepL.take n r)
theorem RepL.drop : ∀ {vs : List V} {ds : List D} (n : Nat), RepL K G vs ds → RepL K G (vs.drop n) (ds.drop n)
  | _, _, 0, r => r
  | _, _, _ + 1, .nil => .nil
  | _, _, n + 1, .cons _ r => RepL.drop n r
theorem RepL.reverse : ∀ {vs : List V} {ds : List D}, RepL K G vs ds → RepL K G vs.reverse ds.reverse
  | _, _, .nil => .nil
  | _, _, .cons h r => by
    simp only [List.reverse_cons]
    exact r.reverse.append (.cons h .nil)
theorem RepL.ints : ∀ {vs : List V} {is : List Int}, RepL K G vs (is.map D.int) → vs = is.map V.int
  | _, [], .nil => rfl
  | _, i :: is, .cons h r => by
    cases h
    simp only [List.map_cons]
    rw [RepL.ints r]
theorem RepL.strs : ∀ {vs : List V} {is : List Str}, RepL K G vs (is.map D.str) → vs = is.map V.str
  | _, [], .nil => rfl
  | _, i :: is, .cons h r => by
    cases h
    simp only [List.map_cons]
    rw [RepL.strs r]
theorem RepL.of_ints : ∀ is : List Int, RepL K G (is.map V.int) (is.map D.int)
  | [] => .nil
  | i :: is => .cons (.int i) (RepL.of_ints is)
theorem RepL.of_strs : ∀ is : List Str, RepL K G (is.map V.str) (is.map D.str)
  | [] => .nil
  | i :: is => .cons (.str i) (RepL.of_strs is)
end

/-! ### inversions -/
section
variable {K : PySem.W.Frag} {G : Hp} {v : V}
theorem Rep.int_inv {i : Int} (h : Rep K G v (.int i)) : v = .int i := by cases h; rfl
theorem Rep.bl_inv {b : Bool} (h : Rep K G v (.bl b)) : v = .bl b := by cases h; rfl
theorem Rep.str_inv {b : Str} (h : Rep K G v (.str b)) : v = .str b := by cases h; rfl
theorem Rep.non_inv (h : Rep K G v .non) : v = .non := by cases h; rfl
end

/-! ### plain data -/
mutual
def D.pd : D → Option PyData
  | .non => some .none
  | .bl b => some (.bool b)
  | .int i => some (.int i)
  | .str s => some (.str s)
  | .lst xs => (pdL xs).map .list
  | .tup xs => (pdL xs).map .tuple
  | .dct _ _ => none
  | .obj _ _ => none
  | .kl _ => none
def pdL : List D → Option (List PyData)
  | [] => some []
  | x :: xs => match x.pd, pdL xs with
    | some p, some ps => some (p :: ps)
    | _, _ => none
end
section
variable {K : PySem.W.Frag} {H : Hp}
mutual
theorem Rep.dp : ∀ (d : D) (v : V) (p : PyData), Rep K H v d → d.pd = some p → Dp K H v p
  | .non, _, _, h, e => by cases h; simp only [D.pd, Option.some.injEq] at e; subst e; exact .non
  | .bl b, _, _, h, e => by cases h; simp only [D.pd, Option.some.injEq] at e; subst e; exact .bl b
  | .int b, _, _, h, e => by cases h; simp only [D.pd, Option.some.injEq] at e; subst e; exact .int b
  | .str b, _, _, h, e => by cases h; simp only [D.pd, Option.some.injEq] at e; subst e; exact .str b
  | .lst xs, _, _, h, e => by
    cases h with
    | lst hq r =>
      simp only [D.pd] at e
      cases q : pdL xs with
      | none => rw [q] at e; simp at e
      | some ps =>
        rw [q] at e
        simp only [Option.map_some, Option.some.injEq] at e
        subst e
        exact .lst (.inl hq) (RepL.dp xs _ ps r q)
  | .tup xs, _, _, h, e => by
    cases h with
    | tup hq r =>
      simp only [D.pd] at e
      cases q : pdL xs with
      | none => rw [q] at e; simp at e
      | some ps =>
        rw [q] at e
        simp only [Option.map_some, Option.some.injEq] at e
        subst e
        exact .tup (SqT.of hq) (RepL.dp xs _ ps r q)
  | .dct _ _, _, _, _, e => by simp [D.pd] at e
  | .obj _ _, _, _, _, e => by simp [D.pd] at e
  | .kl _, _, _, _, e => by simp [D.pd] at e
theorem RepL.dp : ∀ (d : List D) (v : List V) (p : List PyData), RepL K H v d → pdL d = some p → DpAll K H v p
  | [], _, _, h, e => by cases h; simp only [pdL, Option.some.injEq] at e; subst e; exact .nil
  | x :: xs, _, _, h, e => by
    cases h with
    | cons h r =>
      simp only [pdL] at e
      cases q1 : x.pd with
      | none => rw [q1] at e; simp at e
      | some p =>
        cases q2 : pdL xs with
        | none => rw [q1, q2] at e; simp at e
        | some ps =>
          rw [q1, q2] at e
          simp only [Option.some.injEq] at e
          subst e
          exact .cons (Rep.dp x _ p h q1) (RepL.dp xs _ ps r q2)
end
end
end L2.Tl

set_option Elab.async false
set_option linter.all false
set_option autoImplicit false
set_option maxRecDepth 100000
namespace L2.Tl
open PySem PySem.Spec PyProof.Rows

/-! ### the frame's state -/
/-- what a slot holds: a value that nobody changes any more; an object of the frame's own; an object that was handed in to be changed -/
inductive SV where
  | fz (d : D) | own (d : D) | inp (d : D)
def SV.root : SV → Option D
  | .fz _ => none
  | .own d => some d
  | .inp d => some d
abbrev Dl := List (Option SV)

/-- an object that the frame alone changes: its parts stand for trees -/
inductive Root (K : PySem.W.Frag) (G H : Hp) (p : Addr) : D → Prop
  | lst {vs : List V} {ds : List D} : H p = some (.lst vs) → RepL K G vs ds → Root K G H p (.lst ds)
  | dK {vs : List (Key × V)} {ds : List (D × D)} : H p = some (.dK vs) → RepD K G vs ds → Root K G H p (.dct false ds)
  | dT {vs : List (List Key × V)} {ds : List (D × D)} : H p = some (.dT vs) → RepT K G vs ds → Root K G H p (.dct true ds)
  | obj {C dx : Addr} {vs : List (Str × V)} {ds : List (Str × D)} : H p = some (.ins C dx vs) → RepF K G vs ds → Root K G H p (.obj C ds)
theorem Root.mono {K : PySem.W.Frag} {G H G' H' : Hp} {p : Addr} {d : D} (r : Root K G H p d) (l : Le G G') (h : H' p = H p) : Root K G' H' p d := by
  cases r with
  | lst a b => exact .lst (h.trans a) (b.mono l)
  | dK a b => exact .dK (h.trans a) (b.mono l)
  | dT a b => exact .dT (h.trans a) (b.mono l)
  | obj a b => exact .obj (h.trans a) (b.mono l)
theorem Root.there {K : PySem.W.Frag} {G H : Hp} {p : Addr} {d : D} (r : Root K G H p d) : ∃ o, H p = some o := by
  cases r with
  | lst a b => exact ⟨_, a⟩
  | dK a b => exact ⟨_, a⟩
  | dT a b => exact ⟨_, a⟩
  | obj a b => exact ⟨_, a⟩
/-- read in the whole heap -/
theorem Root.rep {K : PySem.W.Frag} {G H G' : Hp} {p : Addr} {d : D} {o : HO} (r : Root K G H p d) (l : Le G G') (h : H p = some o) (h' : G' p = some o) : Rep K G' (.ref p) d := by
  cases r with
  | lst a b => rw [a] at h; cases h; exact .lst (.inl h') (b.mono l)
  | dK a b => rw [a] at h; cases h; exact .dK (.inl h') (b.mono l)
  | dT a b => rw [a] at h; cases h; exact .dT (.inl h') (b.mono l)
  | obj a b => rw [a] at h; cases h; exact .obj h' (b.mono l)

/-- the frame: the heap at its entry, what was not to change then, the objects handed in to be changed (by slot) -/
structure Fr where
  H0 : Hp
  G0 : Hp
  io : Nat → Option Addr

/-- what a loop locks: a dict, never a list -/
def Lk (o : HO) : Prop := Mut (some o) ∧ ∀ xs, o ≠ .lst xs
structure Sim (K : PySem.W.Frag) (F : Fr) (G H : Hp) (σ : St) (δ : Dl) : Prop where
  len : σ.length = δ.length
  fz : ∀ (i : Nat) (d : D), δ[i]? = some (some (SV.fz d)) → ∃ v, σ[i]? = some (some v) ∧ Rep K G v d
  own : ∀ (i : Nat) (d : D), δ[i]? = some (some (SV.own d)) → ∃ p, σ[i]? = some (some (V.ref p)) ∧ G p = none ∧ Root K G H p d ∧ F.H0 p = none
  inp : ∀ (i : Nat) (d : D), δ[i]? = some (some (SV.inp d)) → ∃ p, σ[i]? = some (some (V.ref p)) ∧ G p = none ∧ Root K G H p d ∧ F.io i = some p
  inj : ∀ (i j : Nat) (x y : SV) (d e : D) (p : Addr), δ[i]? = some (some x) → x.root = some d → δ[j]? = some (some y) → y.root = some e → σ[i]? = some (some (V.ref p)) → σ[j]? = some (some (V.ref p)) → i = j
  sub : Sub G H
  new : ∀ a o, G a = some o → F.G0 a ≠ none ∨ F.H0 a = none
  fr : ∀ a o, F.H0 a = some o → (∀ i, F.io i ≠ some a) → H a = some o ∨ (Lk o ∧ F.G0 a = some o ∧ ∃ od, H a = some (.frz od o))
  ioh : ∀ i a, F.io i = some a → (∃ o, H a = some o) ∧ G a = none ∧ F.H0 a ≠ none
  g0 : Sub F.G0 F.H0

theorem Sim.root {K : PySem.W.Frag} {F : Fr} {G H : Hp} {σ : St} {δ : Dl} (S : Sim K F G H σ δ) {i : Nat} {x : SV} {d : D} (h : δ[i]? = some (some x)) (r : x.root = some d) :
    ∃ p, σ[i]? = some (some (V.ref p)) ∧ G p = none ∧ Root K G H p d := by
  cases x with
  | fz e => cases r
  | own e => cases r; obtain ⟨p, a, b, c, _⟩ := S.own i _ h; exact ⟨p, a, b, c⟩
  | inp e => cases r; obtain ⟨p, a, b, c, _⟩ := S.inp i _ h; exact ⟨p, a, b, c⟩

/-- nobody's object -/
def Apart (σ : St) (δ : Dl) (p : Addr) : Prop := ∀ (i : Nat) (x : SV) (d : D), δ[i]? = some (some x) → x.root = some d → σ[i]? ≠ some (some (V.ref p))

/-! ### pure steps: new objects alone -/
structure Ext (G H G' H' : Hp) : Prop where
  gg : Sub G G'
  hh : Sub H H'
  gh : Sub G' H'
  new : ∀ a o, G' a = some o → G a = some o ∨ H a = none
theorem Ext.refl {G H : Hp} (s : Sub G H) : Ext G H G H := ⟨.refl _, .refl _, s, fun _ _ h => .inl h⟩
theorem Ext.trans {G H G1 H1 G2 H2 : Hp} (a : Ext G H G1 H1) (b : Ext G1 H1 G2 H2) : Ext G H G2 H2 :=
  ⟨a.gg.trans b.gg, a.hh.trans b.hh, b.gh, fun c o h => by
    rcases b.new c o h with h | h
    · exact a.new c o h
    · right
      cases q : H c with
      | none => rfl
      | some u => rw [a.hh c u q] at h; cases h⟩
/-- a new object that nobody will change -/
theorem Ext.add {G H : Hp} {p : Addr} {o : HO} (s : Sub G H) (h : H p = none) : Ext G H (upd G p o) (upd H p o) := by
  have hg : G p = none := by
    cases q : G p with
    | none => rfl
    | some u => rw [s p u q] at h; cases h
  refine ⟨sub_upd hg, sub_upd h, fun a u e => ?_, fun a u e => ?_⟩
  · by_cases z : a = p
    · subst z; rw [upd_same] at e ⊢; exact e
    · rw [upd_ne z] at e ⊢; exact s a u e
  · by_cases z : a = p
    · subst z; exact .inr h
    · rw [upd_ne z] at e; exact .inl e
/-- a new object that is the frame's own -/
theorem Ext.own {G H : Hp} {p : Addr} {o : HO} (s : Sub G H) (h : H p = none) : Ext G H G (upd H p o) :=
  ⟨.refl _, sub_upd h, s.trans (sub_upd h), fun _ _ e => .inl e⟩
theorem none_of_sub {G H : Hp} (s : Sub G H) {p : Addr} (h : H p = none) : G p = none := by
  cases q : G p with
  | none => rfl
  | some u => rw [s p u q] at h; cases h

/-- what an expression leaves: the frame's other objects stand, nothing is gone -/
structure Mv (σ : St) (δ : Dl) (G H : Hp) (δ' : Dl) (G' H' : Hp) : Prop where
  le : Le G G'
  stay : ∀ a o, H a = some o → G a = none → Apart σ δ a → H' a = some o ∧ G' a = none ∧ Apart σ δ' a
  dom : ∀ a, H' a = none → H a = none
theorem Mv.refl {σ : St} {δ : Dl} {G H : Hp} : Mv σ δ G H δ G H := ⟨.refl _, fun _ _ h g ap => ⟨h, g, ap⟩, fun _ h => h⟩
theorem Mv.trans {σ : St} {δ δ1 δ2 : Dl} {G H G1 H1 G2 H2 : Hp} (a : Mv σ δ G H δ1 G1 H1) (b : Mv σ δ1 G1 H1 δ2 G2 H2) : Mv σ δ G H δ2 G2 H2 :=
  ⟨a.le.trans b.le, fun c o h g ap => let ⟨h1, g1, ap1⟩ := a.stay c o h g ap; b.stay c o h1 g1 ap1, fun c h => a.dom c (b.dom c h)⟩
theorem Ext.mv {σ : St} {δ : Dl} {G H G' H' : Hp} (E : Ext G H G' H') : Mv σ δ G H δ G' H' :=
  ⟨E.gg.le, fun a o h g ap => ⟨E.hh a o h, (by
    cases q : G' a with
    | none => rfl
    | some u =>
      rcases E.new a u q with z | z
      · rw [g] at z; cases z
      · rw [h] at z; cases z), ap⟩, fun a h => (by
    cases q : H a with
    | none => rfl
    | some u => rw [E.hh a u q] at h; cases h)⟩

section
variable {K : PySem.W.Frag} {F : Fr} {G H G' H' : Hp} {σ : St} {δ : Dl}
theorem Ext.none (E : Ext G H G' H') {p : Addr} {o : HO} (hg : G p = none) (ho : H p = some o) : G' p = none := by
  cases q : G' p with
  | none => rfl
  | some u =>
    rcases E.new p u q with z | z
    · rw [hg] at z; cases z
    · rw [ho] at z; cases z
/-- what is new now was new at the entry -/
theorem Sim.fresh (S : Sim K F G H σ δ) {a : Addr} (h : H a = none) : F.H0 a = none := by
  cases q : F.H0 a with
  | none => rfl
  | some u =>
    by_cases hi : ∀ i, F.io i ≠ some a
    · rcases S.fr a u q hi with z | ⟨_, _, od, z⟩
      · rw [z] at h; cases h
      · rw [z] at h; cases h
    · obtain ⟨i, hi⟩ := Classical.not_forall.mp hi
      have hi := Classical.not_not.mp hi
      obtain ⟨⟨w, hw⟩, _⟩ := S.ioh i a hi
      rw [hw] at h; cases h
theorem Sim.ext (S : Sim K F G H σ δ) (E : Ext G H G' H') : Sim K F G' H' σ δ := by
  have key : ∀ p d, G p = none → Root K G H p d → G' p = none ∧ Root K G' H' p d := fun p d hg r => by
    obtain ⟨o, ho⟩ := r.there
    exact ⟨E.none hg ho, r.mono E.gg.le ((E.hh p o ho).trans ho.symm)⟩
  refine ⟨S.len, fun i d h => ?_, fun i d h => ?_, fun i d h => ?_, S.inj, E.gh, fun a o h => ?_, fun a o h hi => ?_, fun i a h => ?_, S.g0⟩
  · obtain ⟨v, a, b⟩ := S.fz i d h
    exact ⟨v, a, b.mono E.gg.le⟩
  · obtain ⟨p, a, b, c, e⟩ := S.own i d h
    obtain ⟨b', c'⟩ := key p d b c
    exact ⟨p, a, b', c', e⟩
  · obtain ⟨p, a, b, c, e⟩ := S.inp i d h
    obtain ⟨b', c'⟩ := key p d b c
    exact ⟨p, a, b', c', e⟩
  · rcases E.new a o h with z | z
    · exact S.new a o z
    · exact .inr (S.fresh z)
  · rcases S.fr a o h hi with z | ⟨z1, z2, od, z3⟩
    · exact .inl (E.hh a o z)
    · exact .inr ⟨z1, z2, od, E.hh a _ z3⟩
  · obtain ⟨⟨w, hw⟩, hg, h0⟩ := S.ioh i a h
    exact ⟨⟨w, E.hh a w hw⟩, E.none hg hw, h0⟩
/-- an object that nobody holds is let go: nobody changes it any more -/
theorem Sim.freeze (S : Sim K F G H σ δ) {p : Addr} {o : HO} (hg : G p = none) (hh : H p = some o) (h0 : F.H0 p = none) (ap : Apart σ δ p) : Sim K F (upd G p o) H σ δ := by
  have sg : Sub G (upd G p o) := sub_upd hg
  refine ⟨S.len, fun i d h => ?_, fun i d h => ?_, fun i d h => ?_, S.inj, fun a u e => ?_, fun a u h => ?_, S.fr, fun i a h => ?_, S.g0⟩
  · obtain ⟨v, a, b⟩ := S.fz i d h
    exact ⟨v, a, b.mono sg.le⟩
  · obtain ⟨q, a, b, c, e⟩ := S.own i d h
    have ne : q ≠ p := fun z => ap i _ _ h rfl (z ▸ a)
    exact ⟨q, a, (upd_ne ne).trans b, c.mono sg.le rfl, e⟩
  · obtain ⟨q, a, b, c, e⟩ := S.inp i d h
    have ne : q ≠ p := fun z => ap i _ _ h rfl (z ▸ a)
    exact ⟨q, a, (upd_ne ne).trans b, c.mono sg.le rfl, e⟩
  · by_cases z : a = p
    · subst z; rw [upd_same] at e; rw [hh]; exact e
    · rw [upd_ne z] at e; exact S.sub a u e
  · by_cases z : a = p
    · subst z; exact .inr h0
    · rw [upd_ne z] at h; exact S.new a u h
  · obtain ⟨w, b, c⟩ := S.ioh i a h
    have ne : a ≠ p := fun z => c (z ▸ h0)
    exact ⟨w, (upd_ne ne).trans b, c⟩
/-- a slot holds another thing that nobody changes -/
theorem Sim.set (S : Sim K F G H σ δ) {v : V} {d : D} (r : Rep K G v d) (i : Nat) : Sim K F G H (σ.set i (some v)) (δ.set i (some (SV.fz d))) := by
  have hne : ∀ {j : Nat} {x : SV}, (δ.set i (some (SV.fz d)))[j]? = some (some x) → j ≠ i → δ[j]? = some (some x) ∧ (σ.set i (some v))[j]? = σ[j]? := fun {j x} h n => by
    rw [List.getElem?_set_ne (Ne.symm n)] at h
    exact ⟨h, List.getElem?_set_ne (Ne.symm n)⟩
  have hroot : ∀ {j : Nat} {x : SV} {e : D}, (δ.set i (some (SV.fz d)))[j]? = some (some x) → x.root = some e → j ≠ i := fun {j x e} h rt z => by
    subst z
    by_cases hl : j < δ.length
    · rw [List.getElem?_set_self hl] at h; cases h; cases rt
    · rw [List.getElem?_eq_none (by simpa using hl)] at h; cases h
  refine ⟨by simpa using S.len, fun j e h => ?_, fun j e h => ?_, fun j e h => ?_, fun j k x y e1 e2 p h1 r1 h2 r2 h3 h4 => ?_, S.sub, S.new, S.fr, S.ioh, S.g0⟩
  · by_cases n : j = i
    · subst n
      by_cases hl : j < δ.length
      · rw [List.getElem?_set_self hl] at h; cases h
        exact ⟨v, List.getElem?_set_self (by rw [S.len]; exact hl), r⟩
      · rw [List.getElem?_eq_none (by simpa using hl)] at h; cases h
    · obtain ⟨h, e⟩ := hne h n
      obtain ⟨w, a, b⟩ := S.fz j _ h
      exact ⟨w, e.trans a, b⟩
  · obtain ⟨h, e⟩ := hne h (hroot h rfl)
    obtain ⟨p, a, b⟩ := S.own j _ h
    exact ⟨p, e.trans a, b⟩
  · obtain ⟨h, e⟩ := hne h (hroot h rfl)
    obtain ⟨p, a, b⟩ := S.inp j _ h
    exact ⟨p, e.trans a, b⟩
  · obtain ⟨h1', e1'⟩ := hne h1 (hroot h1 r1)
    obtain ⟨h2', e2'⟩ := hne h2 (hroot h2 r2)
    exact S.inj j k x y e1 e2 p h1' r1 h2' r2 (e1' ▸ h3) (e2' ▸ h4)
/-- a slot holds a new object of the frame's own -/
theorem Sim.setOwn (S : Sim K F G H σ δ) {p : Addr} {d : D} (hg : G p = none) (r : Root K G H p d) (h0 : F.H0 p = none) (ap : Apart σ δ p) (i : Nat) : Sim K F G H (σ.set i (some (V.ref p))) (δ.set i (some (SV.own d))) := by
  have hne : ∀ {j : Nat} {x : SV}, (δ.set i (some (SV.own d)))[j]? = some (some x) → j ≠ i → δ[j]? = some (some x) ∧ (σ.set i (some (V.ref p)))[j]? = σ[j]? := fun {j x} h n => by
    rw [List.getElem?_set_ne (Ne.symm n)] at h
    exact ⟨h, List.getElem?_set_ne (Ne.symm n)⟩
  have hself : ∀ {j : Nat} {x : SV}, (δ.set i (some (SV.own d)))[j]? = some (some x) → j = i → x = .own d ∧ (σ.set i (some (V.ref p)))[j]? = some (some (V.ref p)) := fun {j x} h z => by
    subst z
    by_cases hl : j < δ.length
    · rw [List.getElem?_set_self hl] at h; cases h
      exact ⟨rfl, List.getElem?_set_self (by rw [S.len]; exact hl)⟩
    · rw [List.getElem?_eq_none (by simpa using hl)] at h; cases h
  refine ⟨by simpa using S.len, fun j e h => ?_, fun j e h => ?_, fun j e h => ?_, fun j k x y e1 e2 q h1 r1 h2 r2 h3 h4 => ?_, S.sub, S.new, S.fr, S.ioh, S.g0⟩
  · by_cases n : j = i
    · cases (hself h n).1
    · obtain ⟨h, e⟩ := hne h n
      obtain ⟨w, a, b⟩ := S.fz j _ h
      exact ⟨w, e.trans a, b⟩
  · by_cases n : j = i
    · obtain ⟨z, e⟩ := hself h n
      cases z
      exact ⟨p, e, hg, r, h0⟩
    · obtain ⟨h, e⟩ := hne h n
      obtain ⟨q, a, b⟩ := S.own j _ h
      exact ⟨q, e.trans a, b⟩
  · by_cases n : j = i
    · cases (hself h n).1
    · obtain ⟨h, e⟩ := hne h n
      obtain ⟨q, a, b⟩ := S.inp j _ h
      exact ⟨q, e.trans a, b⟩
  · by_cases n : j = i
    · by_cases m : k = i
      · exact n.trans m.symm
      · obtain ⟨_, e⟩ := hself h1 n
        rw [e] at h3; cases h3
        obtain ⟨h2', e2'⟩ := hne h2 m
        exact absurd (e2' ▸ h4) (ap k y e2 h2' r2)
    · by_cases m : k = i
      · obtain ⟨_, e⟩ := hself h2 m
        rw [e] at h4; cases h4
        obtain ⟨h1', e1'⟩ := hne h1 n
        exact absurd (e1' ▸ h3) (ap j x e1 h1' r1)
      · obtain ⟨h1', e1'⟩ := hne h1 n
        obtain ⟨h2', e2'⟩ := hne h2 m
        exact S.inj j k x y e1 e2 q h1' r1 h2' r2 (e1' ▸ h3) (e2' ▸ h4)
/-- a slot is forgotten -/
theorem Sim.drop (S : Sim K F G H σ δ) (i : Nat) : Sim K F G H σ (δ.set i none) := by
  have hne : ∀ {j : Nat} {x : SV}, (δ.set i none)[j]? = some (some x) → δ[j]? = some (some x) := fun {j x} h => by
    by_cases n : j = i
    · subst n
      by_cases hl : j < δ.length
      · rw [List.getElem?_set_self hl] at h; cases h
      · rw [List.getElem?_eq_none (by simpa using hl)] at h; cases h
    · rw [List.getElem?_set_ne (Ne.symm n)] at h
      exact h
  exact ⟨by simpa using S.len, fun j e h => S.fz j e (hne h), fun j e h => S.own j e (hne h), fun j e h => S.inp j e (hne h), fun j k x y e1 e2 q h1 r1 h2 r2 h3 h4 => S.inj j k x y e1 e2 q (hne h1) r1 (hne h2) r2 h3 h4, S.sub, S.new, S.fr, S.ioh, S.g0⟩
/-- the frame's own object at a slot: let go -/
theorem Sim.letGo (S : Sim K F G H σ δ) {i : Nat} {d : D} (h : δ[i]? = some (some (SV.own d))) : ∃ G', Sim K F G' H σ (δ.set i (some (SV.fz d))) ∧ Mv σ δ G H (δ.set i (some (SV.fz d))) G' H ∧ ∀ v, σ[i]? = some (some v) → Rep K G' v d := by
  obtain ⟨p, a, b, c, e⟩ := S.own i d h
  obtain ⟨o, ho⟩ := c.there
  have hl : i < δ.length := (List.getElem?_eq_some_iff.mp h).1
  have ap : Apart σ (δ.set i none) p := fun j x f hj r hs => by
    by_cases n : j = i
    · subst n
      rw [List.getElem?_set_self hl] at hj; cases hj
    · rw [List.getElem?_set_ne (Ne.symm n)] at hj
      exact n (S.inj j i x _ f d p hj r h rfl hs a)
  have S2 := ((S.drop i).freeze b ho e ap).set (c.rep (sub_upd (o := o) b).le ho upd_same) i
  rw [List.set_set] at S2
  have es : σ.set i (some (V.ref p)) = σ := List.ext_getElem? fun j => by
    by_cases n : j = i
    · subst n
      rw [List.getElem?_set_self (by rw [S.len]; exact hl)]; exact a.symm
    · rw [List.getElem?_set_ne (Ne.symm n)]
  rw [es] at S2
  refine ⟨_, S2, ⟨(sub_upd b).le, fun q u hq gq aq => ⟨hq, ?_, fun j x f hj r hs => ?_⟩, fun _ z => z⟩, fun v hv => ?_⟩
  · rw [upd_ne (fun z => aq i _ d h rfl (by rw [z]; exact a))]
    exact gq
  · by_cases n : j = i
    · subst n
      rw [List.getElem?_set_self hl] at hj; cases hj; cases r
    · rw [List.getElem?_set_ne (Ne.symm n)] at hj
      exact aq j x f hj r hs
  · rw [a] at hv; cases hv
    exact c.rep (sub_upd (o := o) b).le ho upd_same
end

/-! ### results -/
/-- an operand: a tree that nobody changes, or the thing at a slot -/
inductive RV where
  | val (d : D) | slot (i : Nat)
/-- a result: a tree that nobody changes, or a new object that is nobody's yet -/
inductive OV where
  | val (d : D) | new (d : D)
def OV.d : OV → D
  | .val d => d
  | .new d => d
def svD : SV → D
  | .fz d => d
  | .own d => d
  | .inp d => d
/-- the tree of an operand -/
def peek : RV → Dl → Option D
  | .val d, _ => some d
  | .slot i, δ => match δ[i]? with
    | some (some x) => some (svD x)
    | _ => none
/-- the tree of an operand that gets away: it's let go -/
def esc : RV → Dl → Option (D × Dl)
  | .val d, δ => some (d, δ)
  | .slot i, δ => match δ[i]? with
    | some (some (SV.fz d)) => some (d, δ)
    | some (some (SV.own d)) => some (d, δ.set i (some (SV.fz d)))
    | _ => none

def RepR (K : PySem.W.Frag) (G : Hp) (σ : St) (v : V) : RV → Prop
  | .val d => Rep K G v d
  | .slot i => σ[i]? = some (some v)
def RepO (K : PySem.W.Frag) (Z G H : Hp) (σ : St) (δ : Dl) (v : V) : OV → Prop
  | .val d => Rep K G v d
  | .new d => ∃ p, v = .ref p ∧ G p = none ∧ Root K G H p d ∧ Z p = none ∧ Apart σ δ p
/-- a pure step's result -/
def RepP (K : PySem.W.Frag) (H G' H' : Hp) (v : V) : OV → Prop
  | .val d => Rep K G' v d
  | .new d => ∃ p, v = .ref p ∧ H p = none ∧ G' p = none ∧ Root K G' H' p d
/-- readable: not to be changed, or an object of the frame's -/
def RepK (K : PySem.W.Frag) (G H : Hp) (v : V) (d : D) : Prop := Rep K G v d ∨ ∃ p, v = .ref p ∧ Root K G H p d

section
variable {K : PySem.W.Frag} {F : Fr} {G H G' H' : Hp} {σ : St} {δ δ' : Dl} {v : V} {r : RV} {o : OV} {d : D}
theorem RepR.mono (h : RepR K G σ v r) (s : Le G G') : RepR K G' σ v r := by
  cases r with
  | val d => exact Rep.mono s h
  | slot i => exact h
theorem RepK.all (h : RepK K G H v d) (s : Sub G H) : Rep K H v d := by
  rcases h with h | ⟨p, rfl, h⟩
  · exact h.mono s.le
  · obtain ⟨o, ho⟩ := h.there
    exact h.rep s.le ho ho
theorem Sim.peek (S : Sim K F G H σ δ) (h : RepR K G σ v r) (e : Tl.peek r δ = some d) : RepK K G H v d := by
  cases r with
  | val x => cases e; exact .inl h
  | slot i =>
    have h' : σ[i]? = some (some v) := h
    simp only [Tl.peek] at e
    split at e
    · rename_i x hx
      cases e
      cases x with
      | fz y =>
        obtain ⟨w, a, b⟩ := S.fz i y hx
        rw [h'] at a; cases a
        exact .inl b
      | own y =>
        obtain ⟨p, a, _, b, _⟩ := S.own i y hx
        rw [h'] at a; cases a
        exact .inr ⟨p, rfl, b⟩
      | inp y =>
        obtain ⟨p, a, _, b, _⟩ := S.inp i y hx
        rw [h'] at a; cases a
        exact .inr ⟨p, rfl, b⟩
    · cases e
theorem Sim.esc (S : Sim K F G H σ δ) (h : RepR K G σ v r) (e : Tl.esc r δ = some (d, δ')) : ∃ G', Sim K F G' H σ δ' ∧ Mv σ δ G H δ' G' H ∧ Rep K G' v d := by
  cases r with
  | val x => cases e; exact ⟨G, S, .refl, h⟩
  | slot i =>
    have h' : σ[i]? = some (some v) := h
    simp only [Tl.esc] at e
    split at e
    · rename_i x hx
      cases e
      obtain ⟨w, a, b⟩ := S.fz i _ hx
      rw [h'] at a; cases a
      exact ⟨G, S, .refl, b⟩
    · rename_i x hx
      cases e
      obtain ⟨G', a, b, c⟩ := S.letGo hx
      exact ⟨G', a, b, c v h'⟩
    · cases e
theorem RepP.toO (S : Sim K F G H σ δ) (E : Ext G H G' H') (h : RepP K H G' H' v o) : RepO K H G' H' σ δ v o := by
  cases o with
  | val d => exact h
  | new d =>
    obtain ⟨p, rfl, a, b, c⟩ := h
    refine ⟨p, rfl, b, c, a, fun i x e hx r hs => ?_⟩
    · obtain ⟨q, e1, _, e3⟩ := S.root hx r
      rw [hs] at e1; cases e1
      obtain ⟨w, hw⟩ := e3.there
      rw [hw] at a; cases a
theorem RepO.old {Z Z' : Hp} (h : RepO K Z G H σ δ v o) (z : ∀ a, Z a = none → Z' a = none) : RepO K Z' G H σ δ v o := by
  cases o with
  | val d => exact h
  | new d => obtain ⟨p, a, b, c, e, f⟩ := h; exact ⟨p, a, b, c, z p e, f⟩
/-- a result that gets away; Z: the heap ahead of it -/
theorem Sim.settle {Z G0 : Hp} {δ0 : Dl} (S : Sim K F G H σ δ) (h : RepO K Z G H σ δ v o) (hz : ∀ a, Z a = none → F.H0 a = none) (m : Mv σ δ0 G0 Z δ G H) : ∃ G', Sim K F G' H σ δ ∧ Mv σ δ0 G0 Z δ G' H ∧ Rep K G' v o.d := by
  cases o with
  | val d => exact ⟨G, S, m, h⟩
  | new d =>
    obtain ⟨p, rfl, a, b, c, e⟩ := h
    obtain ⟨w, hw⟩ := b.there
    refine ⟨_, S.freeze a hw (hz p c) e, ⟨m.le.trans (sub_upd a).le, fun q u hq gq aq => ?_, m.dom⟩, b.rep (sub_upd a).le hw upd_same⟩
    obtain ⟨h1, h2, h3⟩ := m.stay q u hq gq aq
    refine ⟨h1, ?_, h3⟩
    rw [upd_ne (fun z => by rw [z, c] at hq; cases hq)]
    exact h2
end

/-! ### the judgements -/
abbrev Fe := Dl → Option (RV × Dl)
abbrev Fn := Dl → Option (OV × Dl)
abbrev Ft := Dl → Option (Bool × Dl)
abbrev Fa := Dl → Option (List D × Dl)
def tEv (K : PySem.W.Frag) (f : Fe) : TE := fun σ H Q => ∃ F G δ r δ', Sim K F G H σ δ ∧ f δ = some (r, δ') ∧ ∀ v H' G', Sim K F G' H' σ δ' → Mv σ δ G H δ' G' H' → RepR K G' σ v r → Q v H'
def tEn (K : PySem.W.Frag) (f : Fn) : TE := fun σ H Q => ∃ F G δ o δ', Sim K F G H σ δ ∧ f δ = some (o, δ') ∧ ∀ v H' G', Sim K F G' H' σ δ' → Mv σ δ G H δ' G' H' → RepO K H G' H' σ δ' v o → Q v H'
def tTs (K : PySem.W.Frag) (f : Ft) : TT := fun σ H Q => ∃ F G δ b δ', Sim K F G H σ δ ∧ f δ = some (b, δ') ∧ ∀ H' G', Sim K F G' H' σ δ' → Mv σ δ G H δ' G' H' → Q b H'
def tAr (K : PySem.W.Frag) (f : Fa) : TA := fun σ H Q => ∃ F G δ ds δ', Sim K F G H σ δ ∧ f δ = some (ds, δ') ∧ ∀ vs H' G', Sim K F G' H' σ δ' → Mv σ δ G H δ' G' H' → RepL K G' vs ds → Q vs H'
/-- e computes f, an operand -/
def Ev (X : Cx) (e : Expr) (f : Fe) : Prop := PE X e (tEv X.K f)
/-- e computes f, a result -/
def En (X : Cx) (e : Expr) (f : Fn) : Prop := PE X e (tEn X.K f)
/-- a test -/
def Ts (X : Cx) (e : Expr) (f : Ft) : Prop := PT X e (tTs X.K f)
/-- arguments, all let go -/
def Ar (X : Cx) (es : List Expr) (f : Fa) : Prop := PA X es (tAr X.K f)
theorem PE.imp {X : Cx} {e : Expr} {t t' : TE} (h : PE X e t) (i : ∀ σ H Q, t' σ H Q → t σ H Q) : PE X e t' := ⟨fun pins s σ H Q I q => h.run pins s σ H Q I (i σ H Q q)⟩
theorem PT.imp {X : Cx} {e : Expr} {t t' : TT} (h : PT X e t) (i : ∀ σ H Q, t' σ H Q → t σ H Q) : PT X e t' := ⟨fun pins s σ H Q I q => h.run pins s σ H Q I (i σ H Q q)⟩
theorem PA.imp {X : Cx} {e : List Expr} {t t' : TA} (h : PA X e t) (i : ∀ σ H Q, t' σ H Q → t σ H Q) : PA X e t' := ⟨fun pos pins s σ H Q I q => h.run pos pins s σ H Q I (i σ H Q q)⟩

/-- a result as an operand -/
def fV (f : Fn) : Fe := fun δ => (f δ).map fun p => (.val p.1.d, p.2)
theorem En.v {X : Cx} {e : Expr} {f : Fn} (h : En X e f) : Ev X e (fV f) := PE.imp h fun σ H Q ⟨F, G, δ, r, δ', S, e1, k⟩ => by
  cases q : f δ with
  | none => simp [fV, q] at e1
  | some p =>
    obtain ⟨o, δ1⟩ := p
    simp only [fV, q, Option.map_some, Option.some.injEq, Prod.mk.injEq] at e1
    obtain ⟨rfl, rfl⟩ := e1
    refine ⟨F, G, δ, o, δ1, S, q, fun v H' G' S' sb ro => ?_⟩
    obtain ⟨G2, S2, m2, r2⟩ := S'.settle ro (fun a h => S.fresh h) sb
    exact k v H' G2 S2 m2 r2
/-- an operand as a result: let go -/
def fO (f : Fe) : Fn := fun δ => match f δ with
  | some (r, δ1) => match esc r δ1 with
    | some (d, δ2) => some (.val d, δ2)
    | none => none
  | none => none
theorem Ev.o {X : Cx} {e : Expr} {f : Fe} (h : Ev X e f) : En X e (fO f) := PE.imp h fun σ H Q ⟨F, G, δ, o, δ', S, e1, k⟩ => by
  cases q : f δ with
  | none => simp [fO, q] at e1
  | some p =>
    obtain ⟨r, δ1⟩ := p
    cases q2 : esc r δ1 with
    | none => simp [fO, q, q2] at e1
    | some p2 =>
      obtain ⟨d, δ2⟩ := p2
      simp only [fO, q, q2, Option.some.injEq, Prod.mk.injEq] at e1
      obtain ⟨rfl, rfl⟩ := e1
      refine ⟨F, G, δ, r, δ1, S, q, fun v H' G' S' sb ro => ?_⟩
      obtain ⟨G2, S2, sb2, r2⟩ := S'.esc ro q2
      exact k v H' G2 S2 (sb.trans sb2) r2
end L2.Tl

set_option Elab.async false
set_option linter.all false
set_option autoImplicit false
set_option maxRecDepth 100000
namespace L2.Tl
open PySem PySem.Spec PyProof.Rows

/-! ### operations by trees -/
/-- what a pure step hands on -/
def Post (K : PySem.W.Frag) (G H : Hp) (o : OV) (Q : VK) : Prop := ∀ v H' G', Ext G H G' H' → RepP K H G' H' v o → Q v H'
section
variable {K : PySem.W.Frag} {G H : Hp} {Q : VK}
theorem Post.val {d : D} {v : V} (k : Post K G H (.val d) Q) (s : Sub G H) (r : Rep K G v d) : Q v H := k v H G (.refl s) r
theorem Post.lst {ds : List D} {vs : List V} {p : Addr} (k : Post K G H (.new (.lst ds)) Q) (s : Sub G H) (r : RepL K G vs ds) (h : H p = none) : Q (.ref p) (upd H p (.lst vs)) :=
  k _ _ G (.own s h) ⟨p, rfl, h, none_of_sub s h, .lst upd_same r⟩
theorem Post.tup {ds : List D} {vs : List V} {p : Addr} (k : Post K G H (.val (.tup ds)) Q) (s : Sub G H) (r : RepL K G vs ds) (h : H p = none) : Q (.ref p) (upd H p (.tup vs)) :=
  k _ _ _ (.add s h) (.tup upd_same (r.mono (sub_upd (none_of_sub s h)).le))
theorem Post.dK {ds : List (D × D)} {vs : List (Key × V)} {p : Addr} (k : Post K G H (.new (.dct false ds)) Q) (s : Sub G H) (r : RepD K G vs ds) (h : H p = none) : Q (.ref p) (upd H p (.dK vs)) :=
  k _ _ G (.own s h) ⟨p, rfl, h, none_of_sub s h, .dK upd_same r⟩
theorem Post.dT {ds : List (D × D)} {vs : List (List Key × V)} {p : Addr} (k : Post K G H (.new (.dct true ds)) Q) (s : Sub G H) (r : RepT K G vs ds) (h : H p = none) : Q (.ref p) (upd H p (.dT vs)) :=
  k _ _ G (.own s h) ⟨p, rfl, h, none_of_sub s h, .dT upd_same r⟩
end
/-- readings of a readable list, tuple, dict -/
theorem RepK.lst {K : PySem.W.Frag} {G H : Hp} {v : V} {ds : List D} (h : RepK K G H v (.lst ds)) (s : Sub G H) : ∃ a vs, v = .ref a ∧ Rd H a (.lst vs) ∧ RepL K G vs ds := by
  rcases h with h | ⟨p, rfl, h⟩
  · cases h with
    | lst a b => exact ⟨_, _, rfl, s.le.1 _ _ a, b⟩
  · cases h with
    | lst a b => exact ⟨_, _, rfl, .inl a, b⟩
theorem RepK.kl {K : PySem.W.Frag} {G H : Hp} {v : V} {ns : List Int} (h : RepK K G H v (.kl ns)) (s : Sub G H) : ∃ a, v = .ref a ∧ SqL K H a (ns.map V.int) := by
  rcases h with h | ⟨p, rfl, h⟩
  · cases h with
    | kl a => exact ⟨_, rfl, sqUp s.le a⟩
  · cases h
theorem RepK.tup {K : PySem.W.Frag} {G H : Hp} {v : V} {ds : List D} (h : RepK K G H v (.tup ds)) (s : Sub G H) : ∃ a vs, v = .ref a ∧ H a = some (.tup vs) ∧ RepL K G vs ds := by
  rcases h with h | ⟨p, rfl, h⟩
  · cases h with
    | tup a b => exact ⟨_, _, rfl, s _ _ a, b⟩
  · cases h
theorem RepK.dK {K : PySem.W.Frag} {G H : Hp} {v : V} {ds : List (D × D)} (h : RepK K G H v (.dct false ds)) (s : Sub G H) : ∃ a kvs, v = .ref a ∧ Rd H a (.dK kvs) ∧ RepD K G kvs ds := by
  rcases h with h | ⟨p, rfl, h⟩
  · cases h with
    | dK a b => exact ⟨_, _, rfl, s.le.1 _ _ a, b⟩
  · cases h with
    | dK a b => exact ⟨_, _, rfl, .inl a, b⟩
theorem RepK.dT {K : PySem.W.Frag} {G H : Hp} {v : V} {ds : List (D × D)} (h : RepK K G H v (.dct true ds)) (s : Sub G H) : ∃ a kvs, v = .ref a ∧ Rd H a (.dT kvs) ∧ RepT K G kvs ds := by
  rcases h with h | ⟨p, rfl, h⟩
  · cases h with
    | dT a b => exact ⟨_, _, rfl, s.le.1 _ _ a, b⟩
  · cases h with
    | dT a b => exact ⟨_, _, rfl, .inl a, b⟩
theorem RepK.obj {K : PySem.W.Frag} {G H : Hp} {v : V} {C : Addr} {ds : List (Str × D)} (h : RepK K G H v (.obj C ds)) (s : Sub G H) : ∃ a dx fs, v = .ref a ∧ H a = some (.ins C dx fs) ∧ RepF K G fs ds := by
  rcases h with h | ⟨p, rfl, h⟩
  · cases h with
    | obj a b => exact ⟨_, _, _, rfl, s _ _ a, b⟩
  · cases h with
    | obj a b => exact ⟨_, _, _, rfl, a, b⟩
theorem RepK.int {K : PySem.W.Frag} {G H : Hp} {v : V} {i : Int} (h : RepK K G H v (.int i)) : v = .int i := by
  rcases h with h | ⟨p, rfl, h⟩
  · exact h.int_inv
  · cases h
theorem RepK.bl {K : PySem.W.Frag} {G H : Hp} {v : V} {i : Bool} (h : RepK K G H v (.bl i)) : v = .bl i := by
  rcases h with h | ⟨p, rfl, h⟩
  · exact h.bl_inv
  · cases h
theorem RepK.str {K : PySem.W.Frag} {G H : Hp} {v : V} {i : Str} (h : RepK K G H v (.str i)) : v = .str i := by
  rcases h with h | ⟨p, rfl, h⟩
  · exact h.str_inv
  · cases h
theorem RepK.non {K : PySem.W.Frag} {G H : Hp} {v : V} (h : RepK K G H v .non) : v = .non := by
  rcases h with h | ⟨p, rfl, h⟩
  · exact h.non_inv
  · cases h

/-- two trees in, a result out -/
def rT (K : PySem.W.Frag) (g : D → D → Option OV) : R2 := fun x y H Q => ∃ G d e o, Sub G H ∧ RepK K G H x d ∧ RepK K G H y e ∧ g d e = some o ∧ Post K G H o Q
/-- one tree in -/
def rU1 (K : PySem.W.Frag) (g : D → Option OV) : V → Hp → VK → Prop := fun x H Q => ∃ G d o, Sub G H ∧ RepK K G H x d ∧ g d = some o ∧ Post K G H o Q
def OpT (X : Cx) (f : Value → Value → Sem Value) (g : D → D → Option OV) : Prop := OpR X f (rT X.K g)

/-- two operands -/
def fOp2 (g : D → D → Option OV) (fa fb : Fe) : Fn := fun δ =>
  (fa δ).bind fun p => (fb p.2).bind fun q => (peek p.1 q.2).bind fun x => (peek q.1 q.2).bind fun y => (g x y).map fun o => (o, q.2)
theorem op2_imp {K : PySem.W.Frag} {g : D → D → Option OV} {fa fb : Fe} (σ : St) (H : Hp) (Q : VK) (h : tEn K (fOp2 g fa fb) σ H Q) : tOp (rT K g) (tEv K fa) (tEv K fb) σ H Q := by
  obtain ⟨F, G, δ, o, δ', S, e, k⟩ := h
  obtain ⟨⟨ra, δ1⟩, e1, e⟩ := Option.bind_eq_some_iff.mp e
  obtain ⟨⟨rb, δ2⟩, e2, e⟩ := Option.bind_eq_some_iff.mp e
  obtain ⟨x, e3, e⟩ := Option.bind_eq_some_iff.mp e
  obtain ⟨y, e4, e⟩ := Option.bind_eq_some_iff.mp e
  obtain ⟨o', e5, e6⟩ := Option.map_eq_some_iff.mp e
  cases e6
  refine ⟨F, G, δ, ra, δ1, S, e1, fun v1 H1 G1 S1 b1 r1 => ⟨F, G1, δ1, rb, δ2, S1, e2, fun v2 H2 G2 S2 b2 r2 => ?_⟩⟩
  refine ⟨G2, x, y, o, S2.sub, S2.peek (r1.mono b2.le) e3, S2.peek r2 e4, e5, fun v H' G' E r => ?_⟩
  exact k v H' G' (S2.ext E) (b1.trans (b2.trans E.mv)) ((r.toO S2 E).old fun a h => b1.dom a (b2.dom a h))
theorem en_bin {X : Cx} {op : Operator} {g : D → D → Option OV} {a b : Expr} {fa fb : Fe} {pos : Pos} (ho : OpT X (binaryOp op) g) (ha : Ev X a fa) (hb : Ev X b fb) : En X (.BinOp a op b pos) (fOp2 g fa fb) :=
  PE.imp (pe_op ho ha hb) op2_imp
theorem en_cmp {X : Cx} {op : CmpOp} {g : D → D → Option OV} {a b : Expr} {fa fb : Fe} {pos : Pos} (ho : OpT X (compareOp op) g) (ha : Ev X a fa) (hb : Ev X b fb) (hm : behindInMarks op b = false) : En X (.Compare a [op] [b] pos) (fOp2 g fa fb) :=
  PE.imp (pe_cmpR ho ha hb hm) op2_imp
theorem en_ix {X : Cx} {g : D → D → Option OV} {a b : Expr} {fa fb : Fe} {pos : Pos} (ho : IxR X (rT X.K g)) (ha : Ev X a fa) (hb : Ev X b fb) (hs : PlainIx b) : En X (.Subscript a b pos) (fOp2 g fa fb) :=
  PE.imp (pe_ix ho ha hb hs) op2_imp

/-! ### names, constants -/
def fVar (i : Nat) : Fe := fun δ => match δ[i]? with
  | some (some (.fz d)) => some (.val d, δ)
  | some (some (.own _)) => some (.slot i, δ)
  | some (some (.inp _)) => some (.slot i, δ)
  | _ => none
theorem Sim.at {K : PySem.W.Frag} {F : Fr} {G H : Hp} {σ : St} {δ : Dl} (S : Sim K F G H σ δ) {i : Nat} {x : SV} (h : δ[i]? = some (some x)) : ∃ v, σ[i]? = some (some v) := by
  cases x with
  | fz d => obtain ⟨v, a, _⟩ := S.fz i d h; exact ⟨v, a⟩
  | own d => obtain ⟨v, a, _⟩ := S.own i d h; exact ⟨_, a⟩
  | inp d => obtain ⟨v, a, _⟩ := S.inp i d h; exact ⟨_, a⟩
theorem ev_var {X : Cx} (i : Nat) {x : Str} {pos : Pos} (hN : X.N[i]? = some x := by rfl) (hv : Vis X.env.scope x := by first | exact Or.inl rfl | exact Or.inr (Or.inl rfl) | exact Or.inr (Or.inr rfl)) (hd : (x == ("__debug__" : Str)) = false := by decide)
    (hcd : (x == ("__classdict__" : Str)) = false := by decide) : Ev X (.Name x pos) (fVar i) := PE.imp (pe_var hN hv hd hcd) fun σ H Q ⟨F, G, δ, r, δ', S, e, k⟩ => by
  unfold fVar at e
  split at e
  · rename_i d h
    cases e
    obtain ⟨v, a, b⟩ := S.fz i d h
    exact ⟨v, a, k v H G S .refl b⟩
  · rename_i d h
    cases e
    obtain ⟨v, a⟩ := S.at h
    exact ⟨v, a, k v H G S .refl a⟩
  · rename_i d h
    cases e
    obtain ⟨v, a⟩ := S.at h
    exact ⟨v, a, k v H G S .refl a⟩
  · cases e
def fC (d : D) : Fe := fun δ => some (.val d, δ)
theorem ev_const {X : Cx} {e : Expr} {d : D} {v : V} (h : PE X e (tC v)) (r : ∀ G, Rep X.K G v d) : Ev X e (fC d) := PE.imp h fun σ H Q ⟨F, G, δ, o, δ', S, e, k⟩ => by
  cases e
  exact k v H G S .refl (r G)
section
variable {X : Cx} {j : Nat} {pos : Pos}
theorem ev_int {i : Int} : Ev X (.Constant (.int i) j pos) (fC (.int i)) := ev_const pe_int fun _ => .int i
theorem ev_bl {i : Bool} : Ev X (.Constant (.bool i) j pos) (fC (.bl i)) := ev_const pe_bl fun _ => .bl i
theorem ev_non : Ev X (.Constant .none j pos) (fC .non) := ev_const pe_non fun _ => .non
theorem ev_str {x : Str} : Ev X (.Constant (.str x) j pos) (fC (.str x)) := ev_const pe_str fun _ => .str x
/-- a constant of the module -/
theorem ev_glob {x : Str} {d : D} {v : V} {u : Value} (hg : Gl X x) (hm : X.mg x = some u) (r : RelV v u) (rr : ∀ G, Rep X.K G v d) (hd : (x == ("__debug__" : Str)) = false := by decide) : Ev X (.Name x pos) (fC d) :=
  ev_const (pe_glob hg hm r hd) rr
end

/-! ### arithmetic -/
def mulOk (i j : Int) : Bool := decide ((-(2 ^ 64) < i ∧ i < 2 ^ 64) ∨ (-(2 ^ 64) < j ∧ j < 2 ^ 64))
def dAdd : D → D → Option OV
  | .int i, .int j => some (.val (.int (i + j)))
  | .str a, .str b => if a.length + b.length ≤ sizeLine then some (.val (.str (a ++ b))) else none
  | .lst xs, .lst ys => if xs.length + ys.length ≤ sizeLine then some (.new (.lst (xs ++ ys))) else none
  | _, _ => none
def dSub : D → D → Option OV
  | .int i, .int j => some (.val (.int (i - j)))
  | _, _ => none
def dMul : D → D → Option OV
  | .int i, .int j => if mulOk i j = true then some (.val (.int (i * j))) else none
  | .lst xs, .int k => if k < 2 ^ 60 ∧ -(2 ^ 60) < k ∧ xs.length * k.toNat ≤ sizeLine then some (.new (.lst (List.replicate k.toNat xs).flatten)) else none
  | _, _ => none
def dDiv : D → D → Option OV
  | .int i, .int j => if 0 < j ∧ j.natAbs.log2 < 9000 then some (.val (.int (i / j))) else if j < 0 ∧ j.natAbs < 1073741824 then some (.val (.int (i.fdiv j))) else none
  | _, _ => none
def dMod : D → D → Option OV
  | .int i, .int j => if 0 < j then some (.val (.int (i % j))) else none
  | _, _ => none
def dPow : D → D → Option OV
  | .int i, .int j => if 0 ≤ j ∧ (Builtin.Int.intBits i : Int) * j ≤ 2 ^ 27 then some (.val (.int (i ^ j.toNat))) else none
  | _, _ => none
def dShl : D → D → Option OV
  | .int i, .int j => if 0 ≤ j ∧ (Builtin.Int.intBits i : Int) + j ≤ 2 ^ 27 then some (.val (.int (i * 2 ^ j.toNat))) else none
  | _, _ => none
def dShr : D → D → Option OV
  | .int i, .int j => if 0 ≤ j then some (.val (.int (i / 2 ^ j.toNat))) else none
  | _, _ => none
def dAnd : D → D → Option OV
  | .int i, .int j => some (.val (.int (Builtin.bitAnd i j)))
  | _, _ => none
def dOr : D → D → Option OV
  | .int i, .int j => some (.val (.int (Builtin.bitOr i j)))
  | _, _ => none
def dXor : D → D → Option OV
  | .int i, .int j => some (.val (.int (Builtin.bitXor i j)))
  | _, _ => none
section
variable {X : Cx}
/-- the list's object -/
theorem rdl {pins : List (Addr × Obj)} {s : Shared} {σ : St} {H : Hp} {a : Addr} {xs : List V} (I : Inv X pins σ H s) (h : Rd H a (.lst xs)) :
    xs.length ≤ sizeLine ∧ ∃ (its : List Value) (n : Nat), Vals xs its ∧ xs.length = its.length ∧ s.heap.get? a = some { cls := .type "list", data := .seq its.toArray n } := by
  obtain ⟨z, its, n, r, e⟩ := h.ok I.hok
  exact ⟨z, its, n, r, r.length, e⟩
theorem opT_add : OpT X (binaryOp .Add) dAdd := by
  intro pins s σ H x y v u Q I rx ry ⟨G, d, e, o, sb, rd, re, hq, k⟩
  unfold dAdd at hq
  split at hq
  · cases hq
    exact op_add pins s σ H x y v u Q I rx ry ⟨_, _, rd.int, re.int, k.val sb (.int _)⟩
  · split at hq
    · cases hq
      rename_i hz
      exact op_add_str pins s σ H x y v u Q I rx ry ⟨_, _, rd.str, re.str, hz, k.val sb (.str _)⟩
    · cases hq
  · split at hq
    · cases hq
      rename_i hz
      obtain ⟨l, vs, rfl, h1, r1⟩ := rd.lst sb
      obtain ⟨b, ws, rfl, h2, r2⟩ := re.lst sb
      cases rx
      cases ry
      obtain ⟨z, its, n, r, hl, e⟩ := rdl I h1
      obtain ⟨z2, its2, n2, r', hl2, e2⟩ := rdl I h2
      rw [← r1.length, ← r2.length] at hz
      refine PySem.P.add_list e e2 ?_ (by rw [List.size_toArray, List.size_toArray]; omega)
      have ea : its.toArray ++ its2.toArray = (its ++ its2).toArray := by simp
      rw [ea]
      exact ⟨.ref _, _, I.lnew (t' := s.toks) (r.append r') (by rw [List.length_append]; omega), rfl, k.lst sb (r1.append r2) I.fresh⟩
    · cases hq
  · cases hq
theorem opT_sub : OpT X (binaryOp .Sub) dSub := by
  intro pins s σ H x y v u Q I rx ry ⟨G, d, e, o, sb, rd, re, hq, k⟩
  unfold dSub at hq
  split at hq
  · cases hq
    exact op_sub pins s σ H x y v u Q I rx ry ⟨_, _, rd.int, re.int, k.val sb (.int _)⟩
  · cases hq
theorem RepL.rep {K : PySem.W.Frag} {G : Hp} {vs : List V} {ds : List D} (r : RepL K G vs ds) : ∀ n : Nat, RepL K G (List.replicate n vs).flatten (List.replicate n ds).flatten
  | 0 => .nil
  | n + 1 => by
    simp only [List.replicate_succ, List.flatten_cons]
    exact r.append (RepL.rep r n)
theorem opT_mul : OpT X (binaryOp .Mult) dMul := by
  intro pins s σ H x y v u Q I rx ry ⟨G, d, e, o, sb, rd, re, hq, k⟩
  unfold dMul at hq
  split at hq
  · split at hq
    · cases hq
      rename_i hz
      exact op_mul pins s σ H x y v u Q I rx ry ⟨_, _, rd.int, re.int, (by unfold mulOk at hz; simpa [CMul] using hz), k.val sb (.int _)⟩
    · cases hq
  · split at hq
    · cases hq
      rename_i xs kk hz
      obtain ⟨hz1, hz2, hz⟩ := hz
      obtain ⟨l, vs, rfl, h1, r1⟩ := rd.lst sb
      cases re.int
      cases rx
      obtain ⟨t, rfl⟩ := ry
      obtain ⟨z, its, n, r, hl, e⟩ := rdl I h1
      rw [← r1.length] at hz
      have h1 : -(2 ^ 63) ≤ kk := by omega
      have h2 : kk < 2 ^ 63 := by omega
      have hlen : its.toArray.size * kk.toNat ≤ sizeLine := by rw [List.size_toArray, ← hl]; exact hz
      have hcap : ¬ its.toArray.size * kk.toNat > (2 ^ 63 - 1) / 8 := by
        have : (sizeLine : Nat) ≤ (2 ^ 63 - 1) / 8 := by decide
        omega
      have hfit : ¬ (!Builtin.List.listFitsIndex kk) = true := by
        rw [fitsIndex_both h1 h2]
        exact Bool.false_ne_true
      have hlong : ¬ Builtin.List.listTooLong (its.toArray.size * kk.toNat) = true := by
        rw [notLongL hlen]
        exact Bool.false_ne_true
      have hnew : List.foldl (fun x1 x2 => x1 ++ x2) #[] (List.replicate (if its.toArray.isEmpty = true then 0 else kk.toNat) its.toArray) = (List.replicate kk.toNat its).flatten.toArray := by
        have f0 : ∀ m : Nat, List.foldl (fun x1 x2 => x1 ++ x2) #[] (List.replicate m its.toArray) = (List.replicate m its).flatten.toArray := fun m => by
          have := foldl_rep its m []
          rw [List.nil_append] at this
          exact this
        rw [f0]
        cases its with
        | nil => simp
        | cons a r' => rw [if_neg (by simp)]
      refine wpAny_binaryOp_repeat_ref (T := "list") (U := "int") (by decide) ⟨_, e, rfl⟩ (fun s' => typeIs_int s' kk t) noFill_list_mul F.fills_int_mul F.slot_int_rmul repeat_list F.slot_int_index.lookup
        (call_meets F.slot_int_rmul (typeIs_int s kk t) F.entry_int_rmul (F.args_int_rmul_2 _ _) (int___rmul___int_list kk t l its.toArray n)
          ⟨e, rfl, ⟨_, e, rfl⟩, call_meets F.slot_list_mul ⟨_, e, rfl⟩ F.entry_list_mul (F.args_list_mul_2 _ _) (AutoListH.list___mul___list_int_3 l its.toArray n kk t hfit hcap hlong) ⟨e, ?_⟩⟩)
      rw [hnew]
      exact ⟨.ref _, _, I.lnew (t' := s.toks) (r.rep kk.toNat) (by rw [PyProof.Rows.lm_len_rep_flat, Nat.mul_comm]; exact hz), rfl, k.lst sb (r1.rep kk.toNat) I.fresh⟩
    · cases hq
  · cases hq
theorem opT_div : OpT X (binaryOp .FloorDiv) dDiv := by
  intro pins s σ H x y v u Q I rx ry ⟨G, d, e, o, sb, rd, re, hq, k⟩
  unfold dDiv at hq
  split at hq
  · split at hq
    · cases hq
      rename_i hz
      exact op_fdivW pins s σ H x y v u Q I rx ry ⟨_, _, rd.int, re.int, hz, k.val sb (.int _)⟩
    · split at hq
      · cases hq
        rename_i hz
        exact op_fdivN pins s σ H x y v u Q I rx ry ⟨_, _, rd.int, re.int, ⟨by omega, hz.2⟩, k.val sb (.int _)⟩
      · cases hq
  · cases hq
theorem opT_mod : OpT X (binaryOp .Mod) dMod := by
  intro pins s σ H x y v u Q I rx ry ⟨G, d, e, o, sb, rd, re, hq, k⟩
  unfold dMod at hq
  split at hq
  · split at hq
    · cases hq
      rename_i hz
      exact op_mod pins s σ H x y v u Q I rx ry ⟨_, _, rd.int, re.int, hz, k.val sb (.int _)⟩
    · cases hq
  · cases hq
theorem opT_pow : OpT X (binaryOp .Pow) dPow := by
  intro pins s σ H x y v u Q I rx ry ⟨G, d, e, o, sb, rd, re, hq, k⟩
  unfold dPow at hq
  split at hq
  · split at hq
    · cases hq
      rename_i hz
      cases rd.int
      cases re.int
      obtain ⟨t, rfl⟩ := rx
      obtain ⟨t', rfl⟩ := ry
      exact pow_int hz.1 hz.2 ⟨.int _, H, I.tok _, ⟨_, rfl⟩, k.val sb (.int _)⟩
    · cases hq
  · cases hq
theorem opT_shl : OpT X (binaryOp .LShift) dShl := by
  intro pins s σ H x y v u Q I rx ry ⟨G, d, e, o, sb, rd, re, hq, k⟩
  unfold dShl at hq
  split at hq
  · split at hq
    · cases hq
      rename_i hz
      exact op_shlW pins s σ H x y v u Q I rx ry ⟨_, _, rd.int, re.int, hz, k.val sb (.int _)⟩
    · cases hq
  · cases hq
theorem opT_shr : OpT X (binaryOp .RShift) dShr := by
  intro pins s σ H x y v u Q I rx ry ⟨G, d, e, o, sb, rd, re, hq, k⟩
  unfold dShr at hq
  split at hq
  · split at hq
    · cases hq
      rename_i hz
      exact op_shr pins s σ H x y v u Q I rx ry ⟨_, _, rd.int, re.int, hz, k.val sb (.int _)⟩
    · cases hq
  · cases hq
theorem opT_and : OpT X (binaryOp .BitAnd) dAnd := by
  intro pins s σ H x y v u Q I rx ry ⟨G, d, e, o, sb, rd, re, hq, k⟩
  unfold dAnd at hq
  split at hq
  · cases hq
    exact op_and pins s σ H x y v u Q I rx ry ⟨_, _, rd.int, re.int, k.val sb (.int _)⟩
  · cases hq
theorem opT_or : OpT X (binaryOp .BitOr) dOr := by
  intro pins s σ H x y v u Q I rx ry ⟨G, d, e, o, sb, rd, re, hq, k⟩
  unfold dOr at hq
  split at hq
  · cases hq
    exact op_or pins s σ H x y v u Q I rx ry ⟨_, _, rd.int, re.int, k.val sb (.int _)⟩
  · cases hq
theorem opT_xor : OpT X (binaryOp .BitXor) dXor := by
  intro pins s σ H x y v u Q I rx ry ⟨G, d, e, o, sb, rd, re, hq, k⟩
  unfold dXor at hq
  split at hq
  · cases hq
    exact op_xor pins s σ H x y v u Q I rx ry ⟨_, _, rd.int, re.int, k.val sb (.int _)⟩
  · cases hq
end
end L2.Tl

set_option Elab.async false
set_option linter.all false
set_option autoImplicit false
set_option maxRecDepth 100000
namespace L2.Tl
open PySem PySem.Spec PyProof.Rows

/-! ### equality, order, membership -/
mutual
def D.eqv : D → D → Bool
  | .non, .non => true
  | .bl a, .bl b => a == b
  | .bl a, .int j => (if a then 1 else 0) == j
  | .int i, .bl b => i == (if b then 1 else 0)
  | .int i, .int j => i == j
  | .str x, .str y => x == y
  | .lst xs, .lst ys => eqvL xs ys
  | .tup xs, .tup ys => eqvL xs ys
  | _, _ => false
def eqvL : List D → List D → Bool
  | [], [] => true
  | x :: xs, y :: ys => D.eqv x y && eqvL xs ys
  | _, _ => false
end
mutual
/-- no dict, no instance within -/
def D.plain : D → Bool
  | .lst xs => plainL xs
  | .tup xs => plainL xs
  | .dct _ _ => false
  | .obj _ _ => false
  | .kl _ => false
  | _ => true
def plainL : List D → Bool
  | [] => true
  | x :: xs => x.plain && plainL xs
end
mutual
def D.dep : D → Nat
  | .lst xs => depL xs + 1
  | .tup xs => depL xs + 1
  | _ => 0
def depL : List D → Nat
  | [] => 0
  | x :: xs => max x.dep (depL xs)
end
mutual
theorem D.pd_plain : ∀ d : D, d.plain = true → ∃ p, d.pd = some p ∧ p.plain = true ∧ p.depth = d.dep
  | .non, _ => ⟨_, rfl, rfl, rfl⟩
  | .bl _, _ => ⟨_, rfl, rfl, rfl⟩
  | .int _, _ => ⟨_, rfl, rfl, rfl⟩
  | .str _, _ => ⟨_, rfl, rfl, rfl⟩
  | .lst xs, h => by
    obtain ⟨ps, h1, h2, h3⟩ := pdL_plain xs (by simpa [D.plain] using h)
    exact ⟨.list ps, by simp [D.pd, h1], by simpa [PyData.plain] using h2, by simp [PyData.depth, D.dep, h3]⟩
  | .tup xs, h => by
    obtain ⟨ps, h1, h2, h3⟩ := pdL_plain xs (by simpa [D.plain] using h)
    exact ⟨.tuple ps, by simp [D.pd, h1], by simpa [PyData.plain] using h2, by simp [PyData.depth, D.dep, h3]⟩
  | .dct _ _, h => by simp [D.plain] at h
  | .obj _ _, h => by simp [D.plain] at h
  | .kl _, h => by simp [D.plain] at h
theorem pdL_plain : ∀ ds : List D, plainL ds = true → ∃ ps, pdL ds = some ps ∧ PyData.plainAll ps = true ∧ PyData.depthAll ps = depL ds
  | [], _ => ⟨_, rfl, rfl, rfl⟩
  | x :: xs, h => by
    have h' : x.plain = true ∧ plainL xs = true := by simpa [plainL] using h
    obtain ⟨p, a1, a2, a3⟩ := D.pd_plain x h'.1
    obtain ⟨ps, b1, b2, b3⟩ := pdL_plain xs h'.2
    exact ⟨p :: ps, by simp [pdL, a1, b1], by simp [PyData.plainAll, a2, b2], by simp [PyData.depthAll, depL, a3, b3]⟩
end
theorem pdL_cons {x : D} {xs : List D} {ps : List PyData} (h : pdL (x :: xs) = some ps) : ∃ p qs, ps = p :: qs ∧ x.pd = some p ∧ pdL xs = some qs := by
  simp only [pdL] at h
  split at h
  · rename_i p qs a b
    cases h
    exact ⟨p, qs, rfl, a, b⟩
  · cases h
theorem pd_lst {xs : List D} {p : PyData} (h : (D.lst xs).pd = some p) : ∃ ps, p = .list ps ∧ pdL xs = some ps := by
  simp only [D.pd] at h
  obtain ⟨ps, a, b⟩ := Option.map_eq_some_iff.mp h
  exact ⟨ps, b.symm, a⟩
theorem pd_tup {xs : List D} {p : PyData} (h : (D.tup xs).pd = some p) : ∃ ps, p = .tuple ps ∧ pdL xs = some ps := by
  simp only [D.pd] at h
  obtain ⟨ps, a, b⟩ := Option.map_eq_some_iff.mp h
  exact ⟨ps, b.symm, a⟩
mutual
theorem D.eqv_pd : ∀ (d e : D) (p q : PyData), d.pd = some p → e.pd = some q → PyData.eqv p q = D.eqv d e
  | .non, e, p, q, h1, h2 => by
    cases h1
    cases e <;> first
      | (cases h2; rfl)
      | (obtain ⟨_, rfl, _⟩ := pd_lst h2; rfl)
      | (obtain ⟨_, rfl, _⟩ := pd_tup h2; rfl)
      | (exact absurd h2 (by simp [D.pd]))
  | .bl b, e, p, q, h1, h2 => by
    cases h1
    cases e <;> first
      | (cases h2; rfl)
      | (cases h2; simp [PyData.eqv, D.eqv]; done)
      | (obtain ⟨_, rfl, _⟩ := pd_lst h2; rfl)
      | (obtain ⟨_, rfl, _⟩ := pd_tup h2; rfl)
      | (exact absurd h2 (by simp [D.pd]))
  | .int b, e, p, q, h1, h2 => by
    cases h1
    cases e <;> first
      | (cases h2; rfl)
      | (cases h2; simp [PyData.eqv, D.eqv]; done)
      | (obtain ⟨_, rfl, _⟩ := pd_lst h2; rfl)
      | (obtain ⟨_, rfl, _⟩ := pd_tup h2; rfl)
      | (exact absurd h2 (by simp [D.pd]))
  | .str b, e, p, q, h1, h2 => by
    cases h1
    cases e <;> first
      | (cases h2; rfl)
      | (cases h2; simp [PyData.eqv, D.eqv]; done)
      | (obtain ⟨_, rfl, _⟩ := pd_lst h2; rfl)
      | (obtain ⟨_, rfl, _⟩ := pd_tup h2; rfl)
      | (exact absurd h2 (by simp [D.pd]))
  | .lst xs, e, p, q, h1, h2 => by
    obtain ⟨ps, rfl, g1⟩ := pd_lst h1
    cases e with
    | lst ys =>
      obtain ⟨qs, rfl, g2⟩ := pd_lst h2
      simp only [PyData.eqv, D.eqv]
      exact eqvL_pd xs ys ps qs g1 g2
    | tup ys => obtain ⟨_, rfl, _⟩ := pd_tup h2; rfl
    | dct _ _ => exact absurd h2 (by simp [D.pd])
    | obj _ _ => exact absurd h2 (by simp [D.pd])
    | kl _ => exact absurd h2 (by simp [D.pd])
    | _ => cases h2; rfl
  | .tup xs, e, p, q, h1, h2 => by
    obtain ⟨ps, rfl, g1⟩ := pd_tup h1
    cases e with
    | tup ys =>
      obtain ⟨qs, rfl, g2⟩ := pd_tup h2
      simp only [PyData.eqv, D.eqv]
      exact eqvL_pd xs ys ps qs g1 g2
    | lst ys => obtain ⟨_, rfl, _⟩ := pd_lst h2; rfl
    | dct _ _ => exact absurd h2 (by simp [D.pd])
    | obj _ _ => exact absurd h2 (by simp [D.pd])
    | kl _ => exact absurd h2 (by simp [D.pd])
    | _ => cases h2; rfl
  | .dct _ _, _, _, _, h1, _ => absurd h1 (by simp [D.pd])
  | .obj _ _, _, _, _, h1, _ => absurd h1 (by simp [D.pd])
  | .kl _, _, _, _, h1, _ => absurd h1 (by simp [D.pd])
theorem eqvL_pd : ∀ (d e : List D) (p q : List PyData), pdL d = some p → pdL e = some q → PyData.eqvAll p q = eqvL d e
  | [], [], _, _, h1, h2 => by cases h1; cases h2; rfl
  | [], y :: ys, _, _, h1, h2 => by
    cases h1
    obtain ⟨_, _, rfl, _⟩ := pdL_cons h2
    rfl
  | x :: xs, [], _, _, h1, h2 => by
    cases h2
    obtain ⟨_, _, rfl, _⟩ := pdL_cons h1
    rfl
  | x :: xs, y :: ys, _, _, h1, h2 => by
    obtain ⟨p, ps, rfl, a1, a2⟩ := pdL_cons h1
    obtain ⟨q, qs, rfl, b1, b2⟩ := pdL_cons h2
    simp only [PyData.eqvAll, eqvL]
    rw [D.eqv_pd x y p q a1 b1, eqvL_pd xs ys ps qs a2 b2]
end
/-- two trees that == may tell apart -/
def eqOk (d e : D) : Bool := d.plain && (e.plain && decide (min d.dep e.dep ≤ 60))
def dEq (d e : D) : Option OV := if eqOk d e = true then some (.val (.bl (D.eqv d e))) else none
def dNe (d e : D) : Option OV := if eqOk d e = true then some (.val (.bl (!D.eqv d e))) else none
theorem eqOk_at {d e : D} (h : eqOk d e = true) : ∃ p q, d.pd = some p ∧ e.pd = some q ∧ p.plain = true ∧ q.plain = true ∧ min p.depth q.depth ≤ 60 := by
  simp only [eqOk, Bool.and_eq_true, decide_eq_true_eq] at h
  obtain ⟨p, a1, a2, a3⟩ := d.pd_plain h.1
  obtain ⟨q, b1, b2, b3⟩ := e.pd_plain h.2.1
  exact ⟨p, q, a1, b1, a2, b2, by rw [a3, b3]; exact h.2.2⟩
section
variable {X : Cx}
theorem opT_eq (hu : X.A.units + 64 < cLine) : OpT X (compareOp .Eq) dEq := by
  intro pins s σ H x y v u Q I rx ry ⟨G, d, e, o, sb, rd, re, hq, k⟩
  unfold dEq at hq
  split at hq
  · cases hq
    rename_i hz
    obtain ⟨p, q, h1, h2, h3, h4, h5⟩ := eqOk_at hz
    obtain ⟨as, r1⟩ := Dp.reads I p x v (Rep.dp d x p (rd.all sb) h1) rx
    obtain ⟨bs, r2⟩ := Dp.reads I q y u (Rep.dp e y q (re.all sb) h2) ry
    refine SeqAt.eq_plain r1 r2 h3 h4 (by omega) ⟨.bl _, H, I, rfl, ?_⟩
    rw [D.eqv_pd d e p q h1 h2]
    exact k.val sb (.bl _)
  · cases hq
theorem opT_ne (hu : X.A.units + 64 < cLine) : OpT X (compareOp .NotEq) dNe := by
  intro pins s σ H x y v u Q I rx ry ⟨G, d, e, o, sb, rd, re, hq, k⟩
  unfold dNe at hq
  split at hq
  · cases hq
    rename_i hz
    obtain ⟨p, q, h1, h2, h3, h4, h5⟩ := eqOk_at hz
    obtain ⟨as, r1⟩ := Dp.reads I p x v (Rep.dp d x p (rd.all sb) h1) rx
    obtain ⟨bs, r2⟩ := Dp.reads I q y u (Rep.dp e y q (re.all sb) h2) ry
    refine SeqAt.ne_plain r1 r2 h3 h4 (by omega) ⟨.bl _, H, I, rfl, ?_⟩
    rw [D.eqv_pd d e p q h1 h2]
    exact k.val sb (.bl _)
  · cases hq
end

/-! order -/
def pdN : PyData → Bool
  | .none => false
  | _ => true
/-- two trees of one kind that < may tell apart, not None -/
def ltOk (d e : D) : Option (PyData × PyData) := match d.pd, e.pd with
  | some p, some q => if PySem.W.alike p q = true ∧ min p.depth q.depth ≤ 60 ∧ pdN p = true then some (p, q) else none
  | _, _ => none
def dCmp (f : PyData → PyData → Bool) (d e : D) : Option OV := (ltOk d e).map fun pq => .val (.bl (f pq.1 pq.2))
def dLt : D → D → Option OV
  | .int i, .int j => some (.val (.bl (decide (i < j))))
  | .str i, .str j => some (.val (.bl (decide (i.cps.toList < j.cps.toList))))
  | d, e => dCmp (fun p q => PySem.W.dataLt p q) d e
def dGt : D → D → Option OV
  | .int i, .int j => some (.val (.bl (decide (j < i))))
  | .str i, .str j => some (.val (.bl (decide (j.cps.toList < i.cps.toList))))
  | d, e => dCmp (fun p q => PySem.W.dataLt q p) d e
def dLe : D → D → Option OV
  | .int i, .int j => some (.val (.bl (decide (i ≤ j))))
  | .str i, .str j => some (.val (.bl (!decide (j.cps.toList < i.cps.toList))))
  | d, e => dCmp (fun p q => !PySem.W.dataLt q p) d e
def dGe : D → D → Option OV
  | .int i, .int j => some (.val (.bl (decide (j ≤ i))))
  | .str i, .str j => some (.val (.bl (!decide (i.cps.toList < j.cps.toList))))
  | d, e => dCmp (fun p q => !PySem.W.dataLt p q) d e
theorem ltOk_at {d e : D} {p q : PyData} (h : ltOk d e = some (p, q)) : d.pd = some p ∧ e.pd = some q ∧ PySem.W.alike p q = true ∧ min p.depth q.depth ≤ 60 ∧ p ≠ .none := by
  unfold ltOk at h
  split at h
  · split at h
    · rename_i h3
      cases h
      rename_i h1 h2
      refine ⟨h1, h2, h3.1, h3.2.1, ?_⟩
      intro e
      subst e
      exact absurd h3.2.2 (by decide)
    · cases h
  · cases h
section
variable {X : Cx}
theorem cmp_at {f : PyData → PyData → Bool} {op : CmpOp} (hu : X.A.units + 64 < cLine)
    (rule : ∀ {s : Shared} {a b : Value} {da db : PyData} {as bs : List Addr} {Q : Value → Shared → Prop}, Reads s.heap a da as → Reads s.heap b db bs → PySem.W.alike da db = true → da ≠ .none → X.A.units + min da.depth db.depth < cLine →
      Q (.bool (f da db)) s → wpAny (model X.prog X.w) X.A (compareOp op a b) Q X.xe s)
    {pins : List (Addr × Obj)} {s : Shared} {σ : St} {H : Hp} {x y : V} {v u : Value} {Q : VK} (I : Inv X pins σ H s) (rx : RelV x v) (ry : RelV y u) {G : Hp} {d e : D} {o : OV} (sb : Sub G H) (rd : RepK X.K G H x d) (re : RepK X.K G H y e)
    (hq : dCmp f d e = some o) (k : Post X.K G H o Q) : wpAny (model X.prog X.w) X.A (compareOp op v u) (EP X pins σ Q) X.xe s := by
  obtain ⟨⟨p, q⟩, h1, h2⟩ := Option.map_eq_some_iff.mp hq
  cases h2
  obtain ⟨a1, a2, a3, a4, a5⟩ := ltOk_at h1
  obtain ⟨as, r1⟩ := Dp.reads I p x v (Rep.dp d x p (rd.all sb) a1) rx
  obtain ⟨bs, r2⟩ := Dp.reads I q y u (Rep.dp e y q (re.all sb) a2) ry
  exact rule r1 r2 a3 a5 (by omega) ⟨.bl _, H, I, rfl, k.val sb (.bl _)⟩
theorem opT_lt (hu : X.A.units + 64 < cLine) : OpT X (compareOp .Lt) dLt := by
  intro pins s σ H x y v u Q I rx ry ⟨G, d, e, o, sb, rd, re, hq, k⟩
  unfold dLt at hq
  split at hq
  · cases hq
    exact op_lt pins s σ H x y v u Q I rx ry ⟨_, _, rd.int, re.int, k.val sb (.bl _)⟩
  · cases hq
    exact op_lt_str pins s σ H x y v u Q I rx ry ⟨_, _, rd.str, re.str, k.val sb (.bl _)⟩
  · exact cmp_at hu (fun r1 r2 h1 h2 h3 hq => PySem.W.lt_data r1 r2 h1 h2 h3 hq) I rx ry sb rd re hq k
theorem opT_gt (hu : X.A.units + 64 < cLine) : OpT X (compareOp .Gt) dGt := by
  intro pins s σ H x y v u Q I rx ry ⟨G, d, e, o, sb, rd, re, hq, k⟩
  unfold dGt at hq
  split at hq
  · cases hq
    exact op_gt pins s σ H x y v u Q I rx ry ⟨_, _, rd.int, re.int, k.val sb (.bl _)⟩
  · cases hq
    exact op_gt_str pins s σ H x y v u Q I rx ry ⟨_, _, rd.str, re.str, k.val sb (.bl _)⟩
  · exact cmp_at hu (fun r1 r2 h1 h2 h3 hq => PySem.W.gt_data r1 r2 h1 h2 h3 hq) I rx ry sb rd re hq k
theorem opT_le (hu : X.A.units + 64 < cLine) : OpT X (compareOp .LtE) dLe := by
  intro pins s σ H x y v u Q I rx ry ⟨G, d, e, o, sb, rd, re, hq, k⟩
  unfold dLe at hq
  split at hq
  · cases hq
    exact op_le pins s σ H x y v u Q I rx ry ⟨_, _, rd.int, re.int, k.val sb (.bl _)⟩
  · cases hq
    exact op_le_str pins s σ H x y v u Q I rx ry ⟨_, _, rd.str, re.str, k.val sb (.bl _)⟩
  · exact cmp_at hu (fun r1 r2 h1 h2 h3 hq => PySem.W.le_data r1 r2 h1 h2 h3 hq) I rx ry sb rd re hq k
theorem opT_ge (hu : X.A.units + 64 < cLine) : OpT X (compareOp .GtE) dGe := by
  intro pins s σ H x y v u Q I rx ry ⟨G, d, e, o, sb, rd, re, hq, k⟩
  unfold dGe at hq
  split at hq
  · cases hq
    exact op_ge pins s σ H x y v u Q I rx ry ⟨_, _, rd.int, re.int, k.val sb (.bl _)⟩
  · cases hq
    exact op_ge_str pins s σ H x y v u Q I rx ry ⟨_, _, rd.str, re.str, k.val sb (.bl _)⟩
  · exact cmp_at hu (fun r1 r2 h1 h2 h3 hq => PySem.W.ge_data r1 r2 h1 h2 h3 hq) I rx ry sb rd re hq k
end
/-- is None; is of two truth values -/
def dIs : D → D → Option OV
  | .non, .non => some (.val (.bl true))
  | _, .non => some (.val (.bl false))
  | .bl a, .bl b => some (.val (.bl (decide (a = b))))
  | _, _ => none
def dIsnt : D → D → Option OV
  | .non, .non => some (.val (.bl false))
  | _, .non => some (.val (.bl true))
  | .bl a, .bl b => some (.val (.bl (!decide (a = b))))
  | _, _ => none
theorem RepK.notnon {K : PySem.W.Frag} {G H : Hp} {v : V} {d : D} (h : RepK K G H v d) (n : d ≠ .non) : v ≠ .non := by
  rintro rfl
  rcases h with h | ⟨p, e, _⟩
  · cases h; exact n rfl
  · cases e
section
variable {X : Cx}
theorem opT_is : OpT X (compareOp .Is) dIs := by
  intro pins s σ H x y v u Q I rx ry ⟨G, d, e, o, sb, rd, re, hq, k⟩
  unfold dIs at hq
  split at hq
  · cases hq
    cases rd.non
    exact op_isN pins s σ H _ y v u Q I rx ry ⟨re.non, k.val sb (.bl _)⟩
  · cases hq
    rename_i n
    refine op_isN pins s σ H x y v u Q I rx ry ⟨re.non, ?_⟩
    rw [decide_eq_false (rd.notnon n)]
    exact k.val sb (.bl _)
  · cases hq
    exact op_isBl pins s σ H x y v u Q I rx ry ⟨_, _, rd.bl, re.bl, k.val sb (.bl _)⟩
  · cases hq
theorem opT_isnt : OpT X (compareOp .IsNot) dIsnt := by
  intro pins s σ H x y v u Q I rx ry ⟨G, d, e, o, sb, rd, re, hq, k⟩
  unfold dIsnt at hq
  split at hq
  · cases hq
    cases rd.non
    exact op_notN pins s σ H _ y v u Q I rx ry ⟨re.non, k.val sb (.bl _)⟩
  · cases hq
    rename_i n
    refine op_notN pins s σ H x y v u Q I rx ry ⟨re.non, ?_⟩
    rw [decide_eq_false (rd.notnon n)]
    exact k.val sb (.bl _)
  · cases hq
    exact op_notBl pins s σ H x y v u Q I rx ry ⟨_, _, rd.bl, re.bl, k.val sb (.bl _)⟩
  · cases hq
end

/-! ### dicts by trees -/
def kEq1 : D → D → Bool
  | .int i, .int j => decide (i = j)
  | .str a, .str b => decide (a = b)
  | _, _ => false
def kEqL : List D → List D → Bool
  | [], [] => true
  | x :: xs, y :: ys => kEq1 x y && kEqL xs ys
  | _, _ => false
def kEq : D → D → Bool
  | .tup xs, .tup ys => kEqL xs ys
  | x, y => kEq1 x y
def isKey1 : D → Bool
  | .int _ => true
  | .str _ => true
  | _ => false
/-- a key of a dict of this kind -/
def isKey : Bool → D → Bool
  | false, x => isKey1 x
  | true, .tup ys => ys.all isKey1
  | true, _ => false
def kvGet (kvs : List (D × D)) (y : D) : Option D := (kvs.find? fun kv => kEq kv.1 y).map (·.2)
def kvPut (kvs : List (D × D)) (y v : D) : List (D × D) := if (kvs.any fun kv => kEq kv.1 y) = true then kvs.map (fun kv => if kEq kv.1 y = true then (kv.1, v) else kv) else kvs ++ [(y, v)]
def kvDrop (kvs : List (D × D)) (y : D) : List (D × D) := kvs.filter fun kv => !kEq kv.1 y
theorem kEq1_kD (a b : Key) : kEq1 (kD a) (kD b) = decide (a = b) := by
  cases a <;> cases b <;> simp [kEq1, kD]
theorem kEq_kD (a b : Key) : kEq (kD a) (kD b) = decide (a = b) := by
  rw [← kEq1_kD]
  cases a <;> cases b <;> rfl
theorem kEqL_kD : ∀ a b : List Key, kEqL (a.map kD) (b.map kD) = decide (a = b)
  | [], [] => rfl
  | [], _ :: _ => rfl
  | _ :: _, [] => rfl
  | x :: xs, y :: ys => by
    simp only [List.map_cons, kEqL, kEq1_kD, kEqL_kD xs ys]
    simp
theorem kEq_kT (a b : List Key) : kEq (.tup (a.map kD)) (.tup (b.map kD)) = decide (a = b) := kEqL_kD a b
theorem isKey1_kD {y : D} (h : isKey1 y = true) : ∃ k, y = kD k := by
  cases y with
  | int i => exact ⟨.inl i, rfl⟩
  | str i => exact ⟨.inr i, rfl⟩
  | _ => cases h
theorem isKeyL_kD : ∀ {ys : List D}, ys.all isKey1 = true → ∃ ks : List Key, ys = ks.map kD
  | [], _ => ⟨[], rfl⟩
  | y :: ys, h => by
    simp only [List.all_cons, Bool.and_eq_true] at h
    obtain ⟨k, rfl⟩ := isKey1_kD h.1
    obtain ⟨ks, rfl⟩ := isKeyL_kD h.2
    exact ⟨k :: ks, rfl⟩
theorem isKey_T {y : D} (h : isKey true y = true) : ∃ ks : List Key, y = .tup (ks.map kD) := by
  cases y with
  | tup ys =>
    obtain ⟨ks, rfl⟩ := isKeyL_kD (show ys.all isKey1 = true from h)
    exact ⟨ks, rfl⟩
  | _ => cases h
section
variable {K : PySem.W.Frag} {G H : Hp}
theorem RepK.kV {v : V} {k : Key} (h : RepK K G H v (kD k)) : v = kV k := by
  cases k with
  | inl i => exact h.int
  | inr x => exact h.str
theorem RepL.kVs : ∀ {vs : List V} {ks : List Key}, RepL K G vs (ks.map kD) → vs = ks.map kV
  | _, [], .nil => rfl
  | _, k :: ks, .cons h r => by
    simp only [List.map_cons]
    rw [RepL.kVs r]
    cases k with
    | inl i => cases h; rfl
    | inr i => cases h; rfl
/-- an answer of a dict -/
def RepOpt (K : PySem.W.Frag) (G : Hp) : Option V → Option D → Prop
  | some v, some d => Rep K G v d
  | none, none => True
  | _, _ => False
theorem RepD.get {k : Key} : ∀ {vs : List (Key × V)} {ds : List (D × D)}, RepD K G vs ds → RepOpt K G (valV vs k) (kvGet ds (kD k))
  | _, _, .nil => trivial
  | (j, v) :: vs, _, .cons h r => by
    have ih := RepD.get (k := k) r
    unfold kvGet at ih ⊢
    rw [List.find?_cons]
    by_cases e : j = k
    · rw [valV_pos e, show kEq (kD j) (kD k) = true by rw [kEq_kD]; exact decide_eq_true e]
      exact h
    · rw [valV_neg e, show kEq (kD j) (kD k) = false by rw [kEq_kD]; exact decide_eq_false e]
      exact ih
theorem RepT.get {k : List Key} : ∀ {vs : List (List Key × V)} {ds : List (D × D)}, RepT K G vs ds → RepOpt K G (valV vs k) (kvGet ds (.tup (k.map kD)))
  | _, _, .nil => trivial
  | (j, v) :: vs, _, .cons h r => by
    have ih := RepT.get (k := k) r
    unfold kvGet at ih ⊢
    rw [List.find?_cons]
    by_cases e : j = k
    · rw [valV_pos e, show kEq (.tup (j.map kD)) (.tup (k.map kD)) = true by rw [kEq_kT]; exact decide_eq_true e]
      exact h
    · rw [valV_neg e, show kEq (.tup (j.map kD)) (.tup (k.map kD)) = false by rw [kEq_kT]; exact decide_eq_false e]
      exact ih
theorem RepD.append : ∀ {vs ws : List (Key × V)} {ds es : List (D × D)}, RepD K G vs ds → RepD K G ws es → RepD K G (vs ++ ws) (ds ++ es)
  | _, _, _, _, .nil, s => s
  | _, _, _, _, .cons h r, s => .cons h (r.append s)
theorem RepT.append : ∀ {vs ws : List (List Key × V)} {ds es : List (D × D)}, RepT K G vs ds → RepT K G ws es → RepT K G (vs ++ ws) (ds ++ es)
  | _, _, _, _, .nil, s => s
  | _, _, _, _, .cons h r, s => .cons h (r.append s)
theorem RepD.any {k : Key} : ∀ {vs : List (Key × V)} {ds : List (D × D)}, RepD K G vs ds → (vs.any fun kv => decide (kv.1 = k)) = ds.any fun kv => kEq kv.1 (kD k)
  | _, _, .nil => rfl
  | _, _, .cons h r => by rw [List.any_cons, List.any_cons, RepD.any r, kEq_kD]
theorem RepT.any {k : List Key} : ∀ {vs : List (List Key × V)} {ds : List (D × D)}, RepT K G vs ds → (vs.any fun kv => decide (kv.1 = k)) = ds.any fun kv => kEq kv.1 (.tup (k.map kD))
  | _, _, .nil => rfl
  | _, _, .cons h r => by rw [List.any_cons, List.any_cons, RepT.any r, kEq_kT]
theorem RepD.repl {k : Key} {v : V} {d : D} (hv : Rep K G v d) : ∀ {vs : List (Key × V)} {ds : List (D × D)}, RepD K G vs ds → RepD K G (vs.map fun kv => if kv.1 = k then (kv.1, v) else kv) (ds.map fun kv => if kEq kv.1 (kD k) = true then (kv.1, d) else kv)
  | _, _, .nil => .nil
  | (j, w) :: vs, _, .cons h r => by
    simp only [List.map_cons]
    by_cases e : j = k
    · rw [if_pos e, if_pos (show kEq (kD j) (kD k) = true by rw [kEq_kD]; exact decide_eq_true e)]
      exact .cons hv (RepD.repl hv r)
    · rw [if_neg e, if_neg (show ¬ kEq (kD j) (kD k) = true by rw [kEq_kD]; simpa using e)]
      exact .cons h (RepD.repl hv r)
theorem RepT.repl {k : List Key} {v : V} {d : D} (hv : Rep K G v d) : ∀ {vs : List (List Key × V)} {ds : List (D × D)}, RepT K G vs ds → RepT K G (vs.map fun kv => if kv.1 = k then (kv.1, v) else kv) (ds.map fun kv => if kEq kv.1 (.tup (k.map kD)) = true then (kv.1, d) else kv)
  | _, _, .nil => .nil
  | (j, w) :: vs, _, .cons h r => by
    simp only [List.map_cons]
    by_cases e : j = k
    · rw [if_pos e, if_pos (show kEq (.tup (j.map kD)) (.tup (k.map kD)) = true by rw [kEq_kT]; exact decide_eq_true e)]
      exact .cons hv (RepT.repl hv r)
    · rw [if_neg e, if_neg (show ¬ kEq (.tup (j.map kD)) (.tup (k.map kD)) = true by rw [kEq_kT]; simpa using e)]
      exact .cons h (RepT.repl hv r)
theorem RepD.put {k : Key} {v : V} {d : D} (hv : Rep K G v d) {vs : List (Key × V)} {ds : List (D × D)} (r : RepD K G vs ds) : RepD K G (putK vs k v) (kvPut ds (kD k) d) := by
  unfold putK kvPut
  rw [r.any (k := k)]
  split
  · exact r.repl hv
  · exact r.append (.cons hv .nil)
theorem RepT.put {k : List Key} {v : V} {d : D} (hv : Rep K G v d) {vs : List (List Key × V)} {ds : List (D × D)} (r : RepT K G vs ds) : RepT K G (putK vs k v) (kvPut ds (.tup (k.map kD)) d) := by
  unfold putK kvPut
  rw [r.any (k := k)]
  split
  · exact r.repl hv
  · exact r.append (.cons hv .nil)
theorem RepD.length : ∀ {vs : List (Key × V)} {ds : List (D × D)}, RepD K G vs ds → vs.length = ds.length
  | _, _, .nil => rfl
  | _, _, .cons _ r => by simp [r.length]
theorem RepT.length : ∀ {vs : List (List Key × V)} {ds : List (D × D)}, RepT K G vs ds → vs.length = ds.length
  | _, _, .nil => rfl
  | _, _, .cons _ r => by simp [r.length]
theorem RepD.dropK {k : Key} : ∀ {vs : List (Key × V)} {ds : List (D × D)}, RepD K G vs ds → RepD K G (L2.dropK vs k) (kvDrop ds (kD k))
  | _, _, .nil => .nil
  | (j, w) :: vs, _, .cons h r => by
    have ih := RepD.dropK (k := k) r
    unfold L2.dropK kvDrop at ih ⊢
    by_cases e : j = k
    · rw [List.filter_cons_of_neg (by simpa using e), List.filter_cons_of_neg (by rw [kEq_kD]; simpa using e)]
      exact ih
    · rw [List.filter_cons_of_pos (by simpa using e), List.filter_cons_of_pos (by rw [kEq_kD]; simpa using e)]
      exact .cons h ih
/-- what a dict answers, at the heap -/
theorem dget_at {t : Bool} {v y : V} {ds : List (D × D)} {e : D} (sb : Sub G H) (rd : RepK K G H v (.dct t ds)) (re : RepK K G H y e) (hk : isKey t e = true) :
    ∃ a ov, v = .ref a ∧ DGet H a y ov ∧ RepOpt K G ov (kvGet ds e) := by
  cases t with
  | false =>
    obtain ⟨k, rfl⟩ := isKey1_kD (show isKey1 e = true by simpa [isKey] using hk)
    obtain ⟨a, kvs, rfl, h1, h2⟩ := rd.dK sb
    exact ⟨a, _, rfl, .inl ⟨kvs, k, h1, re.kV, rfl⟩, h2.get⟩
  | true =>
    obtain ⟨ks, rfl⟩ := isKey_T hk
    obtain ⟨a, kvs, rfl, h1, h2⟩ := rd.dT sb
    obtain ⟨b, vs, rfl, h3, h4⟩ := re.tup sb
    rw [h4.kVs] at h3
    exact ⟨a, _, rfl, .inr ⟨kvs, ks, b, h1, rfl, h3, rfl⟩, h2.get⟩
end
end L2.Tl

set_option Elab.async false
set_option linter.all false
set_option autoImplicit false
set_option maxRecDepth 100000
namespace L2.Tl
open PySem PySem.Spec PyProof.Rows

/-! ### in, not in -/
def inOk (x : D) (ys : List D) : Bool := x.plain && (plainL ys && decide (min (depL ys) x.dep ≤ 60))
def dMem : D → D → Option Bool
  | x, .lst ys => if inOk x ys = true then some (ys.any fun y => D.eqv y x) else none
  | x, .tup ys => if inOk x ys = true then some (ys.any fun y => D.eqv y x) else none
  | x, .dct t kvs => if isKey t x = true then some (kvGet kvs x).isSome else none
  | .str a, .str b => some (!(Builtin.Str.occurrences b a 0 b.length 1).isEmpty)
  | _, _ => none
def dIn (x c : D) : Option OV := (dMem x c).map fun b => .val (.bl b)
def dNotIn (x c : D) : Option OV := (dMem x c).map fun b => .val (.bl (!b))
theorem any_pd : ∀ {ys : List D} {ps : List PyData} {x : D} {p : PyData}, pdL ys = some ps → x.pd = some p → (ps.any fun q => PyData.eqv q p) = ys.any fun y => D.eqv y x
  | [], _, _, _, h, _ => by cases h; rfl
  | y :: ys, _, x, p, h, hx => by
    obtain ⟨q, qs, rfl, a, b⟩ := pdL_cons h
    rw [List.any_cons, List.any_cons, any_pd b hx, D.eqv_pd y x q p a hx]
theorem inOk_at {x : D} {ys : List D} (h : inOk x ys = true) : ∃ p ps, x.pd = some p ∧ pdL ys = some ps ∧ p.plain = true ∧ PyData.plainAll ps = true ∧ min (PyData.depthAll ps) p.depth ≤ 60 := by
  simp only [inOk, Bool.and_eq_true, decide_eq_true_eq] at h
  obtain ⟨p, a1, a2, a3⟩ := x.pd_plain h.1
  obtain ⟨ps, b1, b2, b3⟩ := pdL_plain ys h.2.1
  exact ⟨p, ps, a1, b1, a2, b2, by rw [a3, b3]; exact h.2.2⟩
theorem repOpt_isSome {K : PySem.W.Frag} {G : Hp} {o : Option V} {d : Option D} (h : RepOpt K G o d) : o.isSome = d.isSome := by
  cases o <;> cases d <;> first | rfl | exact h.elim
section
variable {X : Cx}
theorem opT_in (hu : X.A.units + 64 < cLine) : OpT X (compareOp .In) dIn := by
  intro pins s σ H x y v u Q I rx ry ⟨G, d, e, o, sb, rd, re, hq, k⟩
  obtain ⟨b, hb, e1⟩ := Option.map_eq_some_iff.mp hq
  cases e1
  unfold dMem at hb
  split at hb
  · split at hb
    · cases hb
      rename_i hz
      obtain ⟨p, ps, h1, h2, h3, h4, h5⟩ := inOk_at hz
      obtain ⟨as, r1⟩ := Dp.reads I p x v (Rep.dp _ x p (rd.all sb) h1) rx
      obtain ⟨bs, r2⟩ := Dp.reads I (.list ps) y u (Rep.dp _ y _ (re.all sb) (by simp [D.pd, h2])) ry
      refine SeqAt.in_list_data r2 r1 h4 h3 (by omega) ⟨.bl _, H, I, rfl, ?_⟩
      rw [any_pd h2 h1]
      exact k.val sb (.bl _)
    · cases hb
  · split at hb
    · cases hb
      rename_i hz
      obtain ⟨p, ps, h1, h2, h3, h4, h5⟩ := inOk_at hz
      obtain ⟨as, r1⟩ := Dp.reads I p x v (Rep.dp _ x p (rd.all sb) h1) rx
      obtain ⟨bs, r2⟩ := Dp.reads I (.tuple ps) y u (Rep.dp _ y _ (re.all sb) (by simp [D.pd, h2])) ry
      refine SeqAt.in_tuple_data r2 r1 h4 h3 (by omega) ⟨.bl _, H, I, rfl, ?_⟩
      rw [any_pd h2 h1]
      exact k.val sb (.bl _)
    · cases hb
  · split at hb
    · cases hb
      rename_i hz
      obtain ⟨a, ov, rfl, h1, h2⟩ := dget_at sb re rd hz
      cases ry
      refine d_in (by omega) I h1 rx fun s' I' => ⟨.bl _, H, I', rfl, ?_⟩
      rw [repOpt_isSome h2]
      exact k.val sb (.bl _)
    · cases hb
  · cases hb
    exact op_in_str pins s σ H x y v u Q I rx ry ⟨_, _, rd.str, re.str, k.val sb (.bl _)⟩
  · cases hb
theorem opT_notIn (hu : X.A.units + 64 < cLine) : OpT X (compareOp .NotIn) dNotIn := by
  intro pins s σ H x y v u Q I rx ry ⟨G, d, e, o, sb, rd, re, hq, k⟩
  obtain ⟨b, hb, e1⟩ := Option.map_eq_some_iff.mp hq
  cases e1
  unfold dMem at hb
  split at hb
  · split at hb
    · cases hb
      rename_i hz
      obtain ⟨p, ps, h1, h2, h3, h4, h5⟩ := inOk_at hz
      obtain ⟨as, r1⟩ := Dp.reads I p x v (Rep.dp _ x p (rd.all sb) h1) rx
      obtain ⟨bs, r2⟩ := Dp.reads I (.list ps) y u (Rep.dp _ y _ (re.all sb) (by simp [D.pd, h2])) ry
      refine SeqAt.notIn_list_data r2 r1 h4 h3 (by omega) ⟨.bl _, H, I, rfl, ?_⟩
      rw [any_pd h2 h1]
      exact k.val sb (.bl _)
    · cases hb
  · split at hb
    · cases hb
      rename_i hz
      obtain ⟨p, ps, h1, h2, h3, h4, h5⟩ := inOk_at hz
      obtain ⟨as, r1⟩ := Dp.reads I p x v (Rep.dp _ x p (rd.all sb) h1) rx
      obtain ⟨bs, r2⟩ := Dp.reads I (.tuple ps) y u (Rep.dp _ y _ (re.all sb) (by simp [D.pd, h2])) ry
      refine SeqAt.notIn_tuple_data r2 r1 h4 h3 (by omega) ⟨.bl _, H, I, rfl, ?_⟩
      rw [any_pd h2 h1]
      exact k.val sb (.bl _)
    · cases hb
  · split at hb
    · cases hb
      rename_i hz
      obtain ⟨a, ov, rfl, h1, h2⟩ := dget_at sb re rd hz
      cases ry
      refine d_notIn (by omega) I h1 rx fun s' I' => ⟨.bl _, H, I', rfl, ?_⟩
      rw [repOpt_isSome h2]
      exact k.val sb (.bl _)
    · cases hb
  · cases hb
    exact op_notin_str pins s σ H x y v u Q I rx ry ⟨_, _, rd.str, re.str, k.val sb (.bl _)⟩
  · cases hb
end

/-! ### items -/
def dIx : D → D → Option OV
  | .lst xs, .int i => (atI xs i).map .val
  | .tup xs, .int i => (atI xs i).map .val
  | .str z, .int i => if z.length ≤ sizeLine then (atI z.cps.toList i).map fun c => .val (.str ⟨#[c]⟩) else none
  | .dct t kvs, y => if isKey t y = true then (kvGet kvs y).map .val else none
  | _, _ => none
theorem RepL.atI {K : PySem.W.Frag} {G : Hp} {vs : List V} {ds : List D} (r : RepL K G vs ds) {i : Int} {d : D} (h : L2.atI ds i = some d) : ∃ v, L2.atI vs i = some v ∧ Rep K G v d := by
  unfold L2.atI at h ⊢
  rw [r.length]
  obtain ⟨j, h1, h2⟩ := Option.bind_eq_some_iff.mp h
  obtain ⟨v, h3, h4⟩ := r.get h2
  exact ⟨v, by rw [h1]; exact h3, h4⟩
section
variable {X : Cx}
theorem ixT (hu : X.A.units + 64 < cLine) : IxR X (rT X.K dIx) := by
  intro value slice pins s σ H x y v u Q I rx ry ⟨G, d, e, o, sb, rd, re, hq, k⟩ hs
  unfold dIx at hq
  split at hq
  · obtain ⟨z, h1, e1⟩ := Option.map_eq_some_iff.mp hq
    cases e1
    obtain ⟨a, vs, rfl, h2, h3⟩ := rd.lst sb
    obtain ⟨w, h4, h5⟩ := h3.atI h1
    exact ix_list value slice pins s σ H _ y v u Q I rx ry ⟨a, vs, _, w, rfl, re.int, .inl h2, h4, k.val sb h5⟩ hs
  · obtain ⟨z, h1, e1⟩ := Option.map_eq_some_iff.mp hq
    cases e1
    obtain ⟨a, vs, rfl, h2, h3⟩ := rd.tup sb
    obtain ⟨w, h4, h5⟩ := h3.atI h1
    exact ix_tup value slice pins s σ H _ y v u Q I rx ry ⟨a, vs, _, w, rfl, re.int, SqT.of h2, h4, k.val sb h5⟩ hs
  · split at hq
    · rename_i hz
      obtain ⟨z, h1, e1⟩ := Option.map_eq_some_iff.mp hq
      cases e1
      exact ix_str value slice pins s σ H _ y v u Q I rx ry ⟨_, _, _, rd.str, re.int, hz, h1, k.val sb (.str _)⟩ hs
    · cases hq
  · split at hq
    · rename_i hz
      obtain ⟨z, h1, e1⟩ := Option.map_eq_some_iff.mp hq
      cases e1
      obtain ⟨a, ov, rfl, g, h2⟩ := dget_at sb rd re hz
      rw [h1] at h2
      cases ov with
      | none => exact h2.elim
      | some w =>
        cases rx
        exact tail_any (dict_typeIs I g) PySem.F.slot_dict_getitem.lookup (d_getItem (by omega) I g ry fun w' s3 I3 rw' => ⟨w, H, I3, rw', k.val sb h2⟩) hs
    · cases hq
  · cases hq
theorem en_sub (hu : X.A.units + 64 < cLine) {a b : Expr} {fa fb : Fe} {pos : Pos} (ha : Ev X a fa) (hb : Ev X b fb) (hs : PlainIx b := by exact fun _ _ => rfl) : En X (.Subscript a b pos) (fOp2 dIx fa fb) := en_ix (ixT hu) ha hb hs
end

/-! ### slices -/
def fPart0 : Dl → Option (Option Int × Dl) := fun δ => some (none, δ)
def fPart (f : Fe) : Dl → Option (Option Int × Dl) := fun δ => (f δ).bind fun p => match p.1 with
  | .val (.int i) => some (some i, p.2)
  | _ => none
def cutD (xs : List D) (lo hi : Option Int) : List D := (xs.drop (HT.sIx xs.length 0 lo)).take (HT.sIx xs.length xs.length hi - HT.sIx xs.length 0 lo)
def dCut : D → Option Int → Option Int → Option OV
  | .lst xs, lo, hi => some (.new (.lst (cutD xs lo hi)))
  | .tup xs, lo, hi => some (.val (.tup (cutD xs lo hi)))
  | .str z, lo, hi => if z.length ≤ sizeLine then some (.val (.str (cutS z lo hi))) else none
  | .kl ns, lo, hi => some (.new (.lst (cutD (ns.map .int) lo hi)))
  | _, _, _ => none
def fCut (f : Fe) (fl fh : Dl → Option (Option Int × Dl)) : Fn := fun δ =>
  (f δ).bind fun p => (fl p.2).bind fun q => (fh q.2).bind fun r => (peek p.1 r.2).bind fun x => (dCut x q.1 r.1).map fun o => (o, r.2)
def rCutT (K : PySem.W.Frag) : V → Option Int → Option Int → Hp → VK → Prop := fun x lo hi H Q => ∃ G d o, Sub G H ∧ RepK K G H x d ∧ dCut d lo hi = some o ∧ Post K G H o Q
theorem RepL.cut {K : PySem.W.Frag} {G : Hp} {vs : List V} {ds : List D} (r : RepL K G vs ds) (lo hi : Option Int) : RepL K G (cutV vs lo hi) (cutD ds lo hi) := by
  unfold cutV cutD
  rw [r.length]
  exact (r.drop _).take _
theorem cutD_all (ds : List D) {lo hi : Option Int} (h : HT.sIx ds.length 0 lo = 0 ∧ HT.sIx ds.length ds.length hi = ds.length) : cutD ds lo hi = ds := by
  unfold cutD
  rw [h.1, h.2]
  simp
section
variable {X : Cx}
theorem slT : SlR X (rCutT X.K) := by
  intro pins s σ H x v vl vu lo hi sl Q I rx hs pl pu ⟨G, d, o, sb, rd, hq, k⟩
  unfold dCut at hq
  split at hq
  · cases hq
    obtain ⟨a, vs, rfl, h2, h3⟩ := rd.lst sb
    exact sl_list pins s σ H _ v vl vu _ _ sl Q I rx hs pl pu ⟨a, vs, rfl, .inl h2, fun p hp => k.lst sb (h3.cut _ _) hp⟩
  · cases hq
    obtain ⟨a, vs, rfl, h2, h3⟩ := rd.tup sb
    refine sl_tupA pins s σ H _ v vl vu _ _ sl Q I rx hs pl pu ⟨a, vs, rfl, SqT.of h2, fun hw => ?_, fun _ p hp => k.tup sb (h3.cut _ _) hp⟩
    rw [h3.length] at hw
    rw [cutD_all _ hw] at k
    rcases rd with rd | ⟨p, _, rd⟩
    · exact k.val sb rd
    · cases rd
  · split at hq
    · cases hq
      rename_i hz
      exact sl_str pins s σ H _ v vl vu _ _ sl Q I rx hs pl pu ⟨_, rd.str, hz, k.val sb (.str _)⟩
    · cases hq
  · cases hq
    obtain ⟨a, rfl, h2⟩ := rd.kl sb
    exact sl_list pins s σ H _ v vl vu _ _ sl Q I rx hs pl pu ⟨a, _, rfl, h2, fun p hp => k.lst sb ((RepL.of_ints _).cut _ _) hp⟩
  · cases hq
/-- a part of a slice -/
def tPartT (K : PySem.W.Frag) (f : Dl → Option (Option Int × Dl)) : TO := fun σ H Q => ∃ F G δ i δ', Sim K F G H σ δ ∧ f δ = some (i, δ') ∧ ∀ H' G', Sim K F G' H' σ δ' → Mv σ δ G H δ' G' H' → Q i H'
def Pt (X : Cx) (e : Option Expr) (f : Dl → Option (Option Int × Dl)) : Prop := PO X e (tPartT X.K f)
end
end L2.Tl

set_option Elab.async false
set_option linter.all false
set_option autoImplicit false
set_option maxRecDepth 100000
namespace L2.Tl
open PySem PySem.Spec PyProof.Rows
section
variable {X : Cx} {pos p2 : Pos}
/-! ### slices -/
theorem PO.imp {e : Option Expr} {t t' : TO} (h : PO X e t) (i : ∀ σ H Q, t' σ H Q → t σ H Q) : PO X e t' := ⟨fun pins s σ H Q I q => h.run pins s σ H Q I (i σ H Q q)⟩
theorem pt0 : Pt X none fPart0 := PO.imp po_none fun σ H Q ⟨F, G, δ, i, δ', S, e, k⟩ => by
  cases e
  exact k H G S .refl
theorem pt1 {e : Expr} {f : Fe} (h : Ev X e f) : Pt X (some e) (fPart f) := PO.imp (po_some h) fun σ H Q ⟨F, G, δ, i, δ', S, e, k⟩ => by
  obtain ⟨⟨r, δ1⟩, e1, e2⟩ := Option.bind_eq_some_iff.mp e
  dsimp only at e2
  split at e2
  · rename_i j
    cases e2
    exact ⟨F, G, δ, _, _, S, e1, fun v H' G' S' b r => ⟨j, Rep.int_inv (K := X.K) (G := G') r, k H' G' S' b⟩⟩
  · cases e2
theorem en_cut {e : Expr} {lo hi : Option Expr} {f : Fe} {fl fh : Dl → Option (Option Int × Dl)} (he : Ev X e f) (hl : Pt X lo fl) (hh : Pt X hi fh) : En X (.Subscript e (.Slice lo hi none p2) pos) (fCut f fl fh) :=
  PE.imp (pe_slice slT he hl hh) fun σ H Q ⟨F, G, δ, o, δ', S, e, k⟩ => by
    obtain ⟨⟨ra, δ1⟩, e1, e⟩ := Option.bind_eq_some_iff.mp e
    obtain ⟨⟨l, δ2⟩, e2, e⟩ := Option.bind_eq_some_iff.mp e
    obtain ⟨⟨h, δ3⟩, e3, e⟩ := Option.bind_eq_some_iff.mp e
    obtain ⟨x, e4, e⟩ := Option.bind_eq_some_iff.mp e
    obtain ⟨o', e5, e6⟩ := Option.map_eq_some_iff.mp e
    cases e6
    refine ⟨F, G, δ, ra, δ1, S, e1, fun v1 H1 G1 S1 b1 r1 => ⟨F, G1, δ1, l, δ2, S1, e2, fun H2 G2 S2 b2 => ⟨F, G2, δ2, h, δ3, S2, e3, fun H3 G3 S3 b3 => ?_⟩⟩⟩
    refine ⟨G3, x, o, S3.sub, S3.peek (r1.mono (b2.trans b3).le) e4, e5, fun v H' G' E r => ?_⟩
    exact k v H' G' (S3.ext E) (b1.trans (b2.trans (b3.trans E.mv))) ((r.toO S3 E).old fun a h => b1.dom a (b2.dom a (b3.dom a h)))

/-! ### a op b op' c -/
def fChain (g g' : D → D → Option OV) (fa fb fc : Fe) : Fn := fun δ =>
  (fa δ).bind fun p => (fb p.2).bind fun q => (peek p.1 q.2).bind fun x => (peek q.1 q.2).bind fun y => match g x y with
    | some (.val (.bl true)) => (fc q.2).bind fun r => (peek q.1 r.2).bind fun y' => (peek r.1 r.2).bind fun z => (g' y' z).map fun o => (o, r.2)
    | some (.val (.bl false)) => some (.val (.bl false), q.2)
    | _ => none
theorem en_chain {op op' : CmpOp} {g g' : D → D → Option OV} {a b c : Expr} {fa fb fc : Fe} (ho : OpT X (compareOp op) g) (ho' : OpT X (compareOp op') g') (ha : Ev X a fa) (hb : Ev X b fb) (hc : Ev X c fc)
    (hm : lastMarks [op, op'] [b, c] = false := by with_unfolding_all rfl) : En X (.Compare a [op, op'] [b, c] pos) (fChain g g' fa fb fc) :=
  PE.imp (pe_chain ho ho' ha hb hc hm) fun σ H Q ⟨F, G, δ, o, δ', S, e, k⟩ => by
    obtain ⟨⟨ra, δ1⟩, e1, e⟩ := Option.bind_eq_some_iff.mp e
    obtain ⟨⟨rb, δ2⟩, e2, e⟩ := Option.bind_eq_some_iff.mp e
    obtain ⟨x, e3, e⟩ := Option.bind_eq_some_iff.mp e
    obtain ⟨y, e4, e⟩ := Option.bind_eq_some_iff.mp e
    refine ⟨F, G, δ, ra, δ1, S, e1, fun v1 H1 G1 S1 b1 r1 => ⟨F, G1, δ1, rb, δ2, S1, e2, fun v2 H2 G2 S2 b2 r2 => ?_⟩⟩
    split at e
    · rename_i hg
      obtain ⟨⟨rc, δ3⟩, e5, e⟩ := Option.bind_eq_some_iff.mp e
      obtain ⟨y', e6, e⟩ := Option.bind_eq_some_iff.mp e
      obtain ⟨z, e7, e⟩ := Option.bind_eq_some_iff.mp e
      obtain ⟨o', e8, e9⟩ := Option.map_eq_some_iff.mp e
      cases e9
      refine ⟨G2, x, y, _, S2.sub, S2.peek (r1.mono b2.le) e3, S2.peek r2 e4, hg, fun v H' G' E r => ⟨true, Rep.bl_inv (K := X.K) (G := G') r, ?_⟩⟩
      rw [if_pos rfl]
      refine ⟨F, G', δ2, rc, δ3, S2.ext E, e5, fun v3 H3 G3 S3 b3 r3 => ?_⟩
      have r2' : RepR X.K G3 σ v2 rb := (r2.mono E.gg.le).mono b3.le
      refine ⟨G3, y', z, o, S3.sub, S3.peek r2' e6, S3.peek r3 e7, e8, fun v4 H4 G4 E4 r4 => ?_⟩
      exact k v4 H4 G4 (S3.ext E4) (b1.trans (b2.trans (E.mv.trans (b3.trans E4.mv)))) ((r4.toO S3 E4).old fun a h => b1.dom a (b2.dom a (E.mv (σ := σ) (δ := δ).dom a (b3.dom a h))))
    · rename_i hg
      cases e
      refine ⟨G2, x, y, _, S2.sub, S2.peek (r1.mono b2.le) e3, S2.peek r2 e4, hg, fun v H' G' E r => ⟨false, Rep.bl_inv (K := X.K) (G := G') r, ?_⟩⟩
      rw [if_neg Bool.false_ne_true]
      exact k _ H' G' (S2.ext E) (b1.trans (b2.trans E.mv)) (.bl false)
    · cases e

/-! ### and, or, not -/
def fAnd (fa fb : Fe) : Fe := fun δ => (fa δ).bind fun p => match p.1 with
  | .val (.bl true) => fb p.2
  | .val (.bl false) => some (.val (.bl false), p.2)
  | _ => none
def fOr (fa fb : Fe) : Fe := fun δ => (fa δ).bind fun p => match p.1 with
  | .val (.bl false) => fb p.2
  | .val (.bl true) => some (.val (.bl true), p.2)
  | _ => none
def fNot (fa : Fe) : Fe := fun δ => (fa δ).bind fun p => match p.1 with
  | .val (.bl b) => some (.val (.bl (!b)), p.2)
  | _ => none
theorem ev_one {op : BoolOp} {a : Expr} {f : Fe} (h : Ev X a f) : Ev X (.BoolOp op [a] pos) f := pe_one h
theorem ev_and {a b : Expr} {rest : List Expr} {fa fb : Fe} (ha : Ev X a fa) (hb : Ev X (.BoolOp .And (b :: rest) pos) fb) : Ev X (.BoolOp .And (a :: b :: rest) pos) (fAnd fa fb) :=
  PE.imp (pe_and ha hb) fun σ H Q ⟨F, G, δ, o, δ', S, e, k⟩ => by
    obtain ⟨⟨ra, δ1⟩, e1, e⟩ := Option.bind_eq_some_iff.mp e
    refine ⟨F, G, δ, ra, δ1, S, e1, fun v1 H1 G1 S1 b1 r1 => ?_⟩
    dsimp only at e
    split at e
    · refine ⟨true, Rep.bl_inv (K := X.K) (G := G1) r1, ?_⟩
      rw [if_pos rfl]
      exact ⟨F, G1, δ1, o, δ', S1, e, fun v2 H2 G2 S2 b2 r2 => k v2 H2 G2 S2 (b1.trans b2) r2⟩
    · cases e
      refine ⟨false, Rep.bl_inv (K := X.K) (G := G1) r1, ?_⟩
      rw [if_neg Bool.false_ne_true]
      exact k _ H1 G1 S1 b1 (.bl false)
    · cases e
theorem ev_or {a b : Expr} {rest : List Expr} {fa fb : Fe} (ha : Ev X a fa) (hb : Ev X (.BoolOp .Or (b :: rest) pos) fb) : Ev X (.BoolOp .Or (a :: b :: rest) pos) (fOr fa fb) :=
  PE.imp (pe_or ha hb) fun σ H Q ⟨F, G, δ, o, δ', S, e, k⟩ => by
    obtain ⟨⟨ra, δ1⟩, e1, e⟩ := Option.bind_eq_some_iff.mp e
    refine ⟨F, G, δ, ra, δ1, S, e1, fun v1 H1 G1 S1 b1 r1 => ?_⟩
    dsimp only at e
    split at e
    · refine ⟨false, Rep.bl_inv (K := X.K) (G := G1) r1, ?_⟩
      rw [if_neg Bool.false_ne_true]
      exact ⟨F, G1, δ1, o, δ', S1, e, fun v2 H2 G2 S2 b2 r2 => k v2 H2 G2 S2 (b1.trans b2) r2⟩
    · cases e
      refine ⟨true, Rep.bl_inv (K := X.K) (G := G1) r1, ?_⟩
      rw [if_pos rfl]
      exact k _ H1 G1 S1 b1 (.bl true)
    · cases e
theorem ev_not {a : Expr} {fa : Fe} (ha : Ev X a fa) : Ev X (.UnaryOp .Not a pos) (fNot fa) :=
  PE.imp (pe_not ha) fun σ H Q ⟨F, G, δ, o, δ', S, e, k⟩ => by
    obtain ⟨⟨ra, δ1⟩, e1, e⟩ := Option.bind_eq_some_iff.mp e
    refine ⟨F, G, δ, ra, δ1, S, e1, fun v1 H1 G1 S1 b1 r1 => ?_⟩
    dsimp only at e
    split at e
    · rename_i b
      cases e
      exact ⟨b, Rep.bl_inv (K := X.K) (G := G1) r1, k _ H1 G1 S1 b1 (.bl _)⟩
    · cases e
def fNeg (fa : Fe) : Fe := fun δ => (fa δ).bind fun p => match p.1 with
  | .val (.int i) => some (.val (.int (-i)), p.2)
  | _ => none
theorem ev_neg {a : Expr} {fa : Fe} (ha : Ev X a fa) : Ev X (.UnaryOp .USub a pos) (fNeg fa) :=
  PE.imp (pe_un un_neg ha) fun σ H Q ⟨F, G, δ, o, δ', S, e, k⟩ => by
    obtain ⟨⟨ra, δ1⟩, e1, e⟩ := Option.bind_eq_some_iff.mp e
    refine ⟨F, G, δ, ra, δ1, S, e1, fun v1 H1 G1 S1 b1 r1 => ?_⟩
    dsimp only at e
    split at e
    · rename_i b
      cases e
      exact ⟨b, Rep.int_inv (K := X.K) (G := G1) r1, k _ H1 G1 S1 b1 (.int _)⟩
    · cases e

/-! ### tests -/
def fT (f : Fe) : Ft := fun δ => (f δ).bind fun p => match p.1 with
  | .val (.bl b) => some (b, p.2)
  | _ => none
theorem tT_imp {K : PySem.W.Frag} {f : Fe} (σ : St) (H : Hp) (Q : Bool → Hp → Prop) (h : tTs K (fT f) σ H Q) : tB (tEv K f) σ H Q := by
  obtain ⟨F, G, δ, o, δ', S, e, k⟩ := h
  obtain ⟨⟨ra, δ1⟩, e1, e⟩ := Option.bind_eq_some_iff.mp e
  refine ⟨F, G, δ, ra, δ1, S, e1, fun v1 H1 G1 S1 b1 r1 => ?_⟩
  dsimp only at e
  split at e
  · rename_i b
    cases e
    exact ⟨_, Rep.bl_inv (K := K) (G := G1) r1, k H1 G1 S1 b1⟩
  · cases e
/-- a call, a name, a subscript as a test -/
theorem ts_val {e : Expr} {f : Fe} (h : Ev X e f) (he : ∀ whole, isTrue e X.env whole = (do let v ← whole; standAt e.pos; holding [v] (truthy v)) := by intro _; rfl) : Ts X e (fT f) := PT.imp (pt_val h he) tT_imp
theorem ts_cmp {op : CmpOp} {g : D → D → Option OV} {a b : Expr} {fa fb : Fe} (ho : OpT X (compareOp op) g) (ha : Ev X a fa) (hb : Ev X b fb) (hm : behindInMarks op b = false) : Ts X (.Compare a [op] [b] pos) (fT (fV (fOp2 g fa fb))) :=
  PT.imp (pt_cmpR ho ha hb hm) fun σ H Q ⟨F, G, δ, o, δ', S, e, k⟩ => by
    obtain ⟨⟨ra, δ1⟩, e1, e⟩ := Option.bind_eq_some_iff.mp e
    obtain ⟨⟨ro, δ2⟩, e2, e3⟩ := Option.map_eq_some_iff.mp e1
    cases e3
    refine op2_imp σ H _ ⟨F, G, δ, ro, δ2, S, e2, fun v H' G' S' b r => ?_⟩
    dsimp only at e
    split at e
    · rename_i kb hk
      cases e
      obtain ⟨G2, S2, b2, r2⟩ := S'.settle r (fun a h => S.fresh h) b
      rw [show ro.d = .bl _ from RV.val.inj hk] at r2
      exact ⟨_, r2.bl_inv, k H' G2 S2 b2⟩
    · cases e
def fTN (f : Ft) : Ft := fun δ => (f δ).map fun p => (!p.1, p.2)
def fTA (f g : Ft) : Ft := fun δ => (f δ).bind fun p => if p.1 = true then g p.2 else some (false, p.2)
def fTO (f g : Ft) : Ft := fun δ => (f δ).bind fun p => if p.1 = true then some (true, p.2) else g p.2
theorem ts_not {a : Expr} {f : Ft} (h : Ts X a f) : Ts X (.UnaryOp .Not a pos) (fTN f) := PT.imp (pt_not h) fun σ H Q ⟨F, G, δ, o, δ', S, e, k⟩ => by
  obtain ⟨⟨b, δ1⟩, e1, e2⟩ := Option.map_eq_some_iff.mp e
  cases e2
  exact ⟨F, G, δ, b, δ1, S, e1, fun H' G' S' l => k H' G' S' l⟩
/-- a test of and, or -/
def Tw (X : Cx) (e : Expr) (f : Ft) : Prop := PW X e (tTs X.K f)
theorem PW.imp {e : Expr} {t t' : TT} (h : PW X e t) (i : ∀ σ H Q, t' σ H Q → t σ H Q) : PW X e t' := ⟨fun wh pins s σ H Q I q => h.run wh pins s σ H Q I (i σ H Q q)⟩
theorem Tw.t {e : Expr} {f : Ft} (h : Tw X e f) : Ts X e f := L2.PW.pt h
theorem tw_and1 {a : Expr} {f : Ft} (h : Ts X a f) : Tw X (.BoolOp .And [a] pos) f := pw_and1 h
theorem tw_or1 {a : Expr} {f : Ft} (h : Ts X a f) : Tw X (.BoolOp .Or [a] pos) f := pw_or1 h
theorem tw_and {a b : Expr} {rest : List Expr} {f g : Ft} (ha : Ts X a f) (hb : Tw X (.BoolOp .And (b :: rest) pos) g) : Tw X (.BoolOp .And (a :: b :: rest) pos) (fTA f g) := PW.imp (pw_and ha hb) fun σ H Q ⟨F, G, δ, o, δ', S, e, k⟩ => by
  obtain ⟨⟨b, δ1⟩, e1, e2⟩ := Option.bind_eq_some_iff.mp e
  refine ⟨F, G, δ, b, δ1, S, e1, fun H' G' S' l => ?_⟩
  dsimp only at e2
  split at e2
  · rename_i hb
    rw [if_pos hb]
    exact ⟨F, G', δ1, o, δ', S', e2, fun H2 G2 S2 l2 => k H2 G2 S2 (l.trans l2)⟩
  · rename_i hb
    rw [if_neg hb]
    cases e2
    exact k H' G' S' l
theorem tw_or {a b : Expr} {rest : List Expr} {f g : Ft} (ha : Ts X a f) (hb : Tw X (.BoolOp .Or (b :: rest) pos) g) : Tw X (.BoolOp .Or (a :: b :: rest) pos) (fTO f g) := PW.imp (pw_or ha hb) fun σ H Q ⟨F, G, δ, o, δ', S, e, k⟩ => by
  obtain ⟨⟨b, δ1⟩, e1, e2⟩ := Option.bind_eq_some_iff.mp e
  refine ⟨F, G, δ, b, δ1, S, e1, fun H' G' S' l => ?_⟩
  dsimp only at e2
  split at e2
  · rename_i hb
    rw [if_pos hb]
    cases e2
    exact k H' G' S' l
  · rename_i hb
    rw [if_neg hb]
    exact ⟨F, G', δ1, o, δ', S', e2, fun H2 G2 S2 l2 => k H2 G2 S2 (l.trans l2)⟩

/-! ### a if c else b -/
def fIf (c : Ft) (a b : Fe) : Fe := fun δ => (c δ).bind fun p => if p.1 = true then a p.2 else b p.2
def fIfN (c : Ft) (a b : Fn) : Fn := fun δ => (c δ).bind fun p => if p.1 = true then a p.2 else b p.2
theorem ev_if {c a b : Expr} {fc : Ft} {fa fb : Fe} (hc : Ts X c fc) (ha : Ev X a fa) (hb : Ev X b fb) : Ev X (.IfExp c a b pos) (fIf fc fa fb) := PE.imp (pe_ifExp hc ha hb) fun σ H Q ⟨F, G, δ, o, δ', S, e, k⟩ => by
  obtain ⟨⟨b, δ1⟩, e1, e2⟩ := Option.bind_eq_some_iff.mp e
  refine ⟨F, G, δ, b, δ1, S, e1, fun H' G' S' l => ?_⟩
  dsimp only at e2
  split at e2
  · rename_i hb
    rw [if_pos hb]
    exact ⟨F, G', δ1, o, δ', S', e2, fun v H2 G2 S2 l2 r => k v H2 G2 S2 (l.trans l2) r⟩
  · rename_i hb
    rw [if_neg hb]
    exact ⟨F, G', δ1, o, δ', S', e2, fun v H2 G2 S2 l2 r => k v H2 G2 S2 (l.trans l2) r⟩
theorem en_if {c a b : Expr} {fc : Ft} {fa fb : Fn} (hc : Ts X c fc) (ha : En X a fa) (hb : En X b fb) : En X (.IfExp c a b pos) (fIfN fc fa fb) := PE.imp (pe_ifExp hc ha hb) fun σ H Q ⟨F, G, δ, o, δ', S, e, k⟩ => by
  obtain ⟨⟨b, δ1⟩, e1, e2⟩ := Option.bind_eq_some_iff.mp e
  refine ⟨F, G, δ, b, δ1, S, e1, fun H' G' S' l => ?_⟩
  dsimp only at e2
  split at e2
  · rename_i hb
    rw [if_pos hb]
    exact ⟨F, G', δ1, o, δ', S', e2, fun v H2 G2 S2 l2 r => k v H2 G2 S2 (l.trans l2) (r.old l.dom)⟩
  · rename_i hb
    rw [if_neg hb]
    exact ⟨F, G', δ1, o, δ', S', e2, fun v H2 G2 S2 l2 r => k v H2 G2 S2 (l.trans l2) (r.old l.dom)⟩

/-! ### arguments, displays -/
def fA0 : Fa := fun δ => some ([], δ)
def fA (f : Fe) (r : Fa) : Fa := fun δ => (f δ).bind fun p => (esc p.1 p.2).bind fun q => (r q.2).map fun s => (q.1 :: s.1, s.2)
theorem ar_nil : Ar X [] fA0 := PA.imp pa_nil fun σ H Q ⟨F, G, δ, o, δ', S, e, k⟩ => by
  cases e
  exact k [] H G S .refl .nil
theorem ar_cons {e : Expr} {es : List Expr} {f : Fe} {r : Fa} (h : Ev X e f) (hr : Ar X es r) (hs : starEach (e :: es) X.env = (false, eval e X.env) :: starEach es X.env := by rfl) : Ar X (e :: es) (fA f r) :=
  PA.imp (pa_cons h hr hs) fun σ H Q ⟨F, G, δ, o, δ', S, e, k⟩ => by
    obtain ⟨⟨ra, δ1⟩, e1, e⟩ := Option.bind_eq_some_iff.mp e
    obtain ⟨⟨d, δ2⟩, e2, e⟩ := Option.bind_eq_some_iff.mp e
    obtain ⟨⟨ds, δ3⟩, e3, e4⟩ := Option.map_eq_some_iff.mp e
    cases e4
    refine ⟨F, G, δ, ra, δ1, S, e1, fun v1 H1 G1 S1 b1 r1 => ?_⟩
    obtain ⟨G2, S2, b2, r2⟩ := S1.esc r1 e2
    refine ⟨F, G2, δ2, ds, δ3, S2, e3, fun vs H3 G3 S3 b3 r3 => ?_⟩
    exact k _ H3 G3 S3 (b1.trans (b2.trans b3)) (.cons (r2.mono b3.le) r3)
def fLst (f : Fa) : Fn := fun δ => (f δ).bind fun p => if p.1.length ≤ sizeLine then some (.new (.lst p.1), p.2) else none
def fTup (f : Fa) : Fn := fun δ => (f δ).bind fun p => if p.1.length ≤ sizeLine then some (.val (.tup p.1), p.2) else none
theorem en_lst {es : List Expr} {f : Fa} (h : Ar X es f) : En X (.List es pos) (fLst f) := PE.imp (pe_lst h) fun σ H Q ⟨F, G, δ, o, δ', S, e, k⟩ => by
  obtain ⟨⟨ds, δ1⟩, e1, e⟩ := Option.bind_eq_some_iff.mp e
  dsimp only at e
  split at e
  · rename_i hz
    cases e
    refine ⟨F, G, δ, ds, _, S, e1, fun vs H1 G1 S1 b1 r1 => ⟨by rw [r1.length]; exact hz, fun p hp => ?_⟩⟩
    have E : Ext G1 H1 G1 (upd H1 p (.lst vs)) := .own S1.sub hp
    exact k _ _ _ (S1.ext E) (b1.trans E.mv) ((RepP.toO (o := .new (.lst ds)) S1 E ⟨p, rfl, hp, none_of_sub S1.sub hp, .lst upd_same r1⟩).old b1.dom)
  · cases e
theorem en_tup {es : List Expr} {j : Nat} {f : Fa} (h : Ar X es f) : En X (.Tuple es j pos) (fTup f) := PE.imp (pe_tup h) fun σ H Q ⟨F, G, δ, o, δ', S, e, k⟩ => by
  obtain ⟨⟨ds, δ1⟩, e1, e⟩ := Option.bind_eq_some_iff.mp e
  dsimp only at e
  split at e
  · rename_i hz
    cases e
    refine ⟨F, G, δ, ds, _, S, e1, fun vs H1 G1 S1 b1 r1 => ⟨by rw [r1.length]; exact hz, fun p hp => ?_⟩⟩
    have E : Ext G1 H1 (upd G1 p (.tup vs)) (upd H1 p (.tup vs)) := .add S1.sub hp
    exact k _ _ _ (S1.ext E) (b1.trans E.mv) (Rep.tup upd_same (r1.mono E.gg.le))
  · cases e
def fDct0 (t : Bool) : Fn := fun δ => some (.new (.dct t []), δ)
theorem en_dctK : En X (.Dict [] [] pos) (fDct0 false) := PE.imp pe_dnewK fun σ H Q ⟨F, G, δ, o, δ', S, e, k⟩ p hp => by
  cases e
  have E : Ext G H G (upd H p (.dK [])) := .own S.sub hp
  exact k _ _ _ (S.ext E) E.mv (RepP.toO (o := .new (.dct false [])) S E ⟨p, rfl, hp, none_of_sub S.sub hp, .dK upd_same .nil⟩)
theorem en_dctT : En X (.Dict [] [] pos) (fDct0 true) := PE.imp pe_dnewT fun σ H Q ⟨F, G, δ, o, δ', S, e, k⟩ p hp => by
  cases e
  have E : Ext G H G (upd H p (.dT [])) := .own S.sub hp
  exact k _ _ _ (S.ext E) E.mv (RepP.toO (o := .new (.dct true [])) S E ⟨p, rfl, hp, none_of_sub S.sub hp, .dT upd_same .nil⟩)
end
end L2.Tl

set_option Elab.async false
set_option linter.all false
set_option autoImplicit false
set_option maxRecDepth 100000
namespace L2.Tl
open PySem PySem.Spec PyProof.Rows

/-! ### what a def computes -/
/-- arguments in: trees that nobody changes (fz), objects handed in to be changed (inp); a result and what these objects are then -/
abbrev Fm := List SV → Option (OV × List D)
/-- the arguments stand for trees; ps: the objects handed in to be changed -/
inductive ArgR (K : PySem.W.Frag) (G H : Hp) : List V → List SV → List Addr → Prop
  | nil : ArgR K G H [] [] []
  | fz {v : V} {vs : List V} {d : D} {as : List SV} {ps : List Addr} : Rep K G v d → ArgR K G H vs as ps → ArgR K G H (v :: vs) (.fz d :: as) ps
  | inp {p : Addr} {vs : List V} {d : D} {as : List SV} {ps : List Addr} : G p = none → Root K G H p d → ArgR K G H vs as ps → ArgR K G H (.ref p :: vs) (.inp d :: as) (p :: ps)
inductive OutR (K : PySem.W.Frag) (G H : Hp) : List Addr → List D → Prop
  | nil : OutR K G H [] []
  | cons {p : Addr} {ps : List Addr} {d : D} {ds : List D} : Root K G H p d → OutR K G H ps ds → OutR K G H (p :: ps) (d :: ds)
/-- what a call leaves: nothing but the objects handed in is changed -/
structure After (K : PySem.W.Frag) (G H : Hp) (ps : List Addr) (outs : List D) (G' H' : Hp) : Prop where
  le : Le G G'
  sub : Sub G' H'
  new : ∀ a o, G' a = some o → G a ≠ none ∨ H a = none
  fr : ∀ a o, H a = some o → a ∉ ps → H' a = some o ∨ (Lk o ∧ G a = some o ∧ ∃ od, H' a = some (.frz od o))
  out : OutR K G' H' ps outs
/-- the promise: the def computes F -/
def spT (K : PySem.W.Frag) (F : Fm) : Sp := fun vs H Q _ => ∃ G args ps o outs, Sub G H ∧ ArgR K G H vs args ps ∧ ps.Nodup ∧ F args = some (o, outs) ∧
  ∀ v H' G', After K G H ps outs G' H' → RepP K H G' H' v o → Q v H'

/-- what the objects handed in are at the end -/
def outsOf : List SV → Dl → Option (List D)
  | [], _ => some []
  | .inp _ :: as, some (.inp d) :: ds => (outsOf as ds).map (d :: ·)
  | .inp _ :: _, _ => none
  | _ :: as, _ :: ds => outsOf as ds
  | _ :: _, [] => none
/-- how a statement ends -/
inductive Fl where
  | next | brk | cnt | ret (o : OV)
abbrev Fs := Dl → Option (Fl × Dl)
/-- a body, with n further names, as a def -/
def runF (f : Fs) (n : Nat) : Fm := fun args => (f (args.map some ++ List.replicate n none)).bind fun p => match p.1 with
  | .ret o => (outsOf args p.2).map fun os => (o, os)
  | .next => (outsOf args p.2).map fun os => (.val .non, os)
  | _ => none

/-! ### statements -/
def tSt (K : PySem.W.Frag) (f : Fs) : TS := fun D σ H => ∃ F G δ fl δ', Sim K F G H σ δ ∧ f δ = some (fl, δ') ∧ match fl with
  | .next => ∀ σ' H' G', Sim K F G' H' σ' δ' → Le G G' → D.nx σ' H'
  | .brk => ∀ σ' H' G', Sim K F G' H' σ' δ' → Le G G' → D.bk σ' H'
  | .cnt => ∀ σ' H' G', Sim K F G' H' σ' δ' → Le G G' → D.ct σ' H'
  | .ret o => ∀ v σ' H' G', Sim K F G' H' σ' δ' → Le G G' → RepO K F.H0 G' H' σ' δ' v o → D.rt v H'
def Sm (X : Cx) (st : Stmt) (f : Fs) : Prop := PS X st (tSt X.K f)
def Ss (X : Cx) (st : List Stmt) (f : Fs) : Prop := PSs X st (tSt X.K f)
theorem PS.imp {X : Cx} {st : Stmt} {t t' : TS} (h : PS X st t) (i : ∀ D σ H, t' D σ H → t D σ H) : PS X st t' := ⟨fun pins s σ H D I q => h.run pins s σ H D I (i D σ H q)⟩
theorem PSs.imp {X : Cx} {st : List Stmt} {t t' : TS} (h : PSs X st t) (i : ∀ D σ H, t' D σ H → t D σ H) : PSs X st t' := ⟨fun pins s σ H D I q => h.run pins s σ H D I (i D σ H q)⟩

/-! ### a def by its body -/
theorem ArgR.length {K : PySem.W.Frag} {G H : Hp} {vs : List V} {as : List SV} {ps : List Addr} (h : ArgR K G H vs as ps) : vs.length = as.length := by
  induction h with
  | nil => rfl
  | fz _ _ ih => simp [ih]
  | inp _ _ _ ih => simp [ih]
/-- the object handed in at a place -/
def ioOf (vs : List V) (as : List SV) : Nat → Option Addr := fun i => match as[i]?, vs[i]? with
  | some (.inp _), some (.ref p) => some p
  | _, _ => none
theorem ioOf_cons {v : V} {vs : List V} {a : SV} {as : List SV} (i : Nat) : ioOf (v :: vs) (a :: as) (i + 1) = ioOf vs as i := by
  simp [ioOf]
theorem ArgR.io {K : PySem.W.Frag} {G H : Hp} {vs : List V} {as : List SV} {ps : List Addr} (h : ArgR K G H vs as ps) : ∀ a, a ∈ ps ↔ ∃ i, ioOf vs as i = some a := by
  induction h with
  | nil =>
    intro a
    simp [ioOf]
  | fz r _ ih =>
    intro a
    rw [ih a]
    constructor
    · rintro ⟨i, h⟩
      exact ⟨i + 1, by rw [ioOf_cons]; exact h⟩
    · rintro ⟨i, h⟩
      cases i with
      | zero => simp [ioOf] at h
      | succ i => exact ⟨i, by rw [ioOf_cons] at h; exact h⟩
  | inp hg r _ ih =>
    intro a
    rw [List.mem_cons, ih a]
    constructor
    · rintro (h | ⟨i, h⟩)
      · exact ⟨0, by simp [ioOf, h]⟩
      · exact ⟨i + 1, by rw [ioOf_cons]; exact h⟩
    · rintro ⟨i, h⟩
      cases i with
      | zero => left; simpa [ioOf, eq_comm] using h
      | succ i => right; exact ⟨i, by rw [ioOf_cons] at h; exact h⟩
def AtP (K : PySem.W.Frag) (G H : Hp) (vs : List V) (as : List SV) (i : Nat) : SV → Prop
  | .fz d => ∃ v, vs[i]? = some v ∧ Rep K G v d
  | .own _ => False
  | .inp d => ∃ p, vs[i]? = some (V.ref p) ∧ G p = none ∧ Root K G H p d ∧ ioOf vs as i = some p
theorem ArgR.at {K : PySem.W.Frag} {G H : Hp} {vs : List V} {as : List SV} {ps : List Addr} (h : ArgR K G H vs as ps) : ∀ (i : Nat) (a : SV), as[i]? = some a → AtP K G H vs as i a := by
  induction h with
  | nil => intro i a h; simp at h
  | fz r _ ih =>
    intro i a h
    cases i with
    | zero => simp at h; subst h; exact ⟨_, rfl, r⟩
    | succ i =>
      have := ih i a (by simpa using h)
      cases a with
      | fz d => obtain ⟨v, a, b⟩ := this; exact ⟨v, by simpa using a, b⟩
      | own d => exact this
      | inp d => obtain ⟨p, a, b, c, e⟩ := this; exact ⟨p, by simpa using a, b, c, by rw [ioOf_cons]; exact e⟩
  | inp hg r _ ih =>
    intro i a h
    cases i with
    | zero => simp at h; subst h; exact ⟨_, rfl, hg, r, by simp [ioOf]⟩
    | succ i =>
      have := ih i a (by simpa using h)
      cases a with
      | fz d => obtain ⟨v, a, b⟩ := this; exact ⟨v, by simpa using a, b⟩
      | own d => exact this
      | inp d => obtain ⟨p, a, b, c, e⟩ := this; exact ⟨p, by simpa using a, b, c, by rw [ioOf_cons]; exact e⟩
theorem ArgR.inj {K : PySem.W.Frag} {G H : Hp} {vs : List V} {as : List SV} {ps : List Addr} (h : ArgR K G H vs as ps) : ps.Nodup → ∀ i j a, ioOf vs as i = some a → ioOf vs as j = some a → i = j := by
  induction h with
  | nil => intro _ i j a h; simp [ioOf] at h
  | fz r t ih =>
    intro nd i j a h1 h2
    cases i with
    | zero => simp [ioOf] at h1
    | succ i =>
      cases j with
      | zero => simp [ioOf] at h2
      | succ j => rw [ioOf_cons] at h1 h2; rw [ih nd i j a h1 h2]
  | inp hg r t ih =>
    intro nd i j a h1 h2
    rw [List.nodup_cons] at nd
    cases i with
    | zero =>
      cases j with
      | zero => rfl
      | succ j =>
        rw [ioOf_cons] at h2
        have e := Option.some.inj (show some _ = some a from h1)
        subst e
        exact absurd ((t.io _).mpr ⟨j, h2⟩) nd.1
    | succ i =>
      cases j with
      | zero =>
        rw [ioOf_cons] at h1
        have e := Option.some.inj (show some _ = some a from h2)
        subst e
        exact absurd ((t.io _).mpr ⟨i, h1⟩) nd.1
      | succ j => rw [ioOf_cons] at h1 h2; rw [ih nd.2 i j a h1 h2]
/-- the state at a def's entry -/
theorem sim_start {K : PySem.W.Frag} {G H : Hp} {vs : List V} {as : List SV} {ps : List Addr} {n : Nat} (sb : Sub G H) (h : ArgR K G H vs as ps) (nd : ps.Nodup) :
    Sim K ⟨H, G, ioOf vs as⟩ G H (vs.map some ++ List.replicate n none) (as.map some ++ List.replicate n none) := by
  have key : ∀ i x, (as.map some ++ List.replicate n none)[i]? = some (some x) → as[i]? = some x ∧ (vs.map some ++ List.replicate n none)[i]? = vs[i]?.map some := fun i x hx => by
    by_cases hi : i < as.length
    · rw [List.getElem?_append_left (by simpa using hi)] at hx
      rw [List.getElem?_map] at hx
      obtain ⟨z, e1, e2⟩ := Option.map_eq_some_iff.mp hx
      cases e2
      refine ⟨e1, ?_⟩
      rw [List.getElem?_append_left (by simpa [h.length] using hi), List.getElem?_map]
    · rw [List.getElem?_append_right (by simpa using hi)] at hx
      rw [List.getElem?_replicate] at hx
      split at hx <;> cases hx
  refine ⟨by simp [h.length], fun i d hd => ?_, fun i d hd => ?_, fun i d hd => ?_, fun i j x y d e p h1 r1 h2 r2 h3 h4 => ?_, sb, fun a o ha => .inl (by show G a ≠ none; rw [ha]; exact fun z => nomatch z), fun a o ha _ => .inl ha, fun i a ha => ?_, sb⟩
  · obtain ⟨a, b⟩ := key i _ hd
    obtain ⟨v, e1, e2⟩ := h.at i _ a
    exact ⟨v, by rw [b, e1]; rfl, e2⟩
  · obtain ⟨a, b⟩ := key i _ hd
    exact (h.at i _ a).elim
  · obtain ⟨a, b⟩ := key i _ hd
    obtain ⟨p, e1, e2, e3, e4⟩ := h.at i _ a
    exact ⟨p, by rw [b, e1]; rfl, e2, e3, e4⟩
  · obtain ⟨a1, b1⟩ := key i _ h1
    obtain ⟨a2, b2⟩ := key j _ h2
    cases x with
    | fz _ => cases r1
    | own _ => exact (h.at i _ a1).elim
    | inp _ =>
      cases y with
      | fz _ => cases r2
      | own _ => exact (h.at j _ a2).elim
      | inp _ =>
        obtain ⟨p1, c1, _, _, c4⟩ := h.at i _ a1
        obtain ⟨p2, e1, _, _, e4⟩ := h.at j _ a2
        rw [b1, c1] at h3
        rw [b2, e1] at h4
        cases h3
        cases h4
        exact h.inj nd i j _ c4 e4
  · have hm : a ∈ ps := (h.io a).mpr ⟨i, ha⟩
    have : ∀ {vs : List V} {as : List SV} {ps : List Addr}, ArgR K G H vs as ps → a ∈ ps → G a = none ∧ ∃ o, H a = some o := fun {vs as ps} h => by
      induction h with
      | nil => intro z; simp at z
      | fz _ _ ih => exact ih
      | inp hg r _ ih =>
        intro z
        rcases List.mem_cons.mp z with z | z
        · subst z; exact ⟨hg, r.there⟩
        · exact ih z
    obtain ⟨g, o, ho⟩ := this h hm
    exact ⟨⟨o, ho⟩, g, by show H a ≠ none; rw [ho]; exact fun z => nomatch z⟩
/-- .. and at its end -/
theorem outs_at {K : PySem.W.Frag} {G H G' H' : Hp} {vs : List V} {as : List SV} {ps : List Addr} (h : ArgR K G H vs as ps) : ∀ {σ : St} {δ : Dl} {os : List D}, outsOf as δ = some os →
    (∀ i d, as[i]? = some (SV.inp d) → ∀ e, δ[i]? = some (some (SV.inp e)) → ∃ p, ioOf vs as i = some p ∧ Root K G' H' p e) → OutR K G' H' ps os := by
  induction h with
  | nil => intro σ δ os e _; cases e; exact .nil
  | fz r t ih =>
    intro σ δ os e k
    cases δ with
    | nil => cases e
    | cons x δ =>
      refine ih (σ := σ) (δ := δ) (by cases x <;> exact e) fun i d hi e' he => ?_
      obtain ⟨p, a, b⟩ := k (i + 1) d (by simpa using hi) e' (by simpa using he)
      exact ⟨p, by rw [ioOf_cons] at a; exact a, b⟩
  | inp hg r t ih =>
    intro σ δ os e k
    cases δ with
    | nil => cases e
    | cons x δ =>
      cases x with
      | none => cases e
      | some y =>
        cases y with
        | fz _ => cases e
        | own _ => cases e
        | inp d' =>
          obtain ⟨os', e1, e2⟩ := Option.map_eq_some_iff.mp e
          cases e2
          obtain ⟨p, a, b⟩ := k 0 _ rfl d' rfl
          have e3 := Option.some.inj (show some _ = some p from a)
          subst e3
          refine .cons b (ih (σ := σ) (δ := δ) e1 fun i d hi e' he => ?_)
          obtain ⟨p, a, b⟩ := k (i + 1) d (by simpa using hi) e' (by simpa using he)
          exact ⟨p, by rw [ioOf_cons] at a; exact a, b⟩
theorem after_of {K : PySem.W.Frag} {G H G' H' : Hp} {vs : List V} {as : List SV} {ps : List Addr} {σ : St} {δ : Dl} {os : List D} (h : ArgR K G H vs as ps) (S : Sim K ⟨H, G, ioOf vs as⟩ G' H' σ δ) (l : Le G G') (ho : outsOf as δ = some os) :
    After K G H ps os G' H' := by
  refine ⟨l, S.sub, S.new, fun a o ha hn => S.fr a o ha fun i hi => hn ((h.io a).mpr ⟨i, hi⟩), outs_at h (σ := σ) ho fun i d hi e he => ?_⟩
  obtain ⟨p, _, _, c, e'⟩ := S.inp i e he
  exact ⟨p, e', c⟩
section
variable {P : Program} {w : World} {K : PySem.W.Frag} {mg : Str → Option Value} {base : Heap}
/-- THE RULE for a def: its body computes f -/
theorem def_ok {x qual : Str} {st : Stmt} {a : Addr} {fd : FuncData} {N ps : List Str} {k n : Nat} {f : Fs} (F : Fun K x qual st a fd) (S : FnScope N ps (defScope st)) (hn : N.length = ps.length + n)
    (hargs : ∀ args r, runF f n args = some r → args.length = ps.length)
    (hbody : ∀ (cdv : Value) (A : Around) (outer : List Env) (s : Shared) (H : Hp) (E : XK), Room k (A.deeper (envOfC qual (defScope st) s.heap.objs.size a cdv)) →
      Ss (cxOf CX0 P w K mg base N qual (defScope st) a cdv A outer s H E).nox (defBody st) f) : FnOk P w K mg base CX0 (k + 1) a fd ps (spT K (runF f n)) := by
  refine F.ok S (fun vs H Q E h => ?_) (fun cdv A outer s H vs Q E hr h => ?_)
  · obtain ⟨G, args, qs, o, outs, _, hA, _, e, _⟩ := h
    rw [hA.length]
    exact hargs args _ e
  · obtain ⟨G, args, qs, o, outs, sb, hA, nd, e, kq⟩ := h
    refine ⟨_, hbody cdv A outer s H E hr, ?_⟩
    have hst : start N vs = vs.map some ++ List.replicate n none := by
      unfold start
      rw [hA.length, hargs args _ e, hn, Nat.add_sub_cancel_left]
    rw [hst]
    obtain ⟨⟨fl, δ'⟩, e1, e2⟩ := Option.bind_eq_some_iff.mp e
    refine ⟨⟨H, G, ioOf vs args⟩, G, _, fl, δ', sim_start sb hA nd, e1, ?_⟩
    cases fl with
    | next =>
      obtain ⟨os, e3, e4⟩ := Option.map_eq_some_iff.mp e2
      cases e4
      exact fun σ' H' G' S' l => kq .non H' G' (after_of hA S' l e3) .non
    | brk => cases e2
    | cnt => cases e2
    | ret o' =>
      obtain ⟨os, e3, e4⟩ := Option.map_eq_some_iff.mp e2
      cases e4
      intro v σ' H' G' S' l r
      refine kq v H' G' (after_of hA S' l e3) ?_
      cases o with
      | val d => exact r
      | new d =>
        obtain ⟨p, rfl, a1, a2, a3, _⟩ := r
        exact ⟨p, rfl, a3, a1, a2⟩
end
end L2.Tl

set_option Elab.async false
set_option linter.all false
set_option autoImplicit false
set_option maxRecDepth 100000
namespace L2.Tl
open PySem PySem.Spec PyProof.Rows

/-! ### arguments of a call: let go, or handed in to be changed -/
abbrev Fr2 := Dl → Option (List RV × Dl)
inductive RepRs (K : PySem.W.Frag) (G : Hp) (σ : St) : List V → List RV → Prop
  | nil : RepRs K G σ [] []
  | cons {v : V} {vs : List V} {r : RV} {rs : List RV} : RepR K G σ v r → RepRs K G σ vs rs → RepRs K G σ (v :: vs) (r :: rs)
theorem RepRs.mono {K : PySem.W.Frag} {G G' : Hp} {σ : St} (l : Le G G') : ∀ {vs : List V} {rs : List RV}, RepRs K G σ vs rs → RepRs K G' σ vs rs
  | _, _, .nil => .nil
  | _, _, .cons h r => .cons (h.mono l) (r.mono l)
def tAm (K : PySem.W.Frag) (f : Fr2) : TA := fun σ H Q => ∃ F G δ rs δ', Sim K F G H σ δ ∧ f δ = some (rs, δ') ∧ ∀ vs H' G', Sim K F G' H' σ δ' → Mv σ δ G H δ' G' H' → RepRs K G' σ vs rs → Q vs H'
def Am (X : Cx) (es : List Expr) (f : Fr2) : Prop := PA X es (tAm X.K f)
def fM0 : Fr2 := fun δ => some ([], δ)
/-- an argument that is let go -/
def fMv (f : Fe) (r : Fr2) : Fr2 := fun δ => (f δ).bind fun p => (esc p.1 p.2).bind fun q => (r q.2).map fun s => (.val q.1 :: s.1, s.2)
/-- an argument as it stands -/
def fMi (f : Fe) (r : Fr2) : Fr2 := fun δ => (f δ).bind fun p => (r p.2).map fun s => (p.1 :: s.1, s.2)
section
variable {X : Cx} {pos p apos : Pos}
theorem am_nil : Am X [] fM0 := PA.imp pa_nil fun σ H Q ⟨F, G, δ, o, δ', S, e, k⟩ => by
  cases e
  exact k [] H G S .refl .nil
theorem am_v {e : Expr} {es : List Expr} {f : Fe} {r : Fr2} (h : Ev X e f) (hr : Am X es r) (hs : starEach (e :: es) X.env = (false, eval e X.env) :: starEach es X.env := by rfl) : Am X (e :: es) (fMv f r) :=
  PA.imp (pa_cons h hr hs) fun σ H Q ⟨F, G, δ, o, δ', S, e, k⟩ => by
    obtain ⟨⟨ra, δ1⟩, e1, e⟩ := Option.bind_eq_some_iff.mp e
    obtain ⟨⟨d, δ2⟩, e2, e⟩ := Option.bind_eq_some_iff.mp e
    obtain ⟨⟨ds, δ3⟩, e3, e4⟩ := Option.map_eq_some_iff.mp e
    cases e4
    refine ⟨F, G, δ, ra, δ1, S, e1, fun v1 H1 G1 S1 b1 r1 => ?_⟩
    obtain ⟨G2, S2, b2, r2⟩ := S1.esc r1 e2
    refine ⟨F, G2, δ2, ds, δ3, S2, e3, fun vs H3 G3 S3 b3 r3 => ?_⟩
    exact k _ H3 G3 S3 (b1.trans (b2.trans b3)) (.cons (show Rep X.K G3 v1 d from r2.mono b3.le) r3)
theorem am_i {e : Expr} {es : List Expr} {f : Fe} {r : Fr2} (h : Ev X e f) (hr : Am X es r) (hs : starEach (e :: es) X.env = (false, eval e X.env) :: starEach es X.env := by rfl) : Am X (e :: es) (fMi f r) :=
  PA.imp (pa_cons h hr hs) fun σ H Q ⟨F, G, δ, o, δ', S, e, k⟩ => by
    obtain ⟨⟨ra, δ1⟩, e1, e⟩ := Option.bind_eq_some_iff.mp e
    obtain ⟨⟨ds, δ3⟩, e3, e4⟩ := Option.map_eq_some_iff.mp e
    cases e4
    refine ⟨F, G, δ, ra, δ1, S, e1, fun v1 H1 G1 S1 b1 r1 => ⟨F, G1, δ1, ds, δ3, S1, e3, fun vs H3 G3 S3 b3 r3 => ?_⟩⟩
    exact k _ H3 G3 S3 (b1.trans b3) (.cons (r1.mono b3.le) r3)
end

/-- operands as a def's arguments -/
def toArgs : List RV → Dl → Option (List SV)
  | [], _ => some []
  | .val d :: rs, δ => (toArgs rs δ).map (.fz d :: ·)
  | .slot i :: rs, δ => match δ[i]? with
    | some (some (.own d)) => (toArgs rs δ).map (.inp d :: ·)
    | some (some (.inp d)) => (toArgs rs δ).map (.inp d :: ·)
    | _ => none
def slotsOf : List RV → List Nat
  | [] => []
  | .val _ :: rs => slotsOf rs
  | .slot i :: rs => i :: slotsOf rs
/-- what the objects handed in are now -/
def putBack : List Nat → List D → Dl → Option Dl
  | [], [], δ => some δ
  | i :: is, d :: ds, δ => match δ[i]? with
    | some (some (.own _)) => putBack is ds (δ.set i (some (.own d)))
    | some (some (.inp _)) => putBack is ds (δ.set i (some (.inp d)))
    | _ => none
  | _, _, _ => none
section
variable {K : PySem.W.Frag} {F : Fr} {G H G' H' : Hp} {σ : St} {δ : Dl}
theorem Sim.args (S : Sim K F G H σ δ) : ∀ {vs : List V} {rs : List RV} {as : List SV}, RepRs K G σ vs rs → toArgs rs δ = some as → (slotsOf rs).Nodup →
    ∃ ps, ArgR K G H vs as ps ∧ ps.Nodup ∧ ps.length = (slotsOf rs).length ∧ (∀ (j : Nat) (p : Addr), ps[j]? = some p → ∃ (i : Nat) (x : SV) (d : D), (slotsOf rs)[j]? = some i ∧ σ[i]? = some (some (V.ref p)) ∧ δ[i]? = some (some x) ∧ SV.root x = some d)
  | _, _, _, .nil, e, _ => by
    cases e
    exact ⟨[], .nil, .nil, rfl, fun j p h => by simp at h⟩
  | _, .val d :: rs, _, .cons h r, e, nd => by
    obtain ⟨as, e1, e2⟩ := Option.map_eq_some_iff.mp e
    cases e2
    obtain ⟨ps, a, b, c, f⟩ := Sim.args S r e1 nd
    exact ⟨ps, .fz h a, b, c, f⟩
  | v0 :: vs0, .slot i :: rs, _, .cons h r, e, nd => by
    rw [slotsOf, List.nodup_cons] at nd
    have main : ∀ {x : SV} {d : D} {as' : List SV}, δ[i]? = some (some x) → x.root = some d → toArgs rs δ = some as' → ∃ ps, ArgR K G H (v0 :: vs0) (.inp d :: as') ps ∧ ps.Nodup ∧ ps.length = (slotsOf (.slot i :: rs)).length ∧
        (∀ (j : Nat) (p : Addr), ps[j]? = some p → ∃ (i' : Nat) (x : SV) (d : D), (slotsOf (.slot i :: rs))[j]? = some i' ∧ σ[i']? = some (some (V.ref p)) ∧ δ[i']? = some (some x) ∧ SV.root x = some d) := fun {x d as'} hx hr e1 => by
      obtain ⟨p, a1, a2, a3⟩ := S.root hx hr
      have h' : σ[i]? = some (some v0) := h
      rw [a1] at h'
      cases h'
      obtain ⟨ps, a, b, c, f⟩ := Sim.args S r e1 nd.2
      refine ⟨p :: ps, .inp a2 a3 a, List.nodup_cons.mpr ⟨fun hm => ?_, b⟩, by simp [slotsOf, c], fun j q hq => ?_⟩
      · obtain ⟨j, hj⟩ := List.mem_iff_getElem?.mp hm
        obtain ⟨i', x', d', g1, g2, g3, g4⟩ := f j p hj
        have := S.inj i i' x x' d d' p hx hr g3 g4 a1 g2
        subst this
        exact nd.1 (List.mem_of_getElem? g1)
      · cases j with
        | zero => simp at hq; subst hq; exact ⟨i, x, d, rfl, a1, hx, hr⟩
        | succ j =>
          obtain ⟨i', x', d', g1, g2⟩ := f j q (by simpa using hq)
          exact ⟨i', x', d', by simpa [slotsOf] using g1, g2⟩
    simp only [toArgs] at e
    split at e
    · rename_i d hx
      obtain ⟨as, e1, e2⟩ := Option.map_eq_some_iff.mp e
      cases e2
      exact main hx rfl e1
    · rename_i d hx
      obtain ⟨as, e1, e2⟩ := Option.map_eq_some_iff.mp e
      cases e2
      exact main hx rfl e1
    · cases e
end
/-- the same object, other content -/
def SV.re : SV → D → SV
  | .fz d, _ => .fz d
  | .own _, e => .own e
  | .inp _, e => .inp e
theorem SV.re_root {x : SV} {d e : D} (h : x.root = some d) : (x.re e).root = some e := by
  cases x with
  | fz _ => cases h
  | own _ => rfl
  | inp _ => rfl
theorem SV.re_some {x : SV} {d e f : D} (h : x.root = some d) (h' : (x.re e).root = some f) : f = e := by
  rw [SV.re_root h] at h'; cases h'; rfl
theorem putBack_at : ∀ {is : List Nat} {outs : List D} {δ δ' : Dl}, putBack is outs δ = some δ' → is.Nodup →
    (∀ j, j ∉ is → δ'[j]? = δ[j]?) ∧ (∀ (m i : Nat), is[m]? = some i → ∃ (d e : D) (x : SV), outs[m]? = some d ∧ δ[i]? = some (some x) ∧ x.root = some e ∧ δ'[i]? = some (some (x.re d))) ∧ δ'.length = δ.length
  | [], [], δ, _, h, _ => by
    cases h
    exact ⟨fun _ _ => rfl, fun m i h => by simp at h, rfl⟩
  | [], _ :: _, _, _, h, _ => nomatch h
  | _ :: _, [], _, _, h, _ => nomatch h
  | i :: is, d :: ds, δ, δ', h, nd => by
    rw [List.nodup_cons] at nd
    have main : ∀ {x : SV} {e : D}, δ[i]? = some (some x) → x.root = some e → putBack is ds (δ.set i (some (x.re d))) = some δ' →
        (∀ j, j ∉ i :: is → δ'[j]? = δ[j]?) ∧ (∀ (m i' : Nat), (i :: is)[m]? = some i' → ∃ (d' e : D) (x : SV), (d :: ds)[m]? = some d' ∧ δ[i']? = some (some x) ∧ x.root = some e ∧ δ'[i']? = some (some (x.re d'))) ∧ δ'.length = δ.length := fun {x e} hx hr h => by
      obtain ⟨a, b, c⟩ := putBack_at h nd.2
      have hl : i < δ.length := (List.getElem?_eq_some_iff.mp hx).1
      refine ⟨fun j hj => ?_, fun m i' hm => ?_, by simpa using c⟩
      · rw [List.mem_cons, not_or] at hj
        rw [a j hj.2, List.getElem?_set_ne (Ne.symm hj.1)]
      · cases m with
        | zero =>
          simp at hm
          subst hm
          refine ⟨d, e, x, rfl, hx, hr, ?_⟩
          rw [a i nd.1, List.getElem?_set_self hl]
        | succ m =>
          have hm' : is[m]? = some i' := by simpa using hm
          obtain ⟨d', e', x', g1, g2, g3, g4⟩ := b m i' hm'
          have ne : i ≠ i' := fun z => nd.1 (z ▸ List.mem_of_getElem? hm')
          rw [List.getElem?_set_ne ne] at g2
          exact ⟨d', e', x', by simpa using g1, g2, g3, g4⟩
    simp only [putBack] at h
    split at h
    · rename_i hx
      exact main hx rfl h
    · rename_i hx
      exact main hx rfl h
    · cases h
theorem putBack_root {is : List Nat} {outs : List D} {δ δ' : Dl} (hb : putBack is outs δ = some δ') (nd : is.Nodup) {i : Nat} {x : SV} {e : D} (hx : δ'[i]? = some (some x)) (r : x.root = some e) : ∃ x' e', δ[i]? = some (some x') ∧ SV.root x' = some e' := by
  obtain ⟨b1, b2, _⟩ := putBack_at hb nd
  by_cases hi : i ∈ is
  · obtain ⟨m, hm⟩ := List.mem_iff_getElem?.mp hi
    obtain ⟨d, e, x', _, a2, a3, _⟩ := b2 m i hm
    exact ⟨x', e, a2, a3⟩
  · rw [b1 i hi] at hx
    exact ⟨x, e, hx, r⟩
theorem OutR.get {K : PySem.W.Frag} {G H : Hp} : ∀ {ps : List Addr} {ds : List D} {m : Nat} {p : Addr} {d : D}, OutR K G H ps ds → ps[m]? = some p → ds[m]? = some d → Root K G H p d
  | _, _, 0, _, _, .cons r _, h1, h2 => by simp at h1 h2; subst h1; subst h2; exact r
  | _, _, m + 1, _, _, .cons _ r, h1, h2 => OutR.get (m := m) r (by simpa using h1) (by simpa using h2)
  | _, _, _, _, _, .nil, h1, _ => by simp at h1
section
variable {K : PySem.W.Frag} {F : Fr} {G H G' H' : Hp} {σ : St} {δ : Dl}
theorem Sim.after_call (S : Sim K F G H σ δ) {ps : List Addr} {outs : List D} {is : List Nat} (A : After K G H ps outs G' H') (hl : ps.length = is.length)
    (hps : ∀ (j : Nat) (p : Addr), ps[j]? = some p → ∃ (i : Nat) (x : SV) (d : D), is[j]? = some i ∧ σ[i]? = some (some (V.ref p)) ∧ δ[i]? = some (some x) ∧ SV.root x = some d) (nd : is.Nodup)
    {δ' : Dl} (h : putBack is outs δ = some δ') : Sim K F G' H' σ δ' := by
  obtain ⟨b1, b2, b3⟩ := putBack_at h nd
  have none' : ∀ {p : Addr} {o : HO}, G p = none → H p = some o → G' p = none := fun {p o} hg ho => by
    cases q : G' p with
    | none => rfl
    | some u =>
      rcases A.new p u q with z | z
      · exact absurd hg z
      · rw [ho] at z; cases z
  -- a root that was not handed in stands as it stood
  have keep : ∀ {p : Addr} {d : D}, G p = none → Root K G H p d → p ∉ ps → G' p = none ∧ Root K G' H' p d := fun {p d} hg r hn => by
    obtain ⟨o, ho⟩ := r.there
    refine ⟨none' hg ho, ?_⟩
    rcases A.fr p o ho hn with z | ⟨_, z, _⟩
    · exact r.mono A.le (z.trans ho.symm)
    · rw [hg] at z; cases z
  have out : ∀ {j : Nat} {x : SV} {d : D} {p : Addr}, j ∉ is → δ[j]? = some (some x) → x.root = some d → σ[j]? = some (some (V.ref p)) → p ∉ ps := fun {j x d p} hj hx hr hp hm => by
    obtain ⟨m, hm⟩ := List.mem_iff_getElem?.mp hm
    obtain ⟨i, y, e, a1, a2, a3, a4⟩ := hps m p hm
    have := S.inj i j y x e d p a3 a4 hx hr a2 hp
    subst this
    exact hj (List.mem_of_getElem? a1)
  -- a slot that was handed in
  have ins : ∀ {j : Nat} {y : SV}, j ∈ is → δ'[j]? = some (some y) → ∃ x d e p, δ[j]? = some (some x) ∧ x.root = some e ∧ y = x.re d ∧ σ[j]? = some (some (V.ref p)) ∧ G' p = none ∧ Root K G' H' p d := fun {j y} hj hy => by
    obtain ⟨m, hm⟩ := List.mem_iff_getElem?.mp hj
    obtain ⟨d, e, x, a1, a2, a3, a4⟩ := b2 m j hm
    rw [a4] at hy
    cases hy
    have hlt : m < ps.length := by rw [hl]; exact (List.getElem?_eq_some_iff.mp hm).1
    obtain ⟨i, y, f, c1, c2, c3, c4⟩ := hps m ps[m] (List.getElem?_eq_getElem hlt)
    rw [hm] at c1
    cases c1
    obtain ⟨q, g1, g2, g3⟩ := S.root c3 c4
    rw [c2] at g1
    cases g1
    obtain ⟨o, ho⟩ := g3.there
    exact ⟨x, d, e, _, a2, a3, rfl, c2, none' g2 ho, A.out.get (List.getElem?_eq_getElem hlt) a1⟩
  have rt : ∀ {j : Nat} {y : SV} {f : D}, δ'[j]? = some (some y) → y.root = some f → ∃ x e, δ[j]? = some (some x) ∧ SV.root x = some e := fun {j y f} hy hf => by
    by_cases hj : j ∈ is
    · obtain ⟨x, d, e, p, a1, a2, _⟩ := ins hj hy
      exact ⟨x, e, a1, a2⟩
    · rw [b1 j hj] at hy
      exact ⟨y, f, hy, hf⟩
  refine ⟨by rw [b3]; exact S.len, fun j d hd => ?_, fun j d hd => ?_, fun j d hd => ?_, fun i j x y d e p h1 r1 h2 r2 h3 h4 => ?_, A.sub, fun a o ha => ?_, fun a o ha hi => ?_, fun i a ha => ?_, S.g0⟩
  · by_cases hj : j ∈ is
    · obtain ⟨x, d', e, p, a1, a2, a3, _⟩ := ins hj hd
      cases x with
      | fz _ => cases a2
      | own _ => cases a3
      | inp _ => cases a3
    · rw [b1 j hj] at hd
      obtain ⟨v, a, b⟩ := S.fz j d hd
      exact ⟨v, a, b.mono A.le⟩
  · by_cases hj : j ∈ is
    · obtain ⟨x, d', e, p, a1, a2, a3, a4, a5, a6⟩ := ins hj hd
      cases x with
      | fz _ => cases a2
      | own _ =>
        cases a3
        obtain ⟨q, g1, _, _, g4⟩ := S.own j _ a1
        rw [a4] at g1
        cases g1
        exact ⟨p, a4, a5, a6, g4⟩
      | inp _ => cases a3
    · rw [b1 j hj] at hd
      obtain ⟨p, a, b, c, e⟩ := S.own j d hd
      obtain ⟨b', c'⟩ := keep b c (out hj hd rfl a)
      exact ⟨p, a, b', c', e⟩
  · by_cases hj : j ∈ is
    · obtain ⟨x, d', e, p, a1, a2, a3, a4, a5, a6⟩ := ins hj hd
      cases x with
      | fz _ => cases a2
      | own _ => cases a3
      | inp _ =>
        cases a3
        obtain ⟨q, g1, _, _, g4⟩ := S.inp j _ a1
        rw [a4] at g1
        cases g1
        exact ⟨p, a4, a5, a6, g4⟩
    · rw [b1 j hj] at hd
      obtain ⟨p, a, b, c, e⟩ := S.inp j d hd
      obtain ⟨b', c'⟩ := keep b c (out hj hd rfl a)
      exact ⟨p, a, b', c', e⟩
  · obtain ⟨x', d', a1, a2⟩ := rt h1 r1
    obtain ⟨y', e', c1, c2⟩ := rt h2 r2
    exact S.inj i j x' y' d' e' p a1 a2 c1 c2 h3 h4
  · rcases A.new a o ha with z | z
    · cases q : G a with
      | none => exact absurd q z
      | some u => exact S.new a u q
    · exact .inr (S.fresh z)
  · -- what stood at the entry
    have hn : a ∉ ps := fun hm => by
      obtain ⟨m, hm⟩ := List.mem_iff_getElem?.mp hm
      obtain ⟨i, x, d, a1, a2, a3, a4⟩ := hps m a hm
      cases x with
      | fz _ => cases a4
      | own _ =>
        obtain ⟨q, g1, _, _, g4⟩ := S.own i _ a3
        rw [a2] at g1
        cases g1
        rw [ha] at g4
        cases g4
      | inp _ =>
        obtain ⟨q, g1, _, _, g4⟩ := S.inp i _ a3
        rw [a2] at g1
        cases g1
        exact hi i g4
    rcases S.fr a o ha hi with z | ⟨z1, z2, od, z3⟩
    · rcases A.fr a o z hn with y | ⟨y1, y2, od, y3⟩
      · exact .inl y
      · refine .inr ⟨y1, ?_, od, y3⟩
        rcases S.new a o y2 with w | w
        · cases q : F.G0 a with
          | none => exact absurd q w
          | some u =>
            have := S.g0 a u q
            rw [ha] at this
            cases this
            rfl
        · rw [ha] at w; cases w
    · rcases A.fr a _ z3 hn with y | ⟨y1, _⟩
      · exact .inr ⟨z1, z2, od, y⟩
      · exact absurd y1.1 (fun q => q)
  · obtain ⟨⟨o, ho⟩, hg, h0⟩ := S.ioh i a ha
    refine ⟨?_, none' hg ho, h0⟩
    by_cases hm : a ∈ ps
    · obtain ⟨m, hm⟩ := List.mem_iff_getElem?.mp hm
      have hlt : m < is.length := by rw [← hl]; exact (List.getElem?_eq_some_iff.mp hm).1
      obtain ⟨d, e, x, a1, _⟩ := b2 m is[m] (List.getElem?_eq_getElem hlt)
      exact (A.out.get hm a1).there
    · rcases A.fr a o ho hm with z | ⟨_, z, _⟩
      · exact ⟨o, z⟩
      · rw [hg] at z; cases z
theorem RepP.after {outs : List D} {is : List Nat} {δ' : Dl} {v : V} {o : OV} (S : Sim K F G H σ δ) (hb : putBack is outs δ = some δ') (nd : is.Nodup) (h : RepP K H G' H' v o) : RepO K H G' H' σ δ' v o := by
  cases o with
  | val d => exact h
  | new d =>
    obtain ⟨p, rfl, a, b, c⟩ := h
    refine ⟨p, rfl, b, c, a, fun i x e hx r hs => ?_⟩
    obtain ⟨x', e', hx', r'⟩ := putBack_root hb nd hx r
    obtain ⟨q, e1, _, e3⟩ := S.root hx' r'
    rw [hs] at e1; cases e1
    obtain ⟨w, hw⟩ := e3.there
    rw [hw] at a; cases a
theorem After.mv {ps : List Addr} {outs : List D} {is : List Nat} {δ' : Dl} (A : After K G H ps outs G' H') (hl : ps.length = is.length)
    (hps : ∀ (j : Nat) (p : Addr), ps[j]? = some p → ∃ (i : Nat) (x : SV) (d : D), is[j]? = some i ∧ σ[i]? = some (some (V.ref p)) ∧ δ[i]? = some (some x) ∧ SV.root x = some d) (nd : is.Nodup)
    (h : putBack is outs δ = some δ') : Mv σ δ G H δ' G' H' := by
  refine ⟨A.le, fun a o ho hg ap => ⟨?_, ?_, fun i x e hx r hs => ?_⟩, fun a ha => ?_⟩
  · have hn : a ∉ ps := fun hm => by
      obtain ⟨m, hm⟩ := List.mem_iff_getElem?.mp hm
      obtain ⟨i, x, d, a1, a2, a3, a4⟩ := hps m a hm
      exact ap i x d a3 a4 a2
    rcases A.fr a o ho hn with z | ⟨_, z, _⟩
    · exact z
    · rw [hg] at z; cases z
  · cases q : G' a with
    | none => rfl
    | some u =>
      rcases A.new a u q with z | z
      · exact absurd hg z
      · rw [ho] at z; cases z
  · obtain ⟨x', e', hx', r'⟩ := putBack_root h nd hx r
    exact ap i x' e' hx' r' hs
  · cases q : H a with
    | none => rfl
    | some o =>
      by_cases hm : a ∈ ps
      · obtain ⟨b1, b2, b3⟩ := putBack_at h nd
        obtain ⟨m, hm⟩ := List.mem_iff_getElem?.mp hm
        have hlt : m < is.length := by rw [← hl]; exact (List.getElem?_eq_some_iff.mp hm).1
        obtain ⟨d, e, x, a1, _⟩ := b2 m is[m] (List.getElem?_eq_getElem hlt)
        obtain ⟨u, hu⟩ := (A.out.get hm a1).there
        rw [ha] at hu; cases hu
      · rcases A.fr a o q hm with z | ⟨_, _, od, z⟩
        · rw [ha] at z; cases z
        · rw [ha] at z; cases z
end

/-! ### calls of defs -/
def nodupB : List Nat → Bool
  | [] => true
  | i :: is => !is.contains i && nodupB is
theorem nodup_of : ∀ {l : List Nat}, nodupB l = true → l.Nodup
  | [], _ => .nil
  | i :: is, h => by
    simp only [nodupB, Bool.and_eq_true, Bool.not_eq_true', List.contains_eq_mem, decide_eq_false_iff_not] at h
    exact List.nodup_cons.mpr ⟨h.1, nodup_of h.2⟩
/-- a call of F with operands; ds: the defaults that fill up -/
def callRs (F : Fm) (rs : List RV) (ds : List D) (δ : Dl) : Option (OV × Dl) := (toArgs rs δ).bind fun as => if nodupB (slotsOf rs) = true then (F (as ++ ds.map .fz)).bind fun r => (putBack (slotsOf rs) r.2 δ).map fun δ' => (r.1, δ') else none
def fCall (F : Fm) (fa : Fr2) (ds : List D) : Fn := fun δ => (fa δ).bind fun p => callRs F p.1 ds p.2
inductive ArgD (K : PySem.W.Frag) : List V → List D → Prop
  | nil : ArgD K [] []
  | cons {v : V} {vs : List V} {d : D} {ds : List D} : (∀ G, Rep K G v d) → ArgD K vs ds → ArgD K (v :: vs) (d :: ds)
theorem ArgR.append {K : PySem.W.Frag} {G H : Hp} {vs : List V} {as : List SV} {ps : List Addr} {ws : List V} {ds : List D} (h : ArgR K G H vs as ps) (hd : ArgD K ws ds) : ArgR K G H (vs ++ ws) (as ++ ds.map .fz) ps := by
  induction h with
  | nil =>
    induction hd with
    | nil => exact .nil
    | cons r _ ih => exact .fz (r G) ih
  | fz r _ ih => exact .fz r ih
  | inp a b _ ih => exact .inp a b ih
theorem call_imp {K : PySem.W.Frag} {Fd : Fm} {F : Fr} {G H : Hp} {σ : St} {δ : Dl} {vs : List V} {rs : List RV} {ws : List V} {ds : List D} {o : OV} {δ' : Dl} {Q : VK} {E : XK} (S : Sim K F G H σ δ) (r : RepRs K G σ vs rs) (hd : ArgD K ws ds)
    (e : callRs Fd rs ds δ = some (o, δ')) (k : ∀ v H' G', Sim K F G' H' σ δ' → Mv σ δ G H δ' G' H' → RepO K H G' H' σ δ' v o → Q v H') : spT K Fd (vs ++ ws) H Q E := by
  obtain ⟨as, e1, e⟩ := Option.bind_eq_some_iff.mp e
  split at e
  · rename_i nd
    have nd := nodup_of nd
    obtain ⟨⟨o', outs⟩, e2, e⟩ := Option.bind_eq_some_iff.mp e
    obtain ⟨δ2, e3, e4⟩ := Option.map_eq_some_iff.mp e
    cases e4
    obtain ⟨ps, a, b, c, f⟩ := S.args r e1 nd
    refine ⟨G, _, ps, _, outs, S.sub, a.append hd, b, e2, fun v H' G' A rp => ?_⟩
    have S' := S.after_call A c f nd e3
    exact k v H' G' S' (A.mv c f nd e3) (rp.after S e3 nd)
  · cases e
/-- a def of the module, called by its name; it computes Fd; ds: its defaults that fill up -/
structure Cal (P : Program) (w : World) (K : PySem.W.Frag) (mg : Str → Option Value) (base : Heap) (k : Nat) (x : Str) (Fd : Fm) (ds : List D) : Prop where
  ex : ∃ (f : Addr) (fd : FuncData) (ps : List Str) (us : List Value) (dvs : List V), FnOk P w K mg base CX0 k f fd ps (spT K Fd) ∧ mg x = some (.ref f) ∧ PySem.W.keepIn K (.ref f) = true ∧ Binds K fd ps us ∧ Vals dvs us ∧ ArgD K dvs ds
/-- a method of the class at C -/
structure Met (P : Program) (w : World) (K : PySem.W.Frag) (mg : Str → Option Value) (base : Heap) (k : Nat) (C : Addr) (m : Str) (Fd : Fm) (ds : List D) : Prop where
  ex : ∃ (f : Addr) (fd : FuncData) (ps : List Str) (us : List Value) (dvs : List V), Cls K C ∧ Meth K C m f ∧ FnOk P w K mg base CX0 k f fd ps (spT K Fd) ∧ Binds K fd ps us ∧ Vals dvs us ∧ ArgD K dvs ds
/-- a class of the module, made by its name; Fd: its __init__ -/
structure Mak (P : Program) (w : World) (K : PySem.W.Frag) (mg : Str → Option Value) (base : Heap) (k : Nat) (x : Str) (C : Addr) (Fd : Fm) (ds : List D) : Prop where
  ex : ∃ (f : Addr) (fd : FuncData) (ps : List Str) (us : List Value) (dvs : List V), Mk K C f ∧ FnOk P w K mg base CX0 k f fd ps (spT K Fd) ∧ mg x = some (.ref C) ∧ Binds K fd ps us ∧ Vals dvs us ∧ ArgD K dvs ds
/-- an instance's method: the receiver first, as it stands -/
def fMeth (C : Addr) (m : Str) (F : Fm) (fo : Fe) (fa : Fr2) (ds : List D) : Fn := fun δ => (fo δ).bind fun p => match peek p.1 p.2 with
  | some (.obj C' fs) => if C' = C ∧ (fs.lookup m).isNone = true then (fa p.2).bind fun q => callRs F (p.1 :: q.1) ds q.2 else none
  | _ => none
theorem RepF.lookup {K : PySem.W.Frag} {G : Hp} {m : Str} : ∀ {vs : List (Str × V)} {ds : List (Str × D)}, RepF K G vs ds → RepOpt K G (vs.lookup m) (ds.lookup m)
  | _, _, .nil => trivial
  | (k, v) :: vs, _, .cons h r => by
    have ih := RepF.lookup (m := m) r
    by_cases e : m = k
    · have hb : (m == k) = true := beq_iff_eq.mpr e
      simp only [List.lookup, hb]
      exact h
    · have hb : (m == k) = false := beq_eq_false_iff_ne.mpr e
      simp only [List.lookup, hb]
      exact ih
section
variable {X : Cx} {k j : Nat} {C : Addr} {x m : Str} {Fd : Fm} {ds : List D} {p pos apos : Pos} {e o : Expr} {es : List Expr} {fa : Fr2} {fo : Fe}
/-- f(..), f a def of the module -/
theorem en_call (c : Cal X.prog X.w X.K X.mg X.base k x Fd ds) (hr : Room j X.A) (hk : k ≤ j) (hg : Gl X x) (ha : Am X (e :: es) fa)
    (hdb : (x == ("__debug__" : Str)) = false := by decide) (he : starEach (e :: es) X.env = (false, eval e X.env) :: starEach es X.env := by rfl) (hpl : (backTo pos (starEach es X.env)).any (·.1) = false := by rfl) :
    En X (.Call (.Name x p) (e :: es) [] pos) (fCall Fd fa ds) := by
  obtain ⟨f, fd, ps, us, dvs, F, hm, kp, b, d, hd⟩ := c.ex
  refine PE.imp (pe_call F (hr.mono hk) hg hm kp b d pass0 ha hdb he hpl) fun σ H Q ⟨F, G, δ, o, δ', S, e, k⟩ => ?_
  obtain ⟨⟨rs, δ1⟩, e1, e2⟩ := Option.bind_eq_some_iff.mp e
  exact ⟨F, G, δ, rs, δ1, S, e1, fun vs H1 G1 S1 b1 r1 => call_imp S1 r1 hd e2 fun v H' G' S' l r => k v H' G' S' (b1.trans l) (r.old b1.dom)⟩
theorem en_call0 (c : Cal X.prog X.w X.K X.mg X.base k x Fd ds) (hr : Room j X.A) (hk : k ≤ j) (hg : Gl X x) (hdb : (x == ("__debug__" : Str)) = false := by decide) : En X (.Call (.Name x p) [] [] pos) (fCall Fd fM0 ds) := by
  obtain ⟨f, fd, ps, us, dvs, F, hm, kp, b, d, hd⟩ := c.ex
  refine PE.imp (pe_call0 F (hr.mono hk) hg hm kp b d pass0 hdb) fun σ H Q ⟨F, G, δ, o, δ', S, e, k⟩ => ?_
  obtain ⟨⟨rs, δ1⟩, e1, e2⟩ := Option.bind_eq_some_iff.mp e
  cases e1
  exact call_imp (E := E0) S .nil hd e2 fun v H' G' S' l r => k v H' G' S' l r
theorem meth_imp {K : PySem.W.Frag} {t : TA} {σ : St} {H : Hp} {Q : VK} {dvs : List V} (hd : ArgD K dvs ds) (ht : ∀ σ H Q, tAm K fa σ H Q → t σ H Q) (h : tEn K (fMeth C m Fd fo fa ds) σ H Q) : tMeth C m (spT K Fd) dvs E0 (tEv K fo) t σ H Q := by
  obtain ⟨F, G, δ, o, δ', S, e, k⟩ := h
  obtain ⟨⟨r, δ1⟩, e1, e2⟩ := Option.bind_eq_some_iff.mp e
  dsimp only at e2
  split at e2
  · rename_i C' fs hp
    split at e2
    · rename_i hc
      obtain ⟨rfl, hn⟩ := hc
      obtain ⟨⟨rs, δ2⟩, e3, e4⟩ := Option.bind_eq_some_iff.mp e2
      refine ⟨F, G, δ, r, δ1, S, e1, fun v1 H1 G1 S1 b1 r1 => ?_⟩
      obtain ⟨a, dx, vs, rfl, h1, h2⟩ := (S1.peek r1 hp).obj S1.sub
      refine ⟨a, dx, vs, rfl, h1, ?_, ht _ _ _ ⟨F, G1, δ1, rs, δ2, S1, e3, fun ws H2 G2 S2 b2 r2 => ?_⟩⟩
      · have := h2.lookup (m := m)
        cases q : vs.lookup m with
        | none => rfl
        | some v =>
          rw [q] at this
          cases q2 : fs.lookup m with
          | none => rw [q2] at this; exact this.elim
          | some d => rw [q2] at hn; cases hn
      · exact call_imp (vs := V.ref a :: ws) S2 (.cons (r1.mono b2.le) r2) hd e4 fun v H' G' S' l r => k v H' G' S' (b1.trans (b2.trans l)) (r.old fun a h => b1.dom a (b2.dom a h))
    · cases e2
  · cases e2
theorem en_meth {pl : Sem Bool} (c : Met X.prog X.w X.K X.mg X.base k C m Fd ds) (hr : Room j X.A) (hk : k ≤ j) (he : Ev X o fo) (ha : Am X (e :: es) fa)
    (hst : starEach (e :: es) X.env = (false, eval e X.env) :: starEach es X.env := by rfl) (hpl : (backTo pos (starEach es X.env)).any (·.1) = false := by rfl)
    (ht : eval (.Call (.Attribute o m apos) (e :: es) [] pos) X.env = (do
      let ov ← eval o X.env
      standAt apos.atName
      let (f, first) ← holding [ov] (getMethod ov m pl)
      callWith pos f first (backTo pos (starEach (e :: es) X.env)) (backToKw pos (keywordEach [] X.env))) := by rfl) :
    En X (.Call (.Attribute o m apos) (e :: es) [] pos) (fMeth C m Fd fo fa ds) := by
  obtain ⟨f, fd, ps, us, dvs, c, hm, F, b, d, hd⟩ := c.ex
  exact PE.imp (pe_meth he c hm F (hr.mono hk) b d pass0 ha hst hpl ht) fun σ H Q h => meth_imp hd (fun _ _ _ q => q) h
theorem en_meth0 {pl : Sem Bool} (c : Met X.prog X.w X.K X.mg X.base k C m Fd ds) (hr : Room j X.A) (hk : k ≤ j) (he : Ev X o fo)
    (ht : eval (.Call (.Attribute o m apos) [] [] pos) X.env = (do
      let ov ← eval o X.env
      standAt apos.atName
      let (f, first) ← holding [ov] (getMethod ov m pl)
      callWith pos f first (backTo pos (starEach [] X.env)) (backToKw pos (keywordEach [] X.env))) := by rfl) :
    En X (.Call (.Attribute o m apos) [] [] pos) (fMeth C m Fd fo fM0 ds) := by
  obtain ⟨f, fd, ps, us, dvs, c, hm, F, b, d, hd⟩ := c.ex
  exact PE.imp (pe_meth0 he c hm F (hr.mono hk) b d pass0 ht) fun σ H Q h => meth_imp hd (fun σ H Q ⟨F, G, δ, o, δ', S, e, k⟩ => by cases e; exact k [] H G S .refl .nil) h
end
end L2.Tl

set_option Elab.async false
set_option linter.all false
set_option autoImplicit false
set_option maxRecDepth 100000
namespace L2.Tl
open PySem PySem.Spec PyProof.Rows

/-! ### statements -/
def sNext : Fs := fun δ => some (.next, δ)
def sBrk : Fs := fun δ => some (.brk, δ)
def sCnt : Fs := fun δ => some (.cnt, δ)
def sSeq (f g : Fs) : Fs := fun δ => (f δ).bind fun p => match p.1 with
  | .next => g p.2
  | _ => some p
def sNever : Fs := fun _ => none
section
variable {X : Cx} {pos pos' : Pos}
theorem ss_nil : Ss X [] sNext := PSs.imp pss_nil fun D σ H ⟨F, G, δ, fl, δ', S, e, k⟩ => by
  cases e
  exact k σ H G S (.refl _)
theorem ss_cons {st : Stmt} {rest : List Stmt} {f g : Fs} (h : Sm X st f) (hr : Ss X rest g) : Ss X (st :: rest) (sSeq f g) := PSs.imp (pss_cons h hr) fun D σ H ⟨F, G, δ, fl, δ', S, e, k⟩ => by
  obtain ⟨⟨fl1, δ1⟩, e1, e2⟩ := Option.bind_eq_some_iff.mp e
  refine ⟨F, G, δ, fl1, δ1, S, e1, ?_⟩
  cases fl1 with
  | next =>
    dsimp only at e2
    intro σ1 H1 G1 S1 l1
    refine ⟨F, G1, δ1, fl, δ', S1, e2, ?_⟩
    cases fl with
    | next => exact fun σ2 H2 G2 S2 l2 => k σ2 H2 G2 S2 (l1.trans l2)
    | brk => exact fun σ2 H2 G2 S2 l2 => k σ2 H2 G2 S2 (l1.trans l2)
    | cnt => exact fun σ2 H2 G2 S2 l2 => k σ2 H2 G2 S2 (l1.trans l2)
    | ret o => exact fun v σ2 H2 G2 S2 l2 r => k v σ2 H2 G2 S2 (l1.trans l2) r
  | brk => cases e2; exact k
  | cnt => cases e2; exact k
  | ret o => cases e2; exact k
theorem ss_one {st : Stmt} {f : Fs} (h : Sm X st f) : Ss X [st] f := pss_one h
theorem sm_pass : Sm X (.Pass pos) sNext := PS.imp ps_pass fun D σ H ⟨F, G, δ, fl, δ', S, e, k⟩ => by
  cases e
  exact k σ H G S (.refl _)
theorem sm_brk : Sm X (.Break pos) sBrk := PS.imp ps_break fun D σ H ⟨F, G, δ, fl, δ', S, e, k⟩ => by
  cases e
  exact k σ H G S (.refl _)
theorem sm_cnt : Sm X (.Continue pos) sCnt := PS.imp ps_continue fun D σ H ⟨F, G, δ, fl, δ', S, e, k⟩ => by
  cases e
  exact k σ H G S (.refl _)
/-- what is never come to -/
theorem sm_never {st : Stmt} : Sm X st sNever := PS.imp ps_never fun D σ H ⟨F, G, δ, fl, δ', S, e, k⟩ => by cases e
theorem ss_never {st : List Stmt} : Ss X st sNever := PSs.imp pss_never fun D σ H ⟨F, G, δ, fl, δ', S, e, k⟩ => by cases e
def sIf (c : Ft) (a b : Fs) : Fs := fun δ => (c δ).bind fun p => if p.1 = true then a p.2 else b p.2
theorem sm_if {c : Expr} {a b : List Stmt} {fc : Ft} {fa fb : Fs} (hc : Ts X c fc) (ha : Ss X a fa) (hb : Ss X b fb) : Sm X (.If c a b pos) (sIf fc fa fb) := PS.imp (ps_if hc ha hb) fun D σ H ⟨F, G, δ, fl, δ', S, e, k⟩ => by
  obtain ⟨⟨t, δ1⟩, e1, e2⟩ := Option.bind_eq_some_iff.mp e
  refine ⟨F, G, δ, t, δ1, S, e1, fun H1 G1 S1 m => ?_⟩
  dsimp only at e2
  have fin : tSt X.K (fun δ => if t = true then fa δ else fb δ) D σ H1 := by
    refine ⟨F, G1, δ1, fl, δ', S1, e2, ?_⟩
    cases fl with
    | next => exact fun σ2 H2 G2 S2 l2 => k σ2 H2 G2 S2 (m.le.trans l2)
    | brk => exact fun σ2 H2 G2 S2 l2 => k σ2 H2 G2 S2 (m.le.trans l2)
    | cnt => exact fun σ2 H2 G2 S2 l2 => k σ2 H2 G2 S2 (m.le.trans l2)
    | ret o => exact fun v σ2 H2 G2 S2 l2 r => k v σ2 H2 G2 S2 (m.le.trans l2) r
  cases t with
  | true => exact fin
  | false => exact fin
/-- an expression whose value is dropped -/
def sEx (f : Fn) : Fs := fun δ => (f δ).map fun p => (.next, p.2)
theorem sm_ex {e : Expr} {f : Fn} (h : En X e f) (hs : swapsWith e none pos.line X.env = pure false := by rfl) : Sm X (.Expr e pos) (sEx f) := PS.imp (ps_expr h hs) fun D σ H ⟨F, G, δ, fl, δ', S, e, k⟩ => by
  obtain ⟨⟨o, δ1⟩, e1, e2⟩ := Option.map_eq_some_iff.mp e
  cases e2
  exact ⟨F, G, δ, o, δ1, S, e1, fun v H1 G1 S1 m _ => k σ H1 G1 S1 m.le⟩
theorem sm_doc {x : Str} {j : Nat} : Sm X (.Expr (.Constant (.str x) j pos) pos') sNext := PS.imp ps_doc fun D σ H ⟨F, G, δ, fl, δ', S, e, k⟩ => by
  cases e
  exact k σ H G S (.refl _)
/-- return -/
def sRet (f : Fn) : Fs := fun δ => (f δ).map fun p => (.ret p.1, p.2)
theorem sm_ret {e : Expr} {f : Fn} (h : En X e f) : Sm X (.Return (some e) pos) (sRet f) := PS.imp (ps_ret h) fun D σ H ⟨F, G, δ, fl, δ', S, e, k⟩ => by
  obtain ⟨⟨o, δ1⟩, e1, e2⟩ := Option.map_eq_some_iff.mp e
  cases e2
  exact ⟨F, G, δ, o, δ1, S, e1, fun v H1 G1 S1 m r => k v σ H1 G1 S1 m.le (r.old fun a h => S.fresh h)⟩
def sRetN : Fs := fun δ => some (.ret (.val .non), δ)
theorem sm_retN : Sm X (.Return none pos) sRetN := PS.imp ps_retN fun D σ H ⟨F, G, δ, fl, δ', S, e, k⟩ => by
  cases e
  exact k .non σ H G S (.refl _) .non
/-- return x, x the frame's own object: it's the caller's then -/
def fMove (i : Nat) : Fn := fun δ => match δ[i]? with
  | some (some (.own d)) => some (.new d, δ.set i none)
  | some (some (.fz d)) => some (.val d, δ)
  | _ => none
theorem sm_retMove {x : Str} (i : Nat) (hN : X.N[i]? = some x := by rfl) (hv : Vis X.env.scope x := by first | exact Or.inl rfl | exact Or.inr (Or.inl rfl) | exact Or.inr (Or.inr rfl)) (hd : (x == ("__debug__" : Str)) = false := by decide)
    (hcd : (x == ("__classdict__" : Str)) = false := by decide) : Sm X (.Return (some (.Name x pos)) pos') (sRet (fMove i)) := PS.imp (ps_ret (pe_var hN hv hd hcd)) fun D σ H ⟨F, G, δ, fl, δ', S, e, k⟩ => by
  obtain ⟨⟨o, δ1⟩, e1, e2⟩ := Option.map_eq_some_iff.mp e
  cases e2
  unfold fMove at e1
  split at e1
  · rename_i d h
    cases e1
    obtain ⟨p, a, b, c, f⟩ := S.own i d h
    have hl : i < δ.length := (List.getElem?_eq_some_iff.mp h).1
    refine ⟨.ref p, a, k (.ref p) σ H G (S.drop i) (.refl _) ⟨p, rfl, b, c, f, fun j x e hj r hs => ?_⟩⟩
    by_cases n : j = i
    · subst n
      rw [List.getElem?_set_self hl] at hj; cases hj
    · rw [List.getElem?_set_ne (Ne.symm n)] at hj
      exact n (S.inj j i x _ e d p hj r h rfl hs a)
  · rename_i d h
    cases e1
    obtain ⟨v, a, b⟩ := S.fz i d h
    exact ⟨v, a, k v σ H G S (.refl _) b⟩
  · cases e1

/-! ### stores to names -/
/-- x = e, e let go -/
def sSet (i : Nat) (f : Fe) : Fs := fun δ => (f δ).bind fun p => (esc p.1 p.2).map fun q => (.next, q.2.set i (some (.fz q.1)))
theorem sm_set {i : Nat} {x : Str} {e : Expr} {f : Fe} (hN : X.N.Nodup) (hi : X.N[i]? = some x) (hx : Loc X.env.scope x) (h : Ev X e f) (hs : swapsWith e (some (.Name x pos')) pos.line X.env = pure false := by rfl) (hf : X.fn x = true ∨ X.env.scope.names.lookup x = some .local := by first | exact .inl rfl | exact .inr rfl | assumption) :
    Sm X (.Assign [.Name x pos'] e pos) (sSet i f) := PS.imp (ps_set hN hi hx h hs hf) fun D σ H ⟨F, G, δ, fl, δ', S, e, k⟩ => by
  obtain ⟨⟨r, δ1⟩, e1, e2⟩ := Option.bind_eq_some_iff.mp e
  obtain ⟨⟨d, δ2⟩, e3, e4⟩ := Option.map_eq_some_iff.mp e2
  cases e4
  refine ⟨F, G, δ, r, δ1, S, e1, fun v H1 G1 S1 m r1 => ?_⟩
  obtain ⟨G2, S2, m2, r2⟩ := S1.esc r1 e3
  exact k _ H1 G2 (S2.set r2 i) (m.le.trans m2.le)
/-- x = e, a new object is the frame's own -/
def setO (i : Nat) (o : OV) (δ : Dl) : Dl := match o with
  | .val d => δ.set i (some (.fz d))
  | .new d => δ.set i (some (.own d))
def sOwn (i : Nat) (f : Fn) : Fs := fun δ => (f δ).map fun p => (.next, setO i p.1 p.2)
theorem Sim.setO {K : PySem.W.Frag} {F : Fr} {Z G H : Hp} {σ : St} {δ : Dl} {v : V} {o : OV} (S : Sim K F G H σ δ) (r : RepO K Z G H σ δ v o) (hz : ∀ a, Z a = none → F.H0 a = none) (i : Nat) : Sim K F G H (σ.set i (some v)) (Tl.setO i o δ) := by
  cases o with
  | val d => exact S.set r i
  | new d =>
    obtain ⟨p, rfl, a, b, c, e⟩ := r
    exact S.setOwn a b (hz p c) e i
theorem sm_own {i : Nat} {x : Str} {e : Expr} {f : Fn} (hN : X.N.Nodup) (hi : X.N[i]? = some x) (hx : Loc X.env.scope x) (h : En X e f) (hs : swapsWith e (some (.Name x pos')) pos.line X.env = pure false := by rfl) (hf : X.fn x = true ∨ X.env.scope.names.lookup x = some .local := by first | exact .inl rfl | exact .inr rfl | assumption) :
    Sm X (.Assign [.Name x pos'] e pos) (sOwn i f) := PS.imp (ps_set hN hi hx h hs hf) fun D σ H ⟨F, G, δ, fl, δ', S, e, k⟩ => by
  obtain ⟨⟨o, δ1⟩, e1, e2⟩ := Option.map_eq_some_iff.mp e
  cases e2
  exact ⟨F, G, δ, o, δ1, S, e1, fun v H1 G1 S1 m r => k _ H1 G1 (S1.setO r (fun a h => S.fresh h) i) m.le⟩

def dAddI : D → D → Option OV
  | .int i, .int j => some (.val (.int (i + j)))
  | _, _ => none
/-! ### several at once -/
abbrev Fp := Dl → Option (List OV × Dl)
inductive RepOs (K : PySem.W.Frag) (Z G H : Hp) (σ : St) (δ : Dl) : List V → List OV → List Addr → Prop
  | nil : RepOs K Z G H σ δ [] [] []
  | val {v : V} {vs : List V} {d : D} {os : List OV} {ps : List Addr} : Rep K G v d → RepOs K Z G H σ δ vs os ps → RepOs K Z G H σ δ (v :: vs) (.val d :: os) ps
  | new {p : Addr} {vs : List V} {d : D} {os : List OV} {ps : List Addr} : G p = none → Root K G H p d → Z p = none → Apart σ δ p → p ∉ ps → RepOs K Z G H σ δ vs os ps → RepOs K Z G H σ δ (.ref p :: vs) (.new d :: os) (p :: ps)
def tPn (K : PySem.W.Frag) (f : Fp) : TA := fun σ H Q => ∃ F G δ os δ', Sim K F G H σ δ ∧ f δ = some (os, δ') ∧ ∀ vs ps H' G', Sim K F G' H' σ δ' → Mv σ δ G H δ' G' H' → RepOs K H G' H' σ δ' vs os ps → Q vs H'
def Pn (X : Cx) (es : List Expr) (f : Fp) : Prop := PA X es (tPn X.K f)
def fP0 : Fp := fun δ => some ([], δ)
def fP (f : Fn) (r : Fp) : Fp := fun δ => (f δ).bind fun p => (r p.2).map fun q => (p.1 :: q.1, q.2)
theorem pn_nil : Pn X [] fP0 := PA.imp pa_nil fun σ H Q ⟨F, G, δ, o, δ', S, e, k⟩ => by
  cases e
  exact k [] [] H G S .refl .nil
theorem RepOs.old {K : PySem.W.Frag} {Z Z' G H : Hp} {σ : St} {δ : Dl} {vs : List V} {os : List OV} {ps : List Addr} (h : RepOs K Z G H σ δ vs os ps) (z : ∀ a, Z a = none → Z' a = none) : RepOs K Z' G H σ δ vs os ps := by
  induction h with
  | nil => exact .nil
  | val r _ ih => exact .val r ih
  | new a b c e n _ ih => exact .new a b (z _ c) e n ih
theorem RepOs.mem {K : PySem.W.Frag} {Z G H : Hp} {σ : St} {δ : Dl} {vs : List V} {os : List OV} {ps : List Addr} (h : RepOs K Z G H σ δ vs os ps) : ∀ p, p ∈ ps → Z p = none := by
  induction h with
  | nil => intro p h; simp at h
  | val r _ ih => exact ih
  | new a b c e n _ ih =>
    intro p hp
    rcases List.mem_cons.mp hp with z | z
    · rw [z]; exact c
    · exact ih p z
theorem pn_cons {e : Expr} {es : List Expr} {f : Fn} {r : Fp} (h : En X e f) (hr : Pn X es r) (hs : starEach (e :: es) X.env = (false, eval e X.env) :: starEach es X.env := by rfl) : Pn X (e :: es) (fP f r) :=
  PA.imp (pa_cons h hr hs) fun σ H Q ⟨F, G, δ, o, δ', S, e, k⟩ => by
    obtain ⟨⟨o1, δ1⟩, e1, e⟩ := Option.bind_eq_some_iff.mp e
    obtain ⟨⟨os, δ2⟩, e2, e3⟩ := Option.map_eq_some_iff.mp e
    cases e3
    refine ⟨F, G, δ, o1, δ1, S, e1, fun v1 H1 G1 S1 m1 r1 => ⟨F, G1, δ1, os, δ2, S1, e2, fun vs ps H2 G2 S2 m2 r2 => ?_⟩⟩
    cases o1 with
    | val d => exact k _ ps H2 G2 S2 (m1.trans m2) (.val (Rep.mono m2.le r1) (r2.old m1.dom))
    | new d =>
      obtain ⟨p, rfl, a, b, c, ap⟩ := r1
      obtain ⟨w, hw⟩ := b.there
      obtain ⟨h1, h2, h3⟩ := m2.stay p w hw a ap
      refine k _ (p :: ps) H2 G2 S2 (m1.trans m2) (.new h2 (b.mono m2.le (h1.trans hw.symm)) c h3 (fun hm => ?_) (r2.old m1.dom))
      have := r2.mem p hm
      rw [hw] at this; cases this
def setAll : List Nat → List OV → Dl → Option Dl
  | [], [], δ => some δ
  | i :: is, o :: os, δ => setAll is os (setO i o δ)
  | _, _, _ => none
def setVs : List Nat → List V → St → St
  | i :: is, v :: vs, σ => setVs is vs (σ.set i (some v))
  | _, _, σ => σ
/-- a thing stored elsewhere leaves another one apart -/
theorem Apart.set {σ : St} {δ : Dl} {p : Addr} {v : V} {x : SV} (ap : Apart σ δ p) (i : Nat) (hl : σ.length = δ.length) (hv : ∀ d, x.root = some d → v ≠ .ref p) : Apart (σ.set i (some v)) (δ.set i (some x)) p := fun j y d hj r hs => by
  by_cases n : j = i
  · subst n
    by_cases hlt : j < δ.length
    · rw [List.getElem?_set_self hlt] at hj
      cases hj
      rw [List.getElem?_set_self (by rw [hl]; exact hlt)] at hs
      cases hs
      exact hv d r rfl
    · rw [List.getElem?_eq_none (by simpa using hlt)] at hj; cases hj
  · rw [List.getElem?_set_ne (Ne.symm n)] at hj hs
    exact ap j y d hj r hs
theorem RepOs.set {K : PySem.W.Frag} {Z G H : Hp} {σ : St} {δ : Dl} {vs : List V} {os : List OV} {ps : List Addr} (h : RepOs K Z G H σ δ vs os ps) (hl : σ.length = δ.length) {v : V} {x : SV} (i : Nat) :
    (∀ d, x.root = some d → ∀ p, p ∈ ps → v ≠ .ref p) → RepOs K Z G H (σ.set i (some v)) (δ.set i (some x)) vs os ps := by
  induction h with
  | nil => exact fun _ => .nil
  | val a _ ih => exact fun k => .val a (ih k)
  | new a b c ap n _ ih => exact fun k => .new a b c (ap.set i hl fun d hd => k d hd _ List.mem_cons_self) n (ih fun d hd p hp => k d hd p (List.mem_cons_of_mem _ hp))
theorem Sim.setAll {K : PySem.W.Frag} {F : Fr} {Z G H : Hp} (hz : ∀ a, Z a = none → F.H0 a = none) : ∀ {is : List Nat} {os : List OV} {vs : List V} {ps : List Addr} {σ : St} {δ δ' : Dl}, Sim K F G H σ δ → RepOs K Z G H σ δ vs os ps →
    Tl.setAll is os δ = some δ' → Sim K F G H (setVs is vs σ) δ'
  | [], [], _, _, σ, δ, δ', S, r, e => by
    cases e
    cases r
    exact S
  | i :: is, .val d :: os, v :: vs, ps, σ, δ, δ', S, .val h r, e => by
    show Sim K F G H (setVs is vs (σ.set i (some v))) δ'
    exact Sim.setAll hz (S.set h i) (r.set S.len (x := .fz d) i fun d h => by cases h) e
  | i :: is, .new d :: os, .ref p :: vs, _ :: ps, σ, δ, δ', S, .new a b c ap n r, e => by
    show Sim K F G H (setVs is vs (σ.set i (some (V.ref p)))) δ'
    exact Sim.setAll hz (S.setOwn a b (hz p c) ap i) (r.set S.len (x := .own d) i fun d' _ q hq z => n (by cases z; exact hq)) e
  | [], _ :: _, _, _, _, _, _, _, _, e => nomatch e
  | _ :: _, [], _, _, _, _, _, _, _, e => nomatch e
def sPar (is : List Nat) (f : Fp) : Fs := fun δ => (f δ).bind fun p => (setAll is p.1 p.2).map fun δ' => (.next, δ')
/-- the targets' names, one after another -/
inductive GNs (X : Cx) : List Expr → List Nat → Prop
  | nil : GNs X [] []
  | cons {i : Nat} {x : Str} {p : Pos} {es : List Expr} {is : List Nat} : X.N[i]? = some x → Loc X.env.scope x → (X.fn x = true ∨ X.env.scope.names.lookup x = some .local) → GNs X es is → GNs X (.Name x p :: es) (i :: is)
def gSets : List Nat → TGs
  | [] => gNil
  | i :: is => gCons (gName i) (gSets is)
theorem GNs.pgs (hN : X.N.Nodup) {es : List Expr} {is : List Nat} (h : GNs X es is) : PGs X es (gSets is) := by
  induction h with
  | nil => exact pgs_nil
  | cons a b c _ ih => exact pgs_cons (pg_name hN a b c) ih
theorem gSets_of : ∀ {is : List Nat} {vs : List V} {σ : St} {H : Hp} {Q : St → Hp → Prop}, is.length = vs.length → Q (setVs is vs σ) H → gSets is vs σ H Q
  | [], [], _, _, _, _, q => ⟨rfl, q⟩
  | i :: is, v :: vs, σ, H, Q, h, q => ⟨v, vs, rfl, gSets_of (by simpa using h) q⟩
theorem setAll_length : ∀ {is : List Nat} {os : List OV} {δ δ' : Dl}, setAll is os δ = some δ' → is.length = os.length
  | [], [], _, _, _ => rfl
  | _ :: _, _ :: _, _, _, h => by simp only [setAll] at h; simp [setAll_length h]
  | [], _ :: _, _, _, h => nomatch h
  | _ :: _, [], _, _, h => nomatch h
theorem RepOs.length {K : PySem.W.Frag} {Z G H : Hp} {σ : St} {δ : Dl} {vs : List V} {os : List OV} {ps : List Addr} (h : RepOs K Z G H σ δ vs os ps) : vs.length = os.length := by
  induction h with
  | nil => rfl
  | val _ _ ih => simp [ih]
  | new _ _ _ _ _ _ ih => simp [ih]
theorem RepOs.ext {K : PySem.W.Frag} {Z G H G' H' : Hp} {σ : St} {δ : Dl} {vs : List V} {os : List OV} {ps : List Addr} (h : RepOs K Z G H σ δ vs os ps) (E : Ext G H G' H') : RepOs K Z G' H' σ δ vs os ps := by
  induction h with
  | nil => exact .nil
  | val r _ ih => exact .val (r.mono E.gg.le) ih
  | new a b c ap n _ ih =>
    obtain ⟨o, ho⟩ := b.there
    exact .new (E.none a ho) (b.mono E.gg.le ((E.hh _ o ho).trans ho.symm)) c ap n ih
/-- a, b, .. = x, y, .. by way of a tuple -/
theorem sm_par {ts es : List Expr} {is : List Nat} {f : Fp} {kt kt2 : Nat} {pt pt2 : Pos} (hc : X.calm = true) (hN : X.N.Nodup) (hg : GNs X ts is) (h : Pn X es f)
    (hn : (assignEach ts X.env).length = is.length := by rfl) (hst : (assignEach ts X.env).findIdx? (·.1) = none := by rfl)
    (hs : swapsWithSole [.Tuple ts kt pt] (.Tuple es kt2 pt2) pos.line X.env = pure false := by rfl) (hw : swappedStores [.Tuple ts kt pt] (.Tuple es kt2 pt2) X.env = pure none := by rfl)
    (h1 : (assignEach [.Tuple ts kt pt] X.env).map (·.2) = [assign (.Tuple ts kt pt) X.env] := by rfl) (hz : is.length ≤ 1000 := by decide) :
    Sm X (.Assign [.Tuple ts kt pt] (.Tuple es kt2 pt2) pos) (sPar is f) := PS.imp (ps_asg (pe_tup h) (pg_tup hc (hg.pgs hN) hn hst) hs hw h1) fun D σ H ⟨F, G, δ, fl, δ', S, e, k⟩ => by
  obtain ⟨⟨os, δ1⟩, e1, e2⟩ := Option.bind_eq_some_iff.mp e
  obtain ⟨δ2, e3, e4⟩ := Option.map_eq_some_iff.mp e2
  cases e4
  refine ⟨F, G, δ, os, δ1, S, e1, fun vs ps H1 G1 S1 m1 r1 => ⟨?_, fun p hp => ?_⟩⟩
  · rw [r1.length, ← setAll_length e3]
    exact Nat.le_trans hz (by rw [sizeLine_eq]; decide)
  · have E : Ext G1 H1 G1 (upd H1 p (.tup vs)) := .own S1.sub hp
    refine ⟨p, vs, rfl, SqT.of upd_same, by rw [r1.length, ← setAll_length e3], gSets_of (by rw [r1.length, ← setAll_length e3]) ?_⟩
    exact k _ _ G1 (Sim.setAll (fun a h => S.fresh h) (S1.ext E) (r1.ext E) e3) m1.le
/-- .. straight -/
theorem sm_par2 {i j : Nat} {x y : Str} {a b : Expr} {f : Fp} {px py pt : Pos} {kt k2 pt2} (hc : X.calm = true) (hN : X.N.Nodup) (hi : X.N[i]? = some x) (hj : X.N[j]? = some y) (hij : i ≠ j)
    (hx : X.env.scope.names.lookup x = some .local) (hy : X.env.scope.names.lookup y = some .local) (ha : Pn X [a, b] f)
    (hw : swappedStores [.Tuple [.Name x px, .Name y py] kt pt] (.Tuple [a, b] k2 pt2) X.env = pure (some [x, y]))
    (hs : swapsWithSole [.Tuple [.Name x px, .Name y py] kt pt] (.Tuple [a, b] k2 pt2) pos.line X.env = pure false := by rfl) :
    Sm X (.Assign [.Tuple [.Name x px, .Name y py] kt pt] (.Tuple [a, b] k2 pt2) pos) (sPar [i, j] f) := PS.imp (ps_par hc hN hi hj hij hx hy ha hw hs) fun D σ H ⟨F, G, δ, fl, δ', S, e, k⟩ => by
  obtain ⟨⟨os, δ1⟩, e1, e2⟩ := Option.bind_eq_some_iff.mp e
  obtain ⟨δ2, e3, e4⟩ := Option.map_eq_some_iff.mp e2
  cases e4
  refine ⟨F, G, δ, os, δ1, S, e1, fun vs ps H1 G1 S1 m1 r1 => ?_⟩
  have hl : vs.length = 2 := by rw [r1.length, ← setAll_length e3]; rfl
  match vs, hl, r1 with
  | [v, w], _, r1 => exact ⟨v, w, rfl, k _ H1 G1 (Sim.setAll (is := [i, j]) (fun a h => S.fresh h) S1 r1 e3) m1.le⟩
/-- a, b, .. = e, e a tuple -/
def sUnp (is : List Nat) (f : Fe) : Fs := fun δ => (f δ).bind fun p => (esc p.1 p.2).bind fun q => match q.1 with
  | .tup ds => (setAll is (ds.map .val) q.2).map fun δ' => (.next, δ')
  | _ => none
theorem RepOs.vals {K : PySem.W.Frag} {Z G H : Hp} {σ : St} {δ : Dl} : ∀ {vs : List V} {ds : List D}, RepL K G vs ds → RepOs K Z G H σ δ vs (ds.map .val) []
  | _, _, .nil => .nil
  | _, _, .cons h r => .val h (RepOs.vals r)
/-- a target of names takes a tuple -/
theorem gTup_of {K : PySem.W.Frag} {is : List Nat} {n : Nat} {v : V} {ds : List D} {F : Fr} {G H : Hp} {σ : St} {δ δ' : Dl} {Q : St → Hp → Prop} (S : Sim K F G H σ δ) (r : Rep K G v (.tup ds)) (e : setAll is (ds.map .val) δ = some δ') (hn : is.length = n)
    (k : ∀ σ', Sim K F G H σ' δ' → Q σ' H) : gTup K n (gSets is) v σ H Q := by
  obtain ⟨a, vs, rfl, h1, h2⟩ := RepK.tup (.inl r) S.sub
  have hl := setAll_length e
  rw [List.length_map] at hl
  exact ⟨a, vs, rfl, SqT.of h1, by rw [h2.length, ← hl, hn], gSets_of (by rw [h2.length, hl]) (k _ (Sim.setAll (Z := H) (fun a h => S.fresh h) S (RepOs.vals h2) e))⟩
theorem sm_unp {ts : List Expr} {e : Expr} {is : List Nat} {f : Fe} {kt : Nat} {pt : Pos} (hc : X.calm = true) (hN : X.N.Nodup) (hg : GNs X ts is) (h : Ev X e f)
    (hn : (assignEach ts X.env).length = is.length := by rfl) (hst : (assignEach ts X.env).findIdx? (·.1) = none := by rfl)
    (hs : swapsWithSole [.Tuple ts kt pt] e pos.line X.env = pure false := by rfl) (hw : swappedStores [.Tuple ts kt pt] e X.env = pure none := by rfl)
    (h1 : (assignEach [.Tuple ts kt pt] X.env).map (·.2) = [assign (.Tuple ts kt pt) X.env] := by rfl) :
    Sm X (.Assign [.Tuple ts kt pt] e pos) (sUnp is f) := PS.imp (ps_asg h (pg_tup hc (hg.pgs hN) hn hst) hs hw h1) fun D σ H ⟨F, G, δ, fl, δ', S, e, k⟩ => by
  obtain ⟨⟨r, δ1⟩, e1, e⟩ := Option.bind_eq_some_iff.mp e
  obtain ⟨⟨d, δ2⟩, e2, e⟩ := Option.bind_eq_some_iff.mp e
  dsimp only at e
  split at e
  · rename_i ds
    obtain ⟨δ3, e3, e4⟩ := Option.map_eq_some_iff.mp e
    cases e4
    refine ⟨F, G, δ, r, δ1, S, e1, fun v H1 G1 S1 m1 r1 => ?_⟩
    obtain ⟨G2, S2, m2, r2⟩ := S1.esc r1 e2
    exact gTup_of S2 r2 e3 rfl fun σ' S3 => k σ' H1 G2 S3 (m1.le.trans m2.le)
  · cases e
/-- x op= e -/
theorem ipT {op : Operator} {g : D → D → Option OV} (ho : OpT X (inplaceOp op) g) : PIp X op (rT X.K g) := fun pins s σ H x y v u Q I r1 r2 h => ho pins s σ H x y v u Q I r1 r2 h
/-- x op= e over ints, texts -/
def sAug (i : Nat) (g : D → D → Option OV) (f : Fe) : Fs := fun δ => match δ[i]? with
  | some (some (.fz x)) => (f δ).bind fun p => (peek p.1 p.2).bind fun y => match g x y with
    | some (.val d) => some (.next, p.2.set i (some (.fz d)))
    | _ => none
  | _ => none
theorem sm_aug {i : Nat} {x : Str} {e : Expr} {f : Fe} {op : Operator} {g : D → D → Option OV} (ho : OpT X (inplaceOp op) g) (hN : X.N.Nodup) (hi : X.N[i]? = some x) (hx : Loc X.env.scope x) (h : Ev X e f) (hf : X.fn x = true ∨ X.env.scope.names.lookup x = some .local := by first | exact .inl rfl | exact .inr rfl | assumption) :
    Sm X (.AugAssign (.Name x pos') op e pos) (sAug i g f) := PS.imp (ps_aug hN hi hx h (ipT ho) hf) fun D σ H ⟨F, G, δ, fl, δ', S, e, k⟩ => by
  unfold sAug at e
  split at e
  · rename_i d0 hd
    obtain ⟨⟨r, δ1⟩, e1, e⟩ := Option.bind_eq_some_iff.mp e
    obtain ⟨y, e2, e⟩ := Option.bind_eq_some_iff.mp e
    split at e
    · rename_i d hg
      cases e
      obtain ⟨v, a, b⟩ := S.fz i d0 hd
      refine ⟨v, a, F, G, δ, r, δ1, S, e1, fun w H1 G1 S1 m1 r1 => ⟨G1, d0, y, _, S1.sub, .inl (b.mono m1.le), S1.peek r1 e2, hg, fun z H2 G2 E r2 => ?_⟩⟩
      exact k _ H2 G2 ((S1.ext E).set (show Rep X.K G2 z d from r2) i) (m1.le.trans E.gg.le)
    · cases e
  · cases e
theorem opT_iadd : OpT X (inplaceOp .Add) dAddI := by
  intro pins s σ H x y v u Q I rx ry ⟨G, d, e, o, sb, rd, re, hq, k⟩
  unfold dAddI at hq
  split at hq
  · cases hq
    exact iop_add pins s σ H x y v u Q I rx ry ⟨_, _, rd.int, re.int, k.val sb (.int _)⟩
  · cases hq
theorem opT_isub : OpT X (inplaceOp .Sub) dSub := by
  intro pins s σ H x y v u Q I rx ry ⟨G, d, e, o, sb, rd, re, hq, k⟩
  unfold dSub at hq
  split at hq
  · cases hq
    exact iop_sub pins s σ H x y v u Q I rx ry ⟨_, _, rd.int, re.int, k.val sb (.int _)⟩
  · cases hq
end
end L2.Tl

set_option Elab.async false
set_option linter.all false
set_option autoImplicit false
set_option maxRecDepth 100000
namespace L2.Tl
open PySem PySem.Spec PyProof.Rows

/-! ### the frame's objects changed -/
/-- the tree of the object at a slot that the frame may change -/
def rootAt (i : Nat) (δ : Dl) : Option D := match δ[i]? with
  | some (some (.own d)) => some d
  | some (some (.inp d)) => some d
  | _ => none
/-- .. it is e now -/
def setRoot (i : Nat) (e : D) (δ : Dl) : Dl := match δ[i]? with
  | some (some (.own _)) => δ.set i (some (.own e))
  | some (some (.inp _)) => δ.set i (some (.inp e))
  | _ => δ
theorem rootAt_some {i : Nat} {δ : Dl} {d : D} (h : rootAt i δ = some d) : ∃ x, δ[i]? = some (some x) ∧ SV.root x = some d ∧ ∀ e, setRoot i e δ = δ.set i (some (x.re e)) := by
  unfold rootAt at h
  split at h
  · rename_i y hx
    cases h
    exact ⟨_, hx, rfl, fun e => by simp [setRoot, hx, SV.re]⟩
  · rename_i y hx
    cases h
    exact ⟨_, hx, rfl, fun e => by simp [setRoot, hx, SV.re]⟩
  · cases h
section
variable {K : PySem.W.Frag} {F : Fr} {G H : Hp} {σ : St} {δ : Dl}
theorem Sim.mutate (S : Sim K F G H σ δ) {i : Nat} {d e : D} {p : Addr} {o : HO} (h : rootAt i δ = some d) (hp : σ[i]? = some (some (V.ref p))) (r : Root K G (upd H p o) p e) : Sim K F G (upd H p o) σ (setRoot i e δ) := by
  obtain ⟨x, hx, hr, hs⟩ := rootAt_some h
  rw [hs]
  obtain ⟨q, a1, a2, a3⟩ := S.root hx hr
  rw [hp] at a1; cases a1
  have hl : i < δ.length := (List.getElem?_eq_some_iff.mp hx).1
  have back : ∀ {j : Nat} {y : SV}, (δ.set i (some (x.re e)))[j]? = some (some y) → (j ≠ i ∧ δ[j]? = some (some y)) ∨ (j = i ∧ y = x.re e) := fun {j y} h => by
    by_cases n : j = i
    · subst n
      rw [List.getElem?_set_self hl] at h
      cases h
      exact .inr ⟨rfl, rfl⟩
    · rw [List.getElem?_set_ne (Ne.symm n)] at h
      exact .inl ⟨n, h⟩
  have rootOf : ∀ {j : Nat} {y : SV} {f : D}, (δ.set i (some (x.re e)))[j]? = some (some y) → y.root = some f → ∃ y' f', δ[j]? = some (some y') ∧ SV.root y' = some f' := fun {j y f} h q => by
    rcases back h with ⟨_, h⟩ | ⟨rfl, _⟩
    · exact ⟨y, f, h, q⟩
    · exact ⟨x, d, hx, hr⟩
  have other : ∀ {j : Nat} {y : SV} {f : D} {q : Addr}, j ≠ i → δ[j]? = some (some y) → y.root = some f → σ[j]? = some (some (V.ref q)) → q ≠ p := fun {j y f q} n hy hf hq z => n (S.inj j i y x f d p hy hf hx hr (z ▸ hq) hp)
  refine ⟨by simpa using S.len, fun j f h => ?_, fun j f h => ?_, fun j f h => ?_, fun j k y z f1 f2 q h1 r1 h2 r2 h3 h4 => ?_, fun a u hu => ?_, S.new, fun a u hu hi => ?_, fun j a ha => ?_, S.g0⟩
  · rcases back h with ⟨_, h⟩ | ⟨rfl, hh⟩
    · exact S.fz j f h
    · cases x <;> cases hh
      cases hr
  · rcases back h with ⟨n, h⟩ | ⟨rfl, hh⟩
    · obtain ⟨q, a, b, c, g⟩ := S.own j f h
      exact ⟨q, a, b, c.mono (.refl _) (upd_ne (other n h rfl a)), g⟩
    · cases x with
      | fz _ => cases hr
      | own d0 =>
        cases hh
        obtain ⟨q, a, b, _, c⟩ := S.own j _ hx
        rw [hp] at a; cases a
        exact ⟨p, hp, b, r, c⟩
      | inp d0 => cases hh
  · rcases back h with ⟨n, h⟩ | ⟨rfl, hh⟩
    · obtain ⟨q, a, b, c, g⟩ := S.inp j f h
      exact ⟨q, a, b, c.mono (.refl _) (upd_ne (other n h rfl a)), g⟩
    · cases x with
      | fz _ => cases hr
      | own d0 => cases hh
      | inp d0 =>
        cases hh
        obtain ⟨q, a, b, _, c⟩ := S.inp j _ hx
        rw [hp] at a; cases a
        exact ⟨p, hp, b, r, c⟩
  · obtain ⟨y', f1', a1, b1⟩ := rootOf h1 r1
    obtain ⟨z', f2', a2, b2⟩ := rootOf h2 r2
    exact S.inj j k y' z' f1' f2' q a1 b1 a2 b2 h3 h4
  · have n : a ≠ p := fun z => by rw [z, a2] at hu; cases hu
    rw [upd_ne n]
    exact S.sub a u hu
  · have n : a ≠ p := fun z => by
      subst z
      cases x with
      | fz _ => cases hr
      | own _ =>
        obtain ⟨q, a, _, _, c⟩ := S.own i _ hx
        rw [hp] at a; cases a
        rw [hu] at c; cases c
      | inp _ =>
        obtain ⟨q, a, _, _, c⟩ := S.inp i _ hx
        rw [hp] at a; cases a
        exact hi i c
    rw [upd_ne n]
    exact S.fr a u hu hi
  · obtain ⟨⟨u, hu⟩, b, c⟩ := S.ioh j a ha
    refine ⟨?_, b, c⟩
    by_cases n : a = p
    · subst n; exact ⟨o, upd_same⟩
    · exact ⟨u, (upd_ne n).trans hu⟩
theorem mv_mutate (S : Sim K F G H σ δ) {i : Nat} {d e : D} {p : Addr} {o : HO} (h : rootAt i δ = some d) (hp : σ[i]? = some (some (V.ref p))) : Mv σ δ G H (setRoot i e δ) G (upd H p o) := by
  obtain ⟨x, hx, hr, hs⟩ := rootAt_some h
  rw [hs]
  have hl : i < δ.length := (List.getElem?_eq_some_iff.mp hx).1
  refine ⟨.refl _, fun a u hu hg ap => ⟨?_, hg, fun j y f hj r hq => ?_⟩, fun a ha => ?_⟩
  · rw [upd_ne (fun z => ap i x d hx hr (by rw [z]; exact hp))]
    exact hu
  · by_cases n : j = i
    · subst n
      exact ap j x d hx hr hq
    · rw [List.getElem?_set_ne (Ne.symm n)] at hj
      exact ap j y f hj r hq
  · by_cases n : a = p
    · subst n; rw [upd_same] at ha; cases ha
    · rw [upd_ne n] at ha; exact ha
theorem RepR.root {v : V} {i : Nat} {d : D} (S : Sim K F G H σ δ) (r : RepR K G σ v (.slot i)) (h : rootAt i δ = some d) : ∃ p, v = .ref p ∧ σ[i]? = some (some (V.ref p)) ∧ G p = none ∧ Root K G H p d := by
  obtain ⟨x, hx, hr, _⟩ := rootAt_some h
  obtain ⟨p, a1, a2, a3⟩ := S.root hx hr
  have h' : σ[i]? = some (some v) := r
  rw [a1] at h'
  cases h'
  exact ⟨p, rfl, a1, a2, a3⟩
end

/-! ### methods that change their list or dict -/
def rMut (K : PySem.W.Frag) (g : D → List D → Option (D × D)) : V → List V → Hp → VK → Prop := fun x xs H Q => ∃ G p d ds r d', x = .ref p ∧ Sub G H ∧ G p = none ∧ Root K G H p d ∧ RepL K G xs ds ∧ g d ds = some (r, d') ∧
  ∀ v o, Rep K G v r → Root K G (upd H p o) p d' → Q v (upd H p o)
def isL : D → Bool
  | .lst _ => true
  | _ => false
def isD : D → Bool
  | .dct _ _ => true
  | _ => false
def fMut (ty : D → Bool) (i : Nat) (g : D → List D → Option (D × D)) (fa : Fa) : Fn := fun δ => (rootAt i δ).bind fun d0 => if ty d0 = true then (fa δ).bind fun p => (rootAt i p.2).bind fun d => (g d p.1).map fun q => (.val q.1, setRoot i q.2 p.2) else none
section
variable {X : Cx} {e : Expr} {es : List Expr} {fa : Fa} {name x : Str} {apos cpos npos : Pos} {T id : String} {g : D → List D → Option (D × D)} {ty : D → Bool}
theorem mut_imp {K : PySem.W.Frag} {t : TA} {i : Nat} {σ : St} {H : Hp} {Q : VK} (hT : ∀ (G H : Hp) (p : Addr) (d : D), Root K G H p d → ty d = true → tyV K T (.ref p) H) (ht : ∀ σ H Q, tAr K fa σ H Q → t σ H Q) (h : tEn K (fMut ty i g fa) σ H Q) : tBM K T (rMut K g) (tVar i) t σ H Q := by
  obtain ⟨F, G, δ, o, δ', S, e, k⟩ := h
  obtain ⟨d0, e0, e⟩ := Option.bind_eq_some_iff.mp e
  split at e
  · rename_i hy
    obtain ⟨⟨ds, δ1⟩, e1, e⟩ := Option.bind_eq_some_iff.mp e
    obtain ⟨d, e2, e⟩ := Option.bind_eq_some_iff.mp e
    obtain ⟨⟨r, d'⟩, e3, e4⟩ := Option.map_eq_some_iff.mp e
    cases e4
    obtain ⟨x, hx, hr, _⟩ := rootAt_some e0
    obtain ⟨p, a1, a2, a3⟩ := S.root hx hr
    refine ⟨.ref p, a1, hT G H p d0 a3 hy, ht _ _ _ ⟨F, G, δ, ds, δ1, S, e1, fun vs H1 G1 S1 m1 r1 => ?_⟩⟩
    obtain ⟨y, hy', hr', _⟩ := rootAt_some e2
    obtain ⟨q, b1, b2, b3⟩ := S1.root hy' hr'
    rw [a1] at b1; cases b1
    refine ⟨G1, p, d, ds, r, d', rfl, S1.sub, b2, b3, r1, e3, fun v u rv ru => ?_⟩
    exact k v _ G1 (S1.mutate e2 a1 ru) (m1.trans (mv_mutate S1 e2 a1)) rv
  · cases e
theorem en_mut (hT : ∀ (G H : Hp) (p : Addr) (d : D), Root X.K G H p d → ty d = true → tyV X.K T (.ref p) H) (pa : PlainAttrs T) (slot : Slot T name id) (hty : typeOf (.builtin id) = pure (.type "method_descriptor")) (hm : MtR X id (rMut X.K g)) (i : Nat) (hN : X.N[i]? = some x) (hv : Vis X.env.scope x) (ha : Ar X (e :: es) fa)
    (hd : (x == ("__debug__" : Str)) = false := by decide) (hcd : (x == ("__classdict__" : Str)) = false := by decide)
    (hbase : attributeBase (.Name x npos) name X.env (eval (.Name x npos) X.env) = eval (.Name x npos) X.env := by rfl)
    (hfew : ((backTo cpos (starEach (e :: es) X.env)).all (fun x => !x.1) && (backToKw cpos (keywordEach [] X.env)).all (fun x => x.1.isSome)
      && decide ((e :: es).length + ([] : List Keyword).length + (if ([] : List Keyword).isEmpty then 0 else 1) < 30)) = true := by rfl)
    (hline : (apos.endLine == cpos.line) = true := by rfl) (hs : starEach (e :: es) X.env = (false, eval e X.env) :: starEach es X.env := by rfl) (hplain : (backTo cpos (starEach es X.env)).any (·.1) = false := by rfl) :
    En X (.Call (.Attribute (.Name x npos) name apos) (e :: es) [] cpos) (fMut ty i g fa) :=
  PE.imp (pe_bm pa slot hty hm (pe_var hN hv hd hcd) ha hbase hfew hline hs hplain) fun σ H Q h => mut_imp hT (fun _ _ _ q => q) h
theorem en_mut0 (hT : ∀ (G H : Hp) (p : Addr) (d : D), Root X.K G H p d → ty d = true → tyV X.K T (.ref p) H) (pa : PlainAttrs T) (slot : Slot T name id) (hty : typeOf (.builtin id) = pure (.type "method_descriptor")) (hm : MtR X id (rMut X.K g)) (i : Nat) (hN : X.N[i]? = some x) (hv : Vis X.env.scope x)
    (hd : (x == ("__debug__" : Str)) = false := by decide) (hcd : (x == ("__classdict__" : Str)) = false := by decide)
    (hbase : attributeBase (.Name x npos) name X.env (eval (.Name x npos) X.env) = eval (.Name x npos) X.env := by rfl) (hline : (apos.endLine == cpos.line) = true := by rfl) :
    En X (.Call (.Attribute (.Name x npos) name apos) [] [] cpos) (fMut ty i g fA0) :=
  PE.imp (pe_bm0 pa slot hty hm (pe_var hN hv hd hcd) hbase hline) fun σ H Q h => by
    obtain ⟨v, a, b, c⟩ := mut_imp (t := tNil) hT (fun σ H Q ⟨F, G, δ, o, δ', S, e, k⟩ => by cases e; exact k [] H G S .refl .nil) h
    exact ⟨v, a, b, c⟩
theorem tyL {K : PySem.W.Frag} (G H : Hp) (p : Addr) (d : D) (r : Root K G H p d) (h : isL d = true) : tyV K "list" (.ref p) H := by
  cases r with
  | lst a _ => exact .inl ⟨rfl, _, .inl (.inl a)⟩
  | _ => cases h
theorem tyD {K : PySem.W.Frag} (G H : Hp) (p : Addr) (d : D) (r : Root K G H p d) (h : isD d = true) : tyV K "dict" (.ref p) H := by
  cases r with
  | dK a _ => exact .inr (.inr (.inl ⟨rfl, .inl ⟨_, a⟩⟩))
  | dT a _ => exact .inr (.inr (.inl ⟨rfl, .inr ⟨_, a⟩⟩))
  | _ => cases h
/-! append, pop, insert -/
def gApp : D → List D → Option (D × D)
  | .lst xs, [y] => if xs.length < sizeLine then some (.non, .lst (xs ++ [y])) else none
  | _, _ => none
theorem mtT_append : MtR X "list.append" (rMut X.K gApp) := by
  intro pins s σ H x xs v us Q I rx rv ⟨G, p, d, ds, r, d', e1, sb, hg, rt, rl, hq, k⟩
  subst e1
  unfold gApp at hq
  split at hq
  · split at hq
    · cases hq
      rename_i hz
      cases rt with
      | lst a b =>
        cases rl with
        | cons h1 h2 =>
          cases h2
          exact mt_append pins s σ H _ _ v us Q I rx rv ⟨p, _, _, rfl, rfl, a, by rw [b.length]; exact hz, k _ _ .non (.lst upd_same (b.append (.cons h1 .nil)))⟩
    · cases hq
  · cases hq
def gPop : D → List D → Option (D × D)
  | .lst xs, [] => (xs[xs.length - 1]?).map fun y => (y, .lst xs.dropLast)
  | .lst xs, [.int i] => if -(2 ^ 63) ≤ i ∧ i < 2 ^ 63 then (seqIndex? i xs.length).bind fun k => (xs[k]?).map fun y => (y, .lst (xs.eraseIdx k)) else none
  | _, _ => none
theorem RepL.dropLast {K : PySem.W.Frag} {G : Hp} {vs : List V} {ds : List D} (r : RepL K G vs ds) : RepL K G vs.dropLast ds.dropLast := by
  rw [List.dropLast_eq_take, List.dropLast_eq_take, r.length]
  exact r.take _
theorem RepL.erase {K : PySem.W.Frag} {G : Hp} : ∀ {vs : List V} {ds : List D} (k : Nat), RepL K G vs ds → RepL K G (vs.eraseIdx k) (ds.eraseIdx k)
  | _, _, _, .nil => .nil
  | _, _, 0, .cons _ r => r
  | _, _, k + 1, .cons h r => .cons h (RepL.erase k r)
theorem mtT_pop : MtR X "list.pop" (rMut X.K gPop) := by
  intro pins s σ H x xs v us Q I rx rv ⟨G, p, d, ds, r, d', e1, sb, hg, rt, rl, hq, k⟩
  subst e1
  unfold gPop at hq
  split at hq
  · obtain ⟨y, h1, h2⟩ := Option.map_eq_some_iff.mp hq
    cases h2
    cases rl
    cases rt with
    | lst a b =>
      obtain ⟨w, h3, h4⟩ := b.get h1
      exact mt_pop pins s σ H _ _ v us Q I rx rv ⟨p, _, w, rfl, rfl, a, by rw [b.length]; exact h3, k w _ h4 (.lst upd_same b.dropLast)⟩
  · split at hq
    · rename_i hz
      obtain ⟨j, h0, hq⟩ := Option.bind_eq_some_iff.mp hq
      obtain ⟨y, h1, h2⟩ := Option.map_eq_some_iff.mp hq
      cases h2
      cases rl with
      | cons g1 g2 =>
        cases g2
        cases g1
        cases rt with
        | lst a b =>
          obtain ⟨w, h3, h4⟩ := b.get h1
          exact mt_popAt pins s σ H _ _ v us Q I rx rv ⟨p, _, _, j, w, rfl, rfl, a, hz.1, hz.2, by rw [b.length]; exact h0, h3, k w _ h4 (.lst upd_same (b.erase j))⟩
    · cases hq
  · cases hq
def gIns : D → List D → Option (D × D)
  | .lst xs, [.int i, y] => if xs.length < sizeLine ∧ 0 ≤ i ∧ i < 2 ^ 63 then some (.non, .lst (xs.take i.toNat ++ [y] ++ xs.drop i.toNat)) else none
  | _, _ => none
theorem mtT_insert : MtR X "list.insert" (rMut X.K gIns) := by
  intro pins s σ H x xs v us Q I rx rv ⟨G, p, d, ds, r, d', e1, sb, hg, rt, rl, hq, k⟩
  subst e1
  unfold gIns at hq
  split at hq
  · split at hq
    · cases hq
      rename_i hz
      cases rt with
      | lst a b =>
        cases rl with
        | cons h1 h2 =>
          cases h1
          cases h2 with
          | cons h3 h4 =>
            cases h4
            exact mt_insert pins s σ H _ _ v us Q I rx rv ⟨p, _, _, _, rfl, rfl, a, by rw [b.length]; exact hz.1, hz.2.1, hz.2.2, k _ _ .non (.lst upd_same (((b.take _).append (.cons h3 .nil)).append (b.drop _)))⟩
    · cases hq
  · cases hq
def gExt : D → List D → Option (D × D)
  | .lst xs, [.lst ys] => if xs.length + ys.length ≤ sizeLine then some (.non, .lst (xs ++ ys)) else none
  | _, _ => none

/-! ### x[i] = e, x[i] op= e -/
/-- an item stored -/
def dSto : D → D → D → Option D
  | .lst xs, .int i, v => (ixN xs.length i).map fun j => .lst (xs.set j v)
  | .dct t kvs, y, v => if isKey t y = true ∧ kvs.length < sizeLine then some (.dct t (kvPut kvs y v)) else none
  | _, _, _ => none
def rStoT (K : PySem.W.Frag) : V → V → V → Hp → (Hp → Prop) → Prop := fun o i v H Q => ∃ G p d y w d', o = .ref p ∧ Sub G H ∧ G p = none ∧ Root K G H p d ∧ RepK K G H i y ∧ Rep K G v w ∧ dSto d y w = some d' ∧ ∀ u, Root K G (upd H p u) p d' → Q (upd H p u)
theorem stoT (hu : X.A.units + 64 < cLine) : PSet X (rStoT X.K) := by
  intro pins s σ H o i v ov iv u Q I ro ri rv ⟨G, p, d, y, w, d', e1, sb, hg, rt, ry, rw', hq, k⟩
  subst e1
  unfold dSto at hq
  split at hq
  · obtain ⟨j, h1, h2⟩ := Option.map_eq_some_iff.mp hq
    cases h2
    cases rt with
    | lst a b => exact set_list pins s σ H _ i v ov iv u Q I ro ri rv ⟨p, _, _, j, rfl, ry.int, a, by rw [b.length]; exact h1, k _ (.lst upd_same (RepL.set rw' j b))⟩
  · split at hq
    · rename_i t kvs hz
      cases hq
      cases ro
      cases t with
      | false =>
        obtain ⟨key, rfl⟩ := isKey1_kD (show isKey1 y = true by simpa [isKey] using hz.1)
        cases rt with
        | dK a b =>
          cases ry.kV
          exact d_setItem (by omega) I (.inl ⟨_, key, a, rfl, by rw [b.length]; exact hz.2, rfl⟩) ri rv fun s' I' => ⟨_, I', k _ (.dK upd_same (b.put rw'))⟩
      | true =>
        obtain ⟨ks, rfl⟩ := isKey_T hz.1
        cases rt with
        | dT a b =>
          obtain ⟨q, vs, rfl, h3, h4⟩ := ry.tup sb
          rw [h4.kVs] at h3
          exact d_setItem (by omega) I (.inr ⟨_, ks, q, a, rfl, h3, by rw [b.length]; exact hz.2, rfl⟩) ri rv fun s' I' => ⟨_, I', k _ (.dT upd_same (b.put rw'))⟩
    · cases hq
  · cases hq
def sSto (i : Nat) (fi : Fe) (f : Fe) : Fs := fun δ => (f δ).bind fun p => (esc p.1 p.2).bind fun q => (rootAt i q.2).bind fun _ => (fi q.2).bind fun r => (peek r.1 r.2).bind fun y => (rootAt i r.2).bind fun d => (dSto d y q.1).map fun d' => (.next, setRoot i d' r.2)
theorem sm_sto (hu : X.A.units + 64 < cLine) {ix : Expr} {pos pos' : Pos} {i : Nat} {fi f : Fe} (hN : X.N[i]? = some x) (hv : Vis X.env.scope x) (hi : Ev X ix fi) (h : Ev X e f)
    (hd : (x == ("__debug__" : Str)) = false := by decide) (hcd : (x == ("__classdict__" : Str)) = false := by decide)
    (ha : ∀ v, assign (.Subscript (.Name x npos) ix pos') X.env v = (do
      let ov ← holding [v] (eval (.Name x npos) X.env)
      let iv ← holding [v, ov] (eval ix X.env)
      standAt pos'
      holding [v, ov, iv] (setItem ov iv v)
      release [v, ov, iv] []) := by intro _; rfl)
    (hs : swapsWithSole [.Subscript (.Name x npos) ix pos'] e pos.line X.env = pure false := by rfl) (hw : swappedStores [.Subscript (.Name x npos) ix pos'] e X.env = pure none := by rfl)
    (h1 : (assignEach [.Subscript (.Name x npos) ix pos'] X.env).map (·.2) = [assign (.Subscript (.Name x npos) ix pos') X.env] := by rfl) :
    Sm X (.Assign [.Subscript (.Name x npos) ix pos'] e pos) (sSto i fi f) := PS.imp (ps_asg h (pg_sub (pe_var hN hv hd hcd) hi (stoT hu) ha) hs hw h1) fun D σ H ⟨F, G, δ, fl, δ', S, e, k⟩ => by
  obtain ⟨⟨r, δ1⟩, e1, e⟩ := Option.bind_eq_some_iff.mp e
  obtain ⟨⟨w, δ2⟩, e2, e⟩ := Option.bind_eq_some_iff.mp e
  obtain ⟨d0, e3, e⟩ := Option.bind_eq_some_iff.mp e
  obtain ⟨⟨ri, δ3⟩, e4, e⟩ := Option.bind_eq_some_iff.mp e
  obtain ⟨y, e5, e⟩ := Option.bind_eq_some_iff.mp e
  obtain ⟨d, e6, e⟩ := Option.bind_eq_some_iff.mp e
  obtain ⟨d', e7, e8⟩ := Option.map_eq_some_iff.mp e
  cases e8
  refine ⟨F, G, δ, r, δ1, S, e1, fun v1 H1 G1 S1 m1 r1 => ?_⟩
  obtain ⟨G2, S2, m2, r2⟩ := S1.esc r1 e2
  obtain ⟨x0, hx0, hr0, _⟩ := rootAt_some e3
  obtain ⟨p, a1, a2, a3⟩ := S2.root hx0 hr0
  refine ⟨.ref p, a1, F, G2, δ2, ri, δ3, S2, e4, fun v3 H3 G3 S3 m3 r3 => ?_⟩
  obtain ⟨y0, hy0, hs0, _⟩ := rootAt_some e6
  obtain ⟨q, b1, b2, b3⟩ := S3.root hy0 hs0
  rw [a1] at b1; cases b1
  refine ⟨G3, p, d, y, w, d', rfl, S3.sub, b2, b3, S3.peek r3 e5, r2.mono m3.le, e7, fun u ru => ?_⟩
  exact k σ _ G3 (S3.mutate e6 a1 ru) (m1.le.trans (m2.le.trans m3.le))
def dIxL : D → D → Option OV
  | .lst xs, .int i => (atI xs i).map .val
  | _, _ => none
theorem getT : PGet X (rT X.K dIxL) := by
  intro pins s σ H x y v u Q I rx ry ⟨G, d, e, o, sb, rd, re, hq, k⟩
  unfold dIxL at hq
  split at hq
  · rename_i xs i
    obtain ⟨z, h1, e1⟩ := Option.map_eq_some_iff.mp hq
    cases e1
    obtain ⟨a, vs, rfl, h2, h3⟩ := rd.lst sb
    cases re.int
    obtain ⟨w, h4, h5⟩ := h3.atI h1
    cases rx
    obtain ⟨t, rfl⟩ := ry
    obtain ⟨its, r, pl, hz⟩ := I.list (.inl h2)
    obtain ⟨j, g1, g2, g3, g4, g5⟩ := atI_get h4
    obtain ⟨w', ew, rw'⟩ := r.get g2
    have hl := r.length
    have hn := line63
    have fin : EP X pins σ Q w' s := ⟨w, H, I, rw', k.val sb h5⟩
    by_cases h0 : 0 ≤ i
    · have hj : i.toNat = j := by
        rw [seqIndex_of h0 g5] at g1
        exact Option.some.inj g1
      exact wpAny_getItem_list pl.isList h0 (by omega) (by rw [hj]; simpa using ew) fin
    · have hj : (i + (its.toArray.size : Int)).toNat = j := by
        rw [seqIndex_neg (by omega) g4] at g1
        rw [List.size_toArray, ← hl]
        exact Option.some.inj g1
      exact wpAny_getItem_list_neg pl.isList (by omega) (by rw [List.size_toArray] <;> omega) (by omega) (by rw [hj]; simpa using ew) fin
  · cases hq
/-- x[i] op= e -/
def sAugS (i : Nat) (fi : Fe) (g : D → D → Option OV) (f : Fe) : Fs := fun δ => (rootAt i δ).bind fun _ => (fi δ).bind fun p => (peek p.1 p.2).bind fun y => (rootAt i p.2).bind fun d1 => match dIxL d1 y with
  | some (.val x) => (f p.2).bind fun q => (peek q.1 q.2).bind fun z => match g x z with
    | some (.val w) => (peek p.1 q.2).bind fun y' => (rootAt i q.2).bind fun d => (dSto d y' w).map fun d' => (.next, setRoot i d' q.2)
    | _ => none
  | _ => none
theorem sm_augS (hu : X.A.units + 64 < cLine) {ix : Expr} {pos pos' : Pos} {i : Nat} {fi f : Fe} {op : Operator} {go : D → D → Option OV} (ho : OpT X (inplaceOp op) go) (hN : X.N[i]? = some x) (hv : Vis X.env.scope x) (hi : Ev X ix fi) (h : Ev X e f)
    (hd : (x == ("__debug__" : Str)) = false := by decide) (hcd : (x == ("__classdict__" : Str)) = false := by decide)
    (ha : ∀ ov iv new, augStore ix ov iv new = (do holding [new, ov, iv] (setItem ov iv new); release [new, ov, iv] []; pure .next) := by intros; rfl) :
    Sm X (.AugAssign (.Subscript (.Name x npos) ix pos') op e pos) (sAugS i fi go f) := PS.imp (ps_augS (pe_var hN hv hd hcd) hi getT h (ipT ho) (stoT hu) ha) fun D σ H ⟨F, G, δ, fl, δ', S, e, k⟩ => by
  obtain ⟨d0, e1, e⟩ := Option.bind_eq_some_iff.mp e
  obtain ⟨⟨ri, δ1⟩, e2, e⟩ := Option.bind_eq_some_iff.mp e
  obtain ⟨y, e3, e⟩ := Option.bind_eq_some_iff.mp e
  obtain ⟨d1, e4, e⟩ := Option.bind_eq_some_iff.mp e
  obtain ⟨x0, hx0, hr0, _⟩ := rootAt_some e1
  obtain ⟨p, a1, a2, a3⟩ := S.root hx0 hr0
  refine ⟨.ref p, a1, F, G, δ, ri, δ1, S, e2, fun v1 H1 G1 S1 m1 r1 => ?_⟩
  obtain ⟨x1, hx1, hr1, _⟩ := rootAt_some e4
  obtain ⟨q, b1, b2, b3⟩ := S1.root hx1 hr1
  rw [a1] at b1; cases b1
  split at e
  · rename_i xv hg
    obtain ⟨⟨rq, δ2⟩, e5, e⟩ := Option.bind_eq_some_iff.mp e
    obtain ⟨z, e6, e⟩ := Option.bind_eq_some_iff.mp e
    split at e
    · rename_i wv hw
      obtain ⟨y', e7, e⟩ := Option.bind_eq_some_iff.mp e
      obtain ⟨d, e8, e⟩ := Option.bind_eq_some_iff.mp e
      obtain ⟨d', e9, e10⟩ := Option.map_eq_some_iff.mp e
      cases e10
      refine ⟨G1, d1, y, _, S1.sub, .inr ⟨p, rfl, b3⟩, S1.peek r1 e3, hg, fun x3 H3 G3 E3 r3 => ?_⟩
      have S3 := S1.ext E3
      refine ⟨F, G3, δ1, rq, δ2, S3, e5, fun v4 H4 G4 S4 m4 r4 => ?_⟩
      refine ⟨G4, xv, z, _, S4.sub, .inl (Rep.mono m4.le r3), S4.peek r4 e6, hw, fun x5 H5 G5 E5 r5 => ?_⟩
      have S5 := S4.ext E5
      obtain ⟨x2, hx2, hr2, _⟩ := rootAt_some e8
      obtain ⟨q, c1, c2, c3⟩ := S5.root hx2 hr2
      rw [a1] at c1; cases c1
      have rp : RepR X.K G5 σ v1 ri := r1.mono (E3.gg.le.trans (m4.le.trans E5.gg.le))
      refine ⟨G5, p, d, y', wv, d', rfl, S5.sub, c2, c3, S5.peek rp e7, r5, e9, fun u ru => ?_⟩
      exact k σ _ G5 (S5.mutate e8 a1 ru) (m1.le.trans (E3.gg.le.trans (m4.le.trans E5.gg.le)))
    · cases e
  · cases e

/-! ### fields -/
/-- o.f -/
def fFld (C : Addr) (f : Str) (fo : Fe) : Fe := fun δ => (fo δ).bind fun p => match peek p.1 p.2 with
  | some (.obj C' fs) => if C' = C then (fs.lookup f).map fun d => (.val d, p.2) else none
  | _ => none
theorem ev_fld {C : Addr} {f : Str} {o : Expr} {fo : Fe} {pos : Pos} (c : Cls X.K C) (n : NoAttr X.K C f) (ho : Ev X o fo) (hb : attributeBase o f X.env (eval o X.env) = eval o X.env := by rfl) : Ev X (.Attribute o f pos) (fFld C f fo) :=
  PE.imp (pe_fld ho hb) fun σ H Q ⟨F, G, δ, o, δ', S, e, k⟩ => by
    obtain ⟨⟨r, δ1⟩, e1, ee⟩ := Option.bind_eq_some_iff.mp e
    refine ⟨F, G, δ, r, δ1, S, e1, fun v1 H1 G1 S1 m1 r1 => ?_⟩
    dsimp only at ee
    split at ee
    · rename_i C' fs hp
      split at ee
      · rename_i hC
        obtain ⟨d, e2, e3⟩ := Option.map_eq_some_iff.mp ee
        cases e3
        cases hC
        obtain ⟨a, dx, vs, rfl, h1, h2⟩ := (S1.peek r1 hp).obj S1.sub
        have := h2.lookup (m := f)
        rw [e2] at this
        cases q : vs.lookup f with
        | none => rw [q] at this; exact this.elim
        | some w =>
          rw [q] at this
          exact ⟨a, _, dx, vs, w, rfl, h1, c, n, q, k w H1 G1 S1 m1 this⟩
      · cases ee
    · cases ee
def putFD (f : Str) (d : D) : List (Str × D) → List (Str × D)
  | [] => [(f, d)]
  | (g, x) :: r => if g = f then (g, d) :: r else (g, x) :: putFD f d r
theorem RepF.put {K : PySem.W.Frag} {G : Hp} {f : Str} {v : V} {d : D} (h : Rep K G v d) : ∀ {vs : List (Str × V)} {ds : List (Str × D)}, RepF K G vs ds → RepF K G (putF f v vs) (putFD f d ds)
  | _, _, .nil => .cons h .nil
  | (g, w) :: vs, _, .cons a r => by
    simp only [putF, putFD]
    split
    · exact .cons h r
    · exact .cons a (RepF.put h r)
theorem RepF.length {K : PySem.W.Frag} {G : Hp} : ∀ {vs : List (Str × V)} {ds : List (Str × D)}, RepF K G vs ds → vs.length = ds.length
  | _, _, .nil => rfl
  | _, _, .cons _ r => by simp [r.length]
/-- self.f = e -/
def sFldSet (C : Addr) (f : Str) (i : Nat) (fe : Fe) : Fs := fun δ => (fe δ).bind fun p => (esc p.1 p.2).bind fun q => match rootAt i q.2 with
  | some (.obj C' fs) => if C' = C ∧ fs.length < 1000 then some (.next, setRoot i (.obj C (putFD f q.1 fs)) q.2) else none
  | _ => none
theorem sm_fld {C : Addr} {f : Str} {fe : Fe} {pos pos' : Pos} (i : Nat) (c : Cls X.K C) (n : NoAttr X.K C f) (hN : X.N[i]? = some x) (hv : Vis X.env.scope x) (h : Ev X e fe)
    (hs : swapsWith e (some (.Attribute (.Name x npos) f pos')) pos.line X.env = pure false := by rfl) (hd : (x == ("__debug__" : Str)) = false := by decide) (hcd : (x == ("__classdict__" : Str)) = false := by decide) :
    Sm X (.Assign [.Attribute (.Name x npos) f pos'] e pos) (sFldSet C f i fe) := PS.imp (ps_fld (pe_var hN hv hd hcd) h hs) fun D σ H ⟨F, G, δ, fl, δ', S, e, k⟩ => by
  obtain ⟨⟨r, δ1⟩, e1, e⟩ := Option.bind_eq_some_iff.mp e
  obtain ⟨⟨d, δ2⟩, e2, e⟩ := Option.bind_eq_some_iff.mp e
  refine ⟨F, G, δ, r, δ1, S, e1, fun v1 H1 G1 S1 m1 r1 => ?_⟩
  obtain ⟨G2, S2, m2, r2⟩ := S1.esc r1 e2
  dsimp only at e
  split at e
  · rename_i C' fs hr
    split at e
    · rename_i hc
      obtain ⟨rfl, hl⟩ := hc
      cases e
      obtain ⟨x0, hx0, hr0, _⟩ := rootAt_some hr
      obtain ⟨p, a1, a2, a3⟩ := S2.root hx0 hr0
      cases a3 with
      | obj g1 g2 =>
        refine ⟨.ref p, a1, p, _, _, _, rfl, g1, c, n, by rw [g2.length]; exact hl, ?_⟩
        exact k σ _ G2 (S2.mutate hr a1 (.obj upd_same (g2.put r2))) (m1.le.trans m2.le)
    · cases e
  · cases e
/-- C(..): a new instance, then its __init__ -/
theorem After.none {K : PySem.W.Frag} {G H G' H' : Hp} {ps : List Addr} {outs : List D} (A : After K G H ps outs G' H') {p : Addr} {o : HO} (hg : G p = none) (ho : H p = some o) : G' p = none := by
  cases q : G' p with
  | none => rfl
  | some u =>
    rcases A.new p u q with z | z
    · exact absurd hg z
    · rw [ho] at z; cases z
/-- behind a call that is handed objects that no slot holds -/
theorem Sim.after_apart {K : PySem.W.Frag} {F : Fr} {G H G' H' : Hp} {σ : St} {δ : Dl} (S : Sim K F G H σ δ) {ps : List Addr} {outs : List D} (A : After K G H ps outs G' H') (hp : ∀ p, p ∈ ps → Apart σ δ p ∧ F.H0 p = none) : Sim K F G' H' σ δ := by
  have keep : ∀ {p : Addr} {d : D}, G p = none → Root K G H p d → p ∉ ps → G' p = none ∧ Root K G' H' p d := fun {p d} hg r hn => by
    obtain ⟨o, ho⟩ := r.there
    refine ⟨A.none hg ho, ?_⟩
    rcases A.fr p o ho hn with z | ⟨_, z, _⟩
    · exact r.mono A.le (z.trans ho.symm)
    · rw [hg] at z; cases z
  refine ⟨S.len, fun j d hd => ?_, fun j d hd => ?_, fun j d hd => ?_, S.inj, A.sub, fun a o ha => ?_, fun a o ha hi => ?_, fun i a ha => ?_, S.g0⟩
  · obtain ⟨v, a, b⟩ := S.fz j d hd
    exact ⟨v, a, b.mono A.le⟩
  · obtain ⟨p, a, b, c, e⟩ := S.own j d hd
    obtain ⟨b', c'⟩ := keep b c (fun hm => (hp p hm).1 j _ d hd rfl a)
    exact ⟨p, a, b', c', e⟩
  · obtain ⟨p, a, b, c, e⟩ := S.inp j d hd
    obtain ⟨b', c'⟩ := keep b c (fun hm => (hp p hm).1 j _ d hd rfl a)
    exact ⟨p, a, b', c', e⟩
  · rcases A.new a o ha with z | z
    · cases q : G a with
      | none => exact absurd q z
      | some u => exact S.new a u q
    · exact .inr (S.fresh z)
  · have hn : a ∉ ps := fun hm => by rw [(hp a hm).2] at ha; cases ha
    rcases S.fr a o ha hi with z | ⟨z1, z2, od, z3⟩
    · rcases A.fr a o z hn with y | ⟨y1, y2, od, y3⟩
      · exact .inl y
      · refine .inr ⟨y1, ?_, od, y3⟩
        rcases S.new a o y2 with w | w
        · cases q : F.G0 a with
          | none => exact absurd q w
          | some u =>
            have := S.g0 a u q
            rw [ha] at this
            cases this
            rfl
        · rw [ha] at w; cases w
    · rcases A.fr a _ z3 hn with y | ⟨y1, _⟩
      · exact .inr ⟨z1, z2, od, y⟩
      · exact absurd y1 (fun q => q.1)
  · obtain ⟨⟨o, ho⟩, hg, h0⟩ := S.ioh i a ha
    refine ⟨?_, A.none hg ho, h0⟩
    rcases A.fr a o ho (fun hm => h0 (hp a hm).2) with z | ⟨_, z, _⟩
    · exact ⟨o, z⟩
    · rw [hg] at z; cases z
def fMake (C : Addr) (Fd : Fm) (fa : Fa) (ds : List D) : Fn := fun δ => (fa δ).bind fun p => match Fd (.inp (.obj C []) :: (p.1.map .fz ++ ds.map .fz)) with
  | some (.val .non, [d]) => some (.new d, p.2)
  | _ => none
theorem ArgR.fzs {K : PySem.W.Frag} {G H : Hp} : ∀ {vs : List V} {ds : List D}, RepL K G vs ds → ArgR K G H vs (ds.map .fz) []
  | _, _, .nil => .nil
  | _, _, .cons h r => .fz h (ArgR.fzs r)
theorem en_make {k j : Nat} {C : Addr} {Fd : Fm} {ds : List D} {p pos : Pos} (c : Mak X.prog X.w X.K X.mg X.base k x C Fd ds) (hr : Room j X.A) (hk : k + 1 ≤ j) (hg : Gl X x) (ha : Ar X (e :: es) fa)
    (hdb : (x == ("__debug__" : Str)) = false := by decide) (he : starEach (e :: es) X.env = (false, eval e X.env) :: starEach es X.env := by rfl) (hpl : (backTo pos (starEach es X.env)).any (·.1) = false := by rfl) :
    En X (.Call (.Name x p) (e :: es) [] pos) (fMake C Fd fa ds) := by
  obtain ⟨f, fd, ps, us, dvs, M, F, hm, b, d, hd⟩ := c.ex
  refine PE.imp (pe_make M F (hr.mono hk) hg hm b d pass0 ha hdb he hpl) fun σ H Q ⟨F, G, δ, o, δ', S, e, k⟩ => ?_
  obtain ⟨⟨as, δ1⟩, e1, e⟩ := Option.bind_eq_some_iff.mp e
  dsimp only at e
  split at e
  · rename_i dd hF
    cases e
    refine ⟨F, G, δ, as, _, S, e1, fun vs H1 G1 S1 m1 r1 q dx hq hdx ne => ?_⟩
    -- the instance's own dict, then the instance
    have E1 : Ext G1 H1 G1 (upd H1 dx (.own q)) := .own S1.sub hdx
    have hq2 : upd H1 dx (.own q) q = none := (upd_ne (Ne.symm ne)).trans hq
    have E2 : Ext G1 (upd H1 dx (.own q)) G1 (upd (upd H1 dx (.own q)) q (.ins C dx [])) := .own E1.gh hq2
    have E := E1.trans E2
    have gq : G1 q = none := none_of_sub S1.sub hq
    refine ⟨G1, _, [q], _, [dd], E.gh, .inp gq (.obj upd_same .nil) ((ArgR.fzs r1).append hd), by simp, hF, fun v H' G' A rp => ⟨Rep.non_inv (K := X.K) (G := G') rp, ?_⟩⟩
    have S2 := S1.ext E
    have old : ∀ a, H1 a ≠ none → a ≠ q := fun a h z => h (z ▸ hq)
    have ap : Apart σ δ' q := fun i y f hy r hs => by
      obtain ⟨p', a1, a2, a3⟩ := S1.root hy r
      rw [hs] at a1; cases a1
      obtain ⟨u, hu⟩ := a3.there
      rw [hq] at hu; cases hu
    have S' := S2.after_apart A fun p' hp' => by
      have z : p' = q := by simpa using hp'
      subst z
      exact ⟨ap, S1.fresh hq⟩
    cases A.out with
    | cons rt rn =>
      cases rn
      have gq' : G' q = none := A.none gq upd_same
      have mv : Mv σ δ' G1 H1 δ' G' H' := by
        refine ⟨A.le, fun a u hu gu au => ⟨?_, A.none gu (E.hh a u hu), au⟩, fun a ha => ?_⟩
        · rcases A.fr a u (E.hh a u hu) (by simpa using old a (by rw [hu]; exact fun z => nomatch z)) with z | ⟨_, z, _⟩
          · exact z
          · rw [gu] at z; cases z
        · cases z : H1 a with
          | none => rfl
          | some u =>
            rcases A.fr a u (E.hh a u z) (by simpa using old a (by rw [z]; exact fun z => nomatch z)) with y | ⟨_, _, od, y⟩
            · rw [ha] at y; cases y
            · rw [ha] at y; cases y
      exact k _ H' G' S' (m1.trans mv) ⟨q, rfl, gq', rt, m1.dom q hq, ap⟩
  · cases e
end
end L2.Tl

set_option Elab.async false
set_option linter.all false
set_option autoImplicit false
set_option maxRecDepth 100000
namespace L2.Tl
open PySem PySem.Spec PyProof.Rows

/-! ### targets -/
inductive Tg where
  | nm (i : Nat) | tp (is : List Nat)
def tgSet : Tg → D → Dl → Option Dl
  | .nm i, d, δ => some (δ.set i (some (.fz d)))
  | .tp is, .tup ds, δ => setAll is (ds.map .val) δ
  | .tp _, _, _ => none
def Tg.ix : Tg → List Nat
  | .nm i => [i]
  | .tp is => is
def tgG (K : PySem.W.Frag) : Tg → TG
  | .nm i => gName i
  | .tp is => gTup K is.length (gSets is)
theorem wipe_in {j : Nat} : ∀ (ws : List Nat) (τ : St), j ∈ ws → (wipe τ ws)[j]? = if j < τ.length then some none else none
  | [], _, z => by simp at z
  | w :: ws, τ, z => by
    show ((wipe τ ws).set w none)[j]? = _
    by_cases q : j = w
    · subst q
      by_cases hl : j < τ.length
      · rw [List.getElem?_set_self (by rw [wipe_length]; exact hl), if_pos hl]
      · rw [List.getElem?_eq_none (by simp [wipe_length]; omega), if_neg hl]
    · rw [List.getElem?_set_ne (Ne.symm q)]
      exact wipe_in ws τ (by simpa [q] using z)
theorem wipe_wipe (σ : St) (vs : List Nat) : wipe (wipe σ vs) vs = wipe σ vs := List.ext_getElem? fun j => by
  by_cases h : j ∈ vs
  · rw [wipe_in _ _ h, wipe_in _ _ h, wipe_length]
  · rw [wipe_out h]
theorem wipe_set {σ : St} {i : Nat} {x : Option V} : ∀ {vs : List Nat}, i ∈ vs → wipe (σ.set i x) vs = wipe σ vs
  | [], h => by simp at h
  | v :: vs, h => by
    show (wipe (σ.set i x) vs).set v none = (wipe σ vs).set v none
    by_cases hi : i ∈ vs
    · rw [wipe_set hi]
    · have e : i = v := by simpa [hi] using h
      subst e
      refine List.ext_getElem? fun j => ?_
      by_cases n : j = i
      · subst n
        by_cases hl : j < σ.length
        · rw [List.getElem?_set_self (by rw [wipe_length]; simpa using hl), List.getElem?_set_self (by rw [wipe_length]; exact hl)]
        · rw [List.getElem?_eq_none (by simp [wipe_length]; omega), List.getElem?_eq_none (by simp [wipe_length]; omega)]
      · rw [List.getElem?_set_ne (Ne.symm n), List.getElem?_set_ne (Ne.symm n)]
        by_cases hj : j ∈ vs
        · have key : ∀ (τ : St) (ws : List Nat), j ∈ ws → (wipe τ ws)[j]? = if j < τ.length then some none else none := fun τ ws => by
            induction ws with
            | nil => intro z; simp at z
            | cons w ws ih =>
              intro z
              show ((wipe τ ws).set w none)[j]? = _
              by_cases q : j = w
              · subst q
                by_cases hl : j < τ.length
                · rw [List.getElem?_set_self (by rw [wipe_length]; exact hl), if_pos hl]
                · rw [List.getElem?_eq_none (by simp [wipe_length]; omega), if_neg hl]
              · rw [List.getElem?_set_ne (Ne.symm q)]
                exact ih (by simpa [q] using z)
          rw [key _ _ hj, key _ _ hj]
          simp
        · rw [wipe_out hj, wipe_out hj, List.getElem?_set_ne (Ne.symm n)]
theorem wipe_setVs {vs : List Nat} : ∀ {is : List Nat} {xs : List V} {σ : St}, (∀ i ∈ is, i ∈ vs) → wipe (setVs is xs σ) vs = wipe σ vs
  | [], [], _, _ => rfl
  | [], _ :: _, _, _ => rfl
  | _ :: _, [], _, _ => rfl
  | i :: is, x :: xs, σ, h => by
    show wipe (setVs is xs (σ.set i (some x))) vs = _
    rw [wipe_setVs (fun j hj => h j (List.mem_cons_of_mem _ hj)), wipe_set (h i List.mem_cons_self)]
theorem apart_setAll {p : Addr} : ∀ {is : List Nat} {vs : List V} {ds : List D} {σ : St} {δ δ' : Dl}, σ.length = δ.length → vs.length = ds.length → setAll is (ds.map .val) δ = some δ' → Apart σ δ p → Apart (setVs is vs σ) δ' p
  | [], [], [], _, _, _, _, _, e, h => by cases e; exact h
  | [], _, _ :: _, _, _, _, _, _, e, _ => nomatch e
  | _ :: _, _, [], _, _, _, _, _, e, _ => nomatch e
  | [], _ :: _, [], _, _, _, _, l, _, _ => nomatch l
  | _ :: _, [], _ :: _, _, _, _, _, l, _, _ => nomatch l
  | i :: is, v :: vs, d :: ds, σ, δ, δ', hl, l, e, h => apart_setAll (is := is) (σ := σ.set i (some v)) (δ := δ.set i (some (.fz d))) (by simpa using hl) (by simpa using l) e (h.set (x := .fz d) i hl fun _ z => nomatch z)
theorem tg_of {K : PySem.W.Frag} {t : Tg} {x : V} {d : D} {F : Fr} {G H : Hp} {σ : St} {δ δ' : Dl} {Q : St → Hp → Prop} (S : Sim K F G H σ δ) (r : Rep K G x d) (e : tgSet t d δ = some δ')
    (k : ∀ σ', Sim K F G H σ' δ' → (∀ vs : List Nat, (∀ i ∈ t.ix, i ∈ vs) → wipe σ' vs = wipe σ vs) → (∀ p, Apart σ δ p → Apart σ' δ' p) → Q σ' H) : tgG K t x σ H Q := by
  cases t with
  | nm i =>
    cases e
    exact k _ (S.set r i) (fun vs h => wipe_set (h i (by simp [Tg.ix]))) fun p ap => ap.set (x := .fz d) i S.len fun _ z => nomatch z
  | tp is =>
    cases d with
    | tup ds =>
      have e' : setAll is (ds.map .val) δ = some δ' := e
      obtain ⟨a, vs, rfl, h1, h2⟩ := RepK.tup (.inl r) S.sub
      have hl := setAll_length e'
      rw [List.length_map] at hl
      exact ⟨a, vs, rfl, SqT.of h1, by rw [h2.length, ← hl], gSets_of (by rw [h2.length, hl]) (k _ (Sim.setAll (Z := H) (fun a h => S.fresh h) S (RepOs.vals h2) e') (fun ws h => wipe_setVs h) fun p ap => apart_setAll S.len h2.length e' ap)⟩
    | _ => cases e

/-! ### walks -/
structure Yl (K : PySem.W.Frag) (J : It) (G : Hp) (ds : List D) : Prop where
  goes : ∀ i G' H', i < ds.length → Le G G' → Sub G' H' → J.go i H'
  stops : ∀ G' H', Le G G' → Sub G' H' → J.stop ds.length H'
  ylds : ∀ i G' H' x H2, i < ds.length → Le G G' → Sub G' H' → J.yld i H' x H2 → ∃ d G2, ds[i]? = some d ∧ Ext G' H' G2 H2 ∧ Rep K G2 x d
abbrev Fi := Dl → Option (List D × Dl)
def tIt (K : PySem.W.Frag) (f : Fi) : TI := fun σ H R => ∃ F G δ ds δ', Sim K F G H σ δ ∧ f δ = some (ds, δ') ∧ ∀ J H' G', Sim K F G' H' σ δ' → Mv σ δ G H δ' G' H' → Yl K J G' ds → R J H'
/-- what a loop walks -/
def Ii (X : Cx) (tg e : Expr) (f : Fi) : Prop := PI X tg e (tIt X.K f)
theorem PI.imp {X : Cx} {tg e : Expr} {t t' : TI} (h : PI X tg e t) (i : ∀ σ H R, t' σ H R → t σ H R) : PI X tg e t' := ⟨fun pins s σ H R I q => h.run pins s σ H R I (i σ H R q)⟩

/-! ### for -/
def loopM (t : Tg) (body : Fs) : List D → Dl → Option (Fl × Dl)
  | [], δ => some (.next, δ)
  | d :: ds, δ => (tgSet t d δ).bind fun δ1 => (body δ1).bind fun p => match p.1 with
    | .next => loopM t body ds p.2
    | .cnt => loopM t body ds p.2
    | .brk => some (.next, p.2)
    | .ret o => some (.ret o, p.2)
def sFor (t : Tg) (fi : Fi) (body : Fs) : Fs := fun δ => (fi δ).bind fun p => loopM t body p.1 p.2
section
variable {X : Cx} {tg iter e : Expr} {body : List Stmt} {pos : Pos}
theorem sm_for {t : Tg} {fi : Fi} {fb : Fs} (hp : PassesOwn (model X.prog X.w) X.A X.env X.xe) (hc : X.calm = true) (hi : Ii X tg iter fi) (hg : PG X tg (tgG X.K t)) (hb : Ss X body fb)
    (hs : ∀ x, foldedSetIterable iter X.env x = pure x := by intro _; rfl) : Sm X (.For tg iter body [] pos) (sFor t fi fb) := PS.imp (ps_for hp hc hi hg hb hs) fun Z σ H ⟨F, G, δ, fl, δ', S, e, k⟩ => by
  obtain ⟨⟨ds, δ1⟩, e1, e2⟩ := Option.bind_eq_some_iff.mp e
  dsimp only at e2
  refine ⟨F, G, δ, ds, δ1, S, e1, fun J H1 G1 S1 m1 Y => ?_⟩
  refine ⟨fun i m σ H => m = ds.length - i ∧ i ≤ ds.length ∧ ∃ G2 δ2, Sim X.K F G2 H σ δ2 ∧ Le G1 G2 ∧ loopM t fb (ds.drop i) δ2 = some (fl, δ'), ⟨ds.length, rfl, Nat.zero_le _, G1, δ1, S1, .refl _, e2⟩, ?_⟩
  rintro i m σ2 H2 ⟨rfl, hi, G2, δ2, S2, l2, e3⟩
  by_cases hlt : i < ds.length
  · refine .inr ⟨Y.goes i G2 H2 hlt l2 S2.sub, fun σ' H' => ∃ G3 δ3, Sim X.K F G3 H' σ' δ3 ∧ Le G1 G3 ∧ loopM t fb (ds.drop (i + 1)) δ3 = some (fl, δ'), fun σ' H' ⟨G3, δ3, q⟩ => ⟨ds.length - (i + 1), by omega, rfl, hlt, G3, δ3, q⟩, fun x H3 y => ?_⟩
    obtain ⟨d, G3, hd, E, r⟩ := Y.ylds i G2 H2 x H3 hlt l2 S2.sub y
    rw [List.drop_eq_getElem_cons hlt] at e3
    rw [List.getElem?_eq_getElem hlt] at hd
    rw [Option.some.inj hd] at e3
    obtain ⟨δ3, e4, e5⟩ := Option.bind_eq_some_iff.mp e3
    obtain ⟨⟨fl1, δ4⟩, e6, e7⟩ := Option.bind_eq_some_iff.mp e5
    have S3 := S2.ext E
    have l3 : Le G1 G3 := l2.trans E.gg.le
    refine tg_of S3 r e4 fun σ4 S4 _ _ => ⟨F, G3, δ3, fl1, δ4, S4, e6, ?_⟩
    cases fl1 with
    | next => exact fun σ5 H5 G5 S5 l5 => ⟨G5, δ4, S5, l3.trans l5, e7⟩
    | cnt => exact fun σ5 H5 G5 S5 l5 => ⟨G5, δ4, S5, l3.trans l5, e7⟩
    | brk =>
      cases e7
      exact fun σ5 H5 G5 S5 l5 => k σ5 H5 G5 S5 (m1.le.trans (l3.trans l5))
    | ret o =>
      cases e7
      exact fun v σ5 H5 G5 S5 l5 r5 => k v σ5 H5 G5 S5 (m1.le.trans (l3.trans l5)) r5
  · have ei : i = ds.length := by omega
    subst ei
    rw [List.drop_length] at e3
    cases e3
    exact .inl ⟨Y.stops G2 H2 l2 S2.sub, k σ2 H2 G2 S2 (m1.le.trans l2)⟩

/-! ### while -/
def loopW (c : Ft) (body : Fs) : Nat → Dl → Option (Fl × Dl)
  | 0, _ => none
  | n + 1, δ => (c δ).bind fun p => if p.1 = true then (body p.2).bind fun q => match q.1 with
    | .next => loopW c body n q.2
    | .cnt => loopW c body n q.2
    | .brk => some (.next, q.2)
    | .ret o => some (.ret o, q.2)
    else some (.next, p.2)
theorem loopW_up {c : Ft} {body : Fs} : ∀ {n : Nat} {δ : Dl} {r : Fl × Dl}, loopW c body n δ = some r → loopW c body (n + 1) δ = some r
  | 0, _, _, h => by cases h
  | n + 1, δ, r, h => by
    obtain ⟨⟨b, δ1⟩, e1, e2⟩ := Option.bind_eq_some_iff.mp h
    show (c δ).bind _ = _
    rw [e1]
    show (if b = true then _ else _) = _
    dsimp only at e2
    split at e2
    · rename_i hb
      rw [if_pos hb]
      obtain ⟨⟨fl, δ2⟩, e3, e4⟩ := Option.bind_eq_some_iff.mp e2
      rw [e3]
      cases fl with
      | next => exact loopW_up (n := n) e4
      | cnt => exact loopW_up (n := n) e4
      | brk => exact e4
      | ret o => exact e4
    · rename_i hb
      rw [if_neg hb]
      exact e2
theorem loopW_le {c : Ft} {body : Fs} {n m : Nat} {δ : Dl} {r : Fl × Dl} (h : n ≤ m) (e : loopW c body n δ = some r) : loopW c body m δ = some r := by
  induction h with
  | refl => exact e
  | step _ ih => exact loopW_up ih
open Classical in
/-- some number of turns will do -/
noncomputable def sWhile (c : Ft) (body : Fs) : Fs := fun δ => if h : ∃ r n, loopW c body n δ = some r then some h.choose else none
theorem sWhile_of {c : Ft} {body : Fs} {n : Nat} {δ : Dl} {r : Fl × Dl} (h : loopW c body n δ = some r) : sWhile c body δ = some r := by
  have h' : ∃ r n, loopW c body n δ = some r := ⟨r, n, h⟩
  unfold sWhile
  rw [dif_pos h']
  obtain ⟨m, hm⟩ := h'.choose_spec
  have a := loopW_le (Nat.le_max_left n m) h
  have b := loopW_le (Nat.le_max_right n m) hm
  rw [a] at b
  exact b.symm
theorem of_sWhile {c : Ft} {body : Fs} {δ : Dl} {r : Fl × Dl} (h : sWhile c body δ = some r) : ∃ n, loopW c body n δ = some r := by
  unfold sWhile at h
  split at h
  · rename_i h'
    cases h
    exact h'.choose_spec
  · cases h
theorem sm_while {c : Expr} {fc : Ft} {fb : Fs} (hp : PassesOwn (model X.prog X.w) X.A X.env X.xe) (hc : Ts X c fc) (hb : Ss X body fb) : Sm X (.While c body [] pos) (sWhile fc fb) := PS.imp (ps_while hp hc hb) fun Z σ H ⟨F, G, δ, fl, δ', S, e, k⟩ => by
  obtain ⟨n, e⟩ := of_sWhile e
  refine ⟨fun m σ H => ∃ G2 δ2, Sim X.K F G2 H σ δ2 ∧ Le G G2 ∧ loopW fc fb m δ2 = some (fl, δ'), ⟨n, G, δ, S, .refl _, e⟩, ?_⟩
  rintro m σ2 H2 ⟨G2, δ2, S2, l2, e3⟩
  cases m with
  | zero => cases e3
  | succ m =>
    obtain ⟨⟨b, δ3⟩, e4, e5⟩ := Option.bind_eq_some_iff.mp e3
    refine ⟨F, G2, δ2, b, δ3, S2, e4, fun H3 G3 S3 m3 => ?_⟩
    have l3 := l2.trans m3.le
    dsimp only at e5
    split at e5
    · rename_i hb
      show if b = true then _ else _
      rw [if_pos hb]
      obtain ⟨⟨fl1, δ4⟩, e6, e7⟩ := Option.bind_eq_some_iff.mp e5
      refine ⟨fun σ' H' => ∃ G2 δ2, Sim X.K F G2 H' σ' δ2 ∧ Le G G2 ∧ loopW fc fb m δ2 = some (fl, δ'), fun σ' H' q => ⟨m, Nat.lt_succ_self _, q⟩, F, G3, δ3, fl1, δ4, S3, e6, ?_⟩
      cases fl1 with
      | next => exact fun σ5 H5 G5 S5 l5 => ⟨G5, δ4, S5, l3.trans l5, e7⟩
      | cnt => exact fun σ5 H5 G5 S5 l5 => ⟨G5, δ4, S5, l3.trans l5, e7⟩
      | brk =>
        cases e7
        exact fun σ5 H5 G5 S5 l5 => k σ5 H5 G5 S5 (l3.trans l5)
      | ret o =>
        cases e7
        exact fun v σ5 H5 G5 S5 l5 r5 => k v σ5 H5 G5 S5 (l3.trans l5) r5
    · rename_i hb
      show if b = true then _ else _
      rw [if_neg hb]
      cases e5
      exact k σ2 H3 G3 S3 l3
end
end L2.Tl

set_option Elab.async false
set_option linter.all false
set_option autoImplicit false
set_option maxRecDepth 100000
namespace L2.Tl
open PySem PySem.Spec PyProof.Rows

/-! ### a dict is locked while a loop walks it: nobody changes it, so for good -/
theorem Sim.lock {K : PySem.W.Frag} {F : Fr} {G H : Hp} {σ : St} {δ : Dl} {d : Addr} {u : HO} {od : Obj} (S : Sim K F G H σ δ) (h : G d = some u) (mu : Mut (some u)) (nt : (∀ C dx fs, u ≠ .ins C dx fs) ∧ ∀ xs, u ≠ .lst xs) :
    Sim K F (upd G d (.frz od u)) (upd H d (.frz od u)) σ δ ∧ Mv σ δ G H δ (upd G d (.frz od u)) (upd H d (.frz od u)) := by
  have nz : ∀ o' u', u ≠ .frz o' u' := fun o' u' z => by rw [z] at mu; exact mu
  have hH : H d = some u := S.sub d u h
  have l : Le G (upd G d (.frz od u)) := by
    refine ⟨fun a w hw => ?_, fun a vs hv => ?_, fun a C dx fs hv => ?_, fun a o w hv => ?_⟩
    · by_cases z : a = d
      · subst z
        rcases hw with hw | ⟨o, hw⟩
        · rw [h] at hw; cases hw
          exact .inr ⟨od, upd_same⟩
        · rw [h] at hw; exact absurd (Option.some.inj hw) (nz o w)
      · rcases hw with hw | ⟨o, hw⟩
        · exact .inl ((upd_ne z).trans hw)
        · exact .inr ⟨o, (upd_ne z).trans hw⟩
    · rw [upd_ne (fun z => by rw [z, h] at hv; cases hv; exact mu)]; exact hv
    · rw [upd_ne (fun z => by rw [z, h] at hv; exact nt.1 _ _ _ (Option.some.inj hv))]; exact hv
    · rw [upd_ne (fun z => by rw [z, h] at hv; exact nz _ _ (Option.some.inj hv))]; exact hv
  have ne : ∀ {p : Addr}, G p = none → p ≠ d := fun {p} g z => by rw [z, h] at g; cases g
  refine ⟨⟨S.len, fun i e he => ?_, fun i e he => ?_, fun i e he => ?_, S.inj, fun a o ha => ?_, fun a o ha => ?_, fun a o ha hi => ?_, fun i a ha => ?_, S.g0⟩, l, fun a o ho g ap => ⟨(upd_ne (ne g)).trans ho, (upd_ne (ne g)).trans g, ap⟩, fun a ha => ?_⟩
  · obtain ⟨v, a, b⟩ := S.fz i e he
    exact ⟨v, a, b.mono l⟩
  · obtain ⟨p, a, b, c, q⟩ := S.own i e he
    exact ⟨p, a, (upd_ne (ne b)).trans b, c.mono l (upd_ne (ne b)), q⟩
  · obtain ⟨p, a, b, c, q⟩ := S.inp i e he
    exact ⟨p, a, (upd_ne (ne b)).trans b, c.mono l (upd_ne (ne b)), q⟩
  · by_cases z : a = d
    · subst z; rw [upd_same] at ha ⊢; exact ha
    · rw [upd_ne z] at ha ⊢; exact S.sub a o ha
  · by_cases z : a = d
    · subst z; exact S.new a u h
    · rw [upd_ne z] at ha; exact S.new a o ha
  · by_cases z : a = d
    · subst z
      rcases S.fr a o ha hi with q | ⟨q1, q2, od', q3⟩
      · rw [hH] at q; cases q
        refine .inr ⟨⟨mu, nt.2⟩, ?_, od, upd_same⟩
        rcases S.new a u h with w | w
        · cases e : F.G0 a with
          | none => exact absurd e w
          | some x =>
            have := S.g0 a x e
            rw [ha] at this
            rw [this]
        · rw [ha] at w; cases w
      · rw [hH] at q3
        exact absurd (Option.some.inj q3) (nz _ _)
    · rw [upd_ne z]; exact S.fr a o ha hi
  · obtain ⟨⟨o, ho⟩, g, h0⟩ := S.ioh i a ha
    exact ⟨⟨o, (upd_ne (ne g)).trans ho⟩, (upd_ne (ne g)).trans g, h0⟩
  · by_cases z : a = d
    · subst z; rw [upd_same] at ha; cases ha
    · rw [upd_ne z] at ha; exact ha
def lkT (t : TE) : TE := fun σ H Q => t σ H fun x H1 => ∃ d kvs, x = .ref d ∧ ((H1 d = some (.dK kvs) ∧ ∀ od, Q x (upd H1 d (.frz od (.dK kvs)))) ∨ ∃ od, H1 d = some (.frz od (.dK kvs)) ∧ Q x H1)
theorem pe_lk {X : Cx} {e : Expr} {t : TE} (h : PE X e t) : PE X e (lkT t) := ⟨fun pins s σ H Q I q => by
  refine thn (h.run pins s σ H _ I q) fun u s1 ⟨x, H1, I1, r1, d, kvs, ex, q1⟩ => ?_
  subst ex
  rcases q1 with ⟨hd, q1⟩ | ⟨od, hd, q1⟩
  · obtain ⟨od, I2⟩ := I1.lock hd trivial
    exact ⟨_, _, I2, r1, q1 od⟩
  · exact ⟨_, _, I1, r1, q1⟩⟩
/-- the locked dict at hand -/
theorem lk_of {K : PySem.W.Frag} {f : Fe} {σ : St} {H : Hp} {Q : VK} {F : Fr} {G : Hp} {δ δ1 δ2 : Dl} {r : RV} {kvs : List (D × D)} (S : Sim K F G H σ δ) (e1 : f δ = some (r, δ1)) (e2 : esc r δ1 = some (.dct false kvs, δ2))
    (k : ∀ d od kvs' H' G', Sim K F G' H' σ δ2 → Mv σ δ G H δ2 G' H' → G' d = some (.frz od (.dK kvs')) → RepD K G' kvs' kvs → Q (.ref d) H') : lkT (tEv K f) σ H Q := by
  refine ⟨F, G, δ, r, δ1, S, e1, fun v H1 G1 S1 m1 r1 => ?_⟩
  obtain ⟨G2, S2, m2, r2⟩ := S1.esc r1 e2
  cases r2 with
  | dK hd rd =>
    rename_i a kvs'
    refine ⟨a, kvs', rfl, ?_⟩
    rcases hd with hd | ⟨od, hd⟩
    · refine .inl ⟨S2.sub _ _ hd, fun od => ?_⟩
      obtain ⟨S3, m3⟩ := S2.lock (od := od) hd trivial ⟨fun _ _ _ z => (nomatch z), fun _ z => (nomatch z)⟩
      exact k a od kvs' _ _ S3 (m1.trans (m2.trans m3)) upd_same (rd.mono m3.le)
    · exact .inr ⟨od, S2.sub _ _ hd, k a od kvs' _ _ S2 (m1.trans m2) hd rd⟩

/-! ### what loops walk -/
theorem RepD.getk {K : PySem.W.Frag} {G : Hp} : ∀ {vs : List (Key × V)} {ds : List (D × D)} {i : Nat} {k : Key} {v : V}, RepD K G vs ds → vs[i]? = some (k, v) → ∃ d, ds[i]? = some (kD k, d) ∧ Rep K G v d
  | _, _, _, _, _, .nil, e => by simp at e
  | _, _, 0, _, _, .cons h _, e => by simp at e; obtain ⟨rfl, rfl⟩ := e; exact ⟨_, rfl, h⟩
  | _, _, i + 1, k, v, .cons _ r, e => by
    obtain ⟨d, h1, h2⟩ := RepD.getk (i := i) (k := k) (v := v) r (by simpa using e)
    exact ⟨d, by simpa using h1, h2⟩
theorem RepD.len {K : PySem.W.Frag} {G : Hp} : ∀ {vs : List (Key × V)} {ds : List (D × D)}, RepD K G vs ds → vs.length = ds.length
  | _, _, .nil => rfl
  | _, _, .cons _ r => by simp [r.len]
theorem Rep.kV {K : PySem.W.Frag} {G : Hp} (k : Key) : Rep K G (L2.kV k) (kD k) := by
  cases k with
  | inl i => exact .int i
  | inr x => exact .str x
def chars (z : Str) : List D := z.cps.toList.map fun c => .str ⟨#[c]⟩
def seqOf : D → Option (List D)
  | .lst ds => some ds
  | .tup ds => some ds
  | .str z => some (chars z)
  | .dct false kvs => some (kvs.map (·.1))
  | _ => none
section
variable {K : PySem.W.Frag} {G : Hp}
theorem yl_list {a : Addr} {vs : List V} {ds : List D} (h : Rd G a (.lst vs)) (r : RepL K G vs ds) : Yl K (Itl K a) G ds := by
  have sq : ∀ G' H', Le G G' → Sub G' H' → SqL K H' a vs := fun G' H' l s => .inl (s.le.rd _ _ (l.rd _ _ h))
  have w := walk_list (K := K) (a := a) (xs := vs)
  refine ⟨fun i G' H' hi l s => w.goes i H' (by rw [r.length]; exact hi) (sq G' H' l s), fun G' H' l s => by rw [← r.length]; exact w.stops H' (sq G' H' l s), fun i G' H' x H2 hi l s y => ?_⟩
  obtain ⟨e1, e2⟩ := w.yields i H' x H2 (by rw [r.length]; exact hi) (sq G' H' l s) y
  subst e1
  obtain ⟨d, h1, h2⟩ := r.getv e2
  exact ⟨d, G', h1, .refl s, h2.mono l⟩
theorem yl_tup {a : Addr} {vs : List V} {ds : List D} (h : G a = some (.tup vs)) (r : RepL K G vs ds) : Yl K (Itt K a) G ds := by
  have sq : ∀ G' H', Le G G' → Sub G' H' → SqT K H' a vs := fun G' H' l s => .inl (.inl (s _ _ (l.tup _ _ h)))
  have w := walk_tup (K := K) (a := a) (xs := vs)
  refine ⟨fun i G' H' hi l s => w.goes i H' (by rw [r.length]; exact hi) (sq G' H' l s), fun G' H' l s => by rw [← r.length]; exact w.stops H' (sq G' H' l s), fun i G' H' x H2 hi l s y => ?_⟩
  obtain ⟨e1, e2⟩ := w.yields i H' x H2 (by rw [r.length]; exact hi) (sq G' H' l s) y
  subst e1
  obtain ⟨d, h1, h2⟩ := r.getv e2
  exact ⟨d, G', h1, .refl s, h2.mono l⟩
theorem yl_str {z : Str} : Yl K (Its z) G (chars z) := by
  have hl : (chars z).length = z.cps.size := by simp [chars]
  refine ⟨fun i G' H' hi l s => by show i < z.cps.size; omega, fun G' H' l s => by show z.cps.size ≤ _; omega, fun i G' H' x H2 hi l s y => ?_⟩
  obtain ⟨e1, c, e2, rfl⟩ := y
  subst e1
  refine ⟨.str ⟨#[c]⟩, G', ?_, .refl s, .str _⟩
  have : z.cps.toList[i]? = some c := by simpa using e2
  simp only [chars, List.getElem?_map, this, Option.map_some]
theorem yl_keys {a : Addr} {od : Obj} {vs : List (Key × V)} {ds : List (D × D)} (h : G a = some (.frz od (.dK vs))) (r : RepD K G vs ds) : Yl K (Itk a od vs) G (ds.map (·.1)) := by
  have sq : ∀ G' H', Le G G' → Sub G' H' → H' a = some (.frz od (.dK vs)) := fun G' H' l s => s _ _ (l.frz _ _ _ h)
  have w := walk_keys (d := a) (o := od) (kvs := vs)
  have hl : vs.length = (ds.map (·.1)).length := by rw [r.len]; simp
  refine ⟨fun i G' H' hi l s => w.goes i H' (by rw [hl]; exact hi) (sq G' H' l s), fun G' H' l s => by rw [← hl]; exact w.stops H' (sq G' H' l s), fun i G' H' x H2 hi l s y => ?_⟩
  obtain ⟨e1, k, v, e2, rfl⟩ := w.yields i H' x H2 (by rw [hl]; exact hi) (sq G' H' l s) y
  subst e1
  obtain ⟨d, h1, h2⟩ := r.getk e2
  exact ⟨kD k, G', by simp [h1], .refl s, .kV k⟩
theorem yl_values {a : Addr} {od : Obj} {vs : List (Key × V)} {ds : List (D × D)} (h : G a = some (.frz od (.dK vs))) (r : RepD K G vs ds) : Yl K (Itd a od vs) G (ds.map (·.2)) := by
  have sq : ∀ G' H', Le G G' → Sub G' H' → H' a = some (.frz od (.dK vs)) := fun G' H' l s => s _ _ (l.frz _ _ _ h)
  have w := walk_values (d := a) (o := od) (kvs := vs)
  have hl : vs.length = (ds.map (·.2)).length := by rw [r.len]; simp
  refine ⟨fun i G' H' hi l s => w.goes i H' (by rw [hl]; exact hi) (sq G' H' l s), fun G' H' l s => by rw [← hl]; exact w.stops H' (sq G' H' l s), fun i G' H' x H2 hi l s y => ?_⟩
  obtain ⟨e1, k, e2⟩ := w.yields i H' x H2 (by rw [hl]; exact hi) (sq G' H' l s) y
  subst e1
  obtain ⟨d, h1, h2⟩ := r.getk e2
  exact ⟨d, G', by simp [h1], .refl s, h2.mono l⟩
/-- pairs, each a new tuple -/
theorem yl_pair {J : It} {ds : List D} {n : Nat} {C : Hp → Prop} {xs ys : Nat → Option V} (w : Walk J n C (YPair xs ys)) (hn : ds.length = n) (hc : ∀ G' H', Le G G' → Sub G' H' → C H')
    (hx : ∀ i x y, i < n → xs i = some x → ys i = some y → ∃ d e, ds[i]? = some (.tup [d, e]) ∧ Rep K G x d ∧ Rep K G y e) : Yl K J G ds := by
  subst hn
  refine ⟨fun i G' H' hi l s => w.goes i H' hi (hc G' H' l s), fun G' H' l s => w.stops H' (hc G' H' l s), fun i G' H' v H2 hi l s yy => ?_⟩
  obtain ⟨T, x, y, rfl, hT, rfl, e1, e2⟩ := w.yields i H' v H2 hi (hc G' H' l s) yy
  obtain ⟨d, e, h1, h2, h3⟩ := hx i x y hi e1 e2
  have E : Tl.Ext G' H' (upd G' T (.tup [x, y])) (upd H' T (.tup [x, y])) := .add s hT
  exact ⟨_, _, h1, E, .tup upd_same (.cons ((h2.mono l).mono E.gg.le) (.cons ((h3.mono l).mono E.gg.le) .nil))⟩
def pairD (p : D × D) : D := .tup [p.1, p.2]
theorem yl_items {a : Addr} {od : Obj} {vs : List (Key × V)} {ds : List (D × D)} (h : G a = some (.frz od (.dK vs))) (r : RepD K G vs ds) : Yl K (Iti a od vs) G (ds.map pairD) :=
  yl_pair (walk_items (d := a) (o := od) (kvs := vs)) (by rw [r.len]; simp) (fun G' H' l s => s _ _ (l.frz _ _ _ h)) fun i x y hi e1 e2 => by
    obtain ⟨⟨k, v⟩, e3, rfl⟩ := Option.map_eq_some_iff.mp e1
    rw [e3] at e2
    cases e2
    obtain ⟨d, h1, h2⟩ := r.getk e3
    exact ⟨kD k, d, by simp [h1, pairD], .kV k, h2⟩
def enumD (n : Nat) : List D → List D
  | [] => []
  | d :: ds => .tup [.int n, d] :: enumD (n + 1) ds
theorem enumD_length : ∀ (ds : List D) (n : Nat), (enumD n ds).length = ds.length
  | [], _ => rfl
  | _ :: ds, n => by simp [enumD, enumD_length ds]
theorem enumD_get : ∀ (ds : List D) (n i : Nat), (enumD n ds)[i]? = ds[i]?.map fun d => .tup [.int (n + i : Nat), d]
  | [], _, _ => by simp [enumD]
  | d :: ds, n, 0 => by simp [enumD]
  | d :: ds, n, i + 1 => by
    simp only [enumD, List.getElem?_cons_succ, enumD_get ds (n + 1) i]
    congr 2
    rw [Nat.add_right_comm, Nat.add_assoc]
theorem yl_enum {a : Addr} {vs : List V} {ds : List D} (h : Rd G a (.lst vs)) (r : RepL K G vs ds) : Yl K (Ite K a) G (enumD 0 ds) :=
  yl_pair (walk_enum (K := K) (a := a) (xs := vs)) (by rw [enumD_length, r.length]) (fun G' H' l s => .inl (s.le.rd _ _ (l.rd _ _ h))) fun i x y hi e1 e2 => by
    cases e1
    obtain ⟨d, h1, h2⟩ := r.getv e2
    exact ⟨.int i, d, by rw [enumD_get, h1]; simp, .int _, h2⟩
def zipD : List D → List D → List D
  | d :: ds, e :: es => .tup [d, e] :: zipD ds es
  | _, _ => []
theorem zipD_length : ∀ (ds es : List D), (zipD ds es).length = min ds.length es.length
  | [], _ => by simp [zipD]
  | _ :: _, [] => by simp [zipD]
  | _ :: ds, _ :: es => by simp [zipD, zipD_length ds es]
theorem zipD_get : ∀ (ds es : List D) (i : Nat) (d e : D), ds[i]? = some d → es[i]? = some e → (zipD ds es)[i]? = some (.tup [d, e])
  | [], _, _, _, _, h, _ => by simp at h
  | _ :: _, [], _, _, _, _, h => by simp at h
  | _ :: ds, _ :: es, 0, _, _, h, h' => by simp at h h'; subst h; subst h'; rfl
  | _ :: ds, _ :: es, i + 1, d, e, h, h' => zipD_get ds es i d e (by simpa using h) (by simpa using h')
theorem yl_zip {a b : Addr} {vs ws : List V} {ds es : List D} (h : Rd G a (.lst vs)) (h' : Rd G b (.lst ws)) (r : RepL K G vs ds) (r' : RepL K G ws es) : Yl K (Itz K a b) G (zipD ds es) :=
  yl_pair (walk_zip (K := K) (a := a) (b := b) rfl) (by rw [zipD_length, r.length, r'.length]) (fun G' H' l s => ⟨.inl (s.le.rd _ _ (l.rd _ _ h)), .inl (s.le.rd _ _ (l.rd _ _ h'))⟩) fun i x y hi e1 e2 => by
    obtain ⟨d, h1, h2⟩ := r.getv e1
    obtain ⟨e, h3, h4⟩ := r'.getv e2
    exact ⟨d, e, zipD_get _ _ _ _ _ h1 h3, h2, h4⟩
theorem yl_rev {a : Addr} {vs : List V} {ds : List D} (h : Rd G a (.lst vs)) (r : RepL K G vs ds) : Yl K (Itv K a vs.length) G ds.reverse := by
  have sq : ∀ G' H', Le G G' → Sub G' H' → SqL K H' a vs := fun G' H' l s => .inl (s.le.rd _ _ (l.rd _ _ h))
  have w := walk_rev (K := K) (a := a) (xs := vs)
  have hl : ds.reverse.length = vs.length := by rw [List.length_reverse, r.length]
  refine ⟨fun i G' H' hi l s => w.goes i H' (by rw [← hl]; exact hi) (sq G' H' l s), fun G' H' l s => by rw [hl]; exact w.stops H' (sq G' H' l s), fun i G' H' x H2 hi l s y => ?_⟩
  obtain ⟨e1, e2⟩ := w.yields i H' x H2 (by rw [← hl]; exact hi) (sq G' H' l s) y
  subst e1
  obtain ⟨d, h1, h2⟩ := r.getv e2
  refine ⟨d, G', ?_, .refl s, h2.mono l⟩
  rw [List.getElem?_reverse (by simpa using hi), ← h1, r.length]
def rngD (lo c : Int) (n : Nat) : List D := (List.range n).map fun i => .int (lo + (i : Nat) * c)
theorem yl_range {lo : Int} {n : Nat} : Yl K (Itr lo n) G (rngD lo 1 n) := by
  refine ⟨fun i G' H' hi l s => (by have h : i < n := (by simpa [rngD] using hi); exact h), fun G' H' l s => by simp [Itr, rngD], fun i G' H' x H2 hi l s y => ?_⟩
  have hi' : i < n := by simpa [rngD] using hi
  obtain ⟨e1, e2⟩ := (walk_range (lo := lo) (n := n)).yields i H' x H2 hi' trivial y
  subst e1
  subst e2
  exact ⟨.int (lo + (i : Nat) * 1), G', by simp only [rngD, List.getElem?_map, List.getElem?_range hi', Option.map_some], .refl s, by rw [Int.mul_one]; exact .int _⟩
theorem yl_rangeC {lo c : Int} {n : Nat} : Yl K (Itc lo c n) G (rngD lo c n) := by
  refine ⟨fun i G' H' hi l s => (by have h : i < n := (by simpa [rngD] using hi); exact h), fun G' H' l s => by simp [Itc, rngD], fun i G' H' x H2 hi l s y => ?_⟩
  have hi' : i < n := by simpa [rngD] using hi
  obtain ⟨e1, e2⟩ := (walk_rangeC (lo := lo) (c := c) (n := n)).yields i H' x H2 hi' trivial y
  subst e1
  subst e2
  exact ⟨_, G', by simp only [rngD, List.getElem?_map, List.getElem?_range hi', Option.map_some], .refl s, .int _⟩
end

/-! ### the walks by their expressions -/
def lkA (t : TE) : TE := fun σ H Q => t σ H fun x H1 => (∃ d kvs, x = .ref d ∧ ((H1 d = some (.dK kvs) ∧ ∀ od, Q x (upd H1 d (.frz od (.dK kvs)))) ∨ ∃ od, H1 d = some (.frz od (.dK kvs)) ∧ Q x H1)) ∨ ((∀ d, x = .ref d → (∃ vs, Rd H1 d (.lst vs)) ∨ ∃ vs, Rd H1 d (.tup vs)) ∧ Q x H1)
theorem pe_lkA {X : Cx} {e : Expr} {t : TE} (h : PE X e t) : PE X e (lkA t) := ⟨fun pins s σ H Q I q => by
  refine thn (h.run pins s σ H _ I q) fun u s1 ⟨x, H1, I1, r1, q1⟩ => ?_
  rcases q1 with ⟨d, kvs, ex, q1⟩ | ⟨_, q1⟩
  · subst ex
    rcases q1 with ⟨hd, q1⟩ | ⟨od, hd, q1⟩
    · obtain ⟨od, I2⟩ := I1.lock hd trivial
      exact ⟨_, _, I2, r1, q1 od⟩
    · exact ⟨_, _, I1, r1, q1⟩
  · exact ⟨_, _, I1, r1, q1⟩⟩
def iAny (K : PySem.W.Frag) (te : TE) : TI := fun σ H R => te σ H fun x H1 => (∃ a xs, x = .ref a ∧ SqL K H1 a xs ∧ R (Itl K a) H1) ∨ (∃ a xs, x = .ref a ∧ SqT K H1 a xs ∧ R (Itt K a) H1) ∨ (∃ z, x = .str z ∧ R (Its z) H1) ∨ ∃ d od kvs, x = .ref d ∧ H1 d = some (.frz od (.dK kvs)) ∧ R (Itk d od kvs) H1
theorem pi_any {X : Cx} {tg e : Expr} {te : TE} (he : PE X e te) : PI X tg e (iAny X.K te) := by
  refine ⟨fun pins s σ H R I h => ?_⟩
  refine thn (he.run pins s σ H _ I h) fun u s1 ⟨x, H1, I1, r1, q1⟩ => ?_
  rcases q1 with ⟨a, xs, e, hq, q⟩ | ⟨a, xs, e, hq, q⟩ | ⟨z, e, q⟩ | ⟨d, od, kvs, e, hd, q⟩
  · subst e
    cases r1
    obtain ⟨its, rv, p, hz⟩ := I1.list hq
    refine wpAny_pyIter_list p.isList ?_
    refine ⟨s1.heap.objs.size, [s1.heap.objs.size], _, _, H1, rfl, I1.kept (t' := s1.toks) fun b o e => Heap.get?_push_of_some _ e, turn_list a _, ⟨_, Heap.get?_push_size _ rfl, rfl, rfl⟩, fun b hb => ?_, q⟩
    have e : b = s1.heap.objs.size := by simpa using hb
    subst e
    exact I1.fpOk (Nat.le_refl _) (I1.hok.fresh (Nat.le_refl _))
  · subst e
    cases r1
    obtain ⟨its, rv, p, hz⟩ := I1.tuple hq
    refine wpAny_pyIter_tuple (show s1.heap.IsTuple a its.toArray from p) ?_
    refine ⟨s1.heap.objs.size, [s1.heap.objs.size], _, _, H1, rfl, I1.kept (t' := s1.toks) fun b o e => Heap.get?_push_of_some _ e, turn_tuple a _, ⟨_, Heap.get?_push_size _ rfl, rfl, rfl⟩, fun b hb => ?_, q⟩
    have e : b = s1.heap.objs.size := by simpa using hb
    subst e
    exact I1.fpOk (Nat.le_refl _) (I1.hok.fresh (Nat.le_refl _))
  · subst e
    obtain ⟨t, rfl⟩ := r1
    cases ha : z.cps.all (· < 128)
    · exact wpAny_pyIter_wide ha (pi_one (tk := s1.toks) I1 _ (turn_str _ z t "str_iterator" (.inr rfl)) ⟨_, Heap.get?_push_size _ rfl, rfl, rfl⟩ q)
    · exact wpAny_pyIter_ascii ha (pi_one (tk := s1.toks) I1 _ (turn_str _ z t "str_ascii_iterator" (.inl rfl)) ⟨_, Heap.get?_push_size _ rfl, rfl, rfl⟩ q)
  · subst e
    obtain rfl : u = Value.ref d := r1
    obtain ⟨hs, hgd, hx, es, ep, vs, hdt, hsz, kv, hm⟩ := I1.frzK hd
    refine iter_keys hs hgd hx hdt (pi_one (tk := s1.toks) I1 _ (turn_keys _ hdt) ⟨_, Heap.get?_push_size _ rfl, rfl, ?_⟩ q)
    rw [hsz] <;> rfl
def fiOf (g : D → Option (List D)) (f : Fe) : Fi := fun δ => (f δ).bind fun p => (esc p.1 p.2).bind fun q => (g q.1).map fun ds => (ds, q.2)
section
variable {X : Cx} {tg e : Expr} {f : Fe} {pos apos cpos p tpos : Pos} {elts : List Expr} {kk : Nat}
/-- a list, a tuple, a text, the keys of a dict -/
theorem ii_any (h : Ev X e f) : Ii X tg e (fiOf seqOf f) := PI.imp (pi_any (pe_lkA h)) fun σ H R ⟨F, G, δ, ds, δ', S, e, k⟩ => by
  obtain ⟨⟨r, δ1⟩, e1, e⟩ := Option.bind_eq_some_iff.mp e
  obtain ⟨⟨d, δ2⟩, e2, e⟩ := Option.bind_eq_some_iff.mp e
  obtain ⟨ds', e3, e4⟩ := Option.map_eq_some_iff.mp e
  cases e4
  refine ⟨F, G, δ, r, δ1, S, e1, fun v H1 G1 S1 m1 r1 => ?_⟩
  obtain ⟨G2, S2, m2, r2⟩ := S1.esc r1 e2
  have m := m1.trans m2
  dsimp only at e3
  unfold seqOf at e3
  split at e3
  · cases e3
    cases r2 with
    | lst hq rl =>
      rename_i a vs
      have hq' := S2.sub.le.rd _ _ hq
      exact .inr ⟨fun d e => (by cases e; exact .inl ⟨_, hq'⟩), .inl ⟨a, vs, rfl, .inl hq', k _ H1 G2 S2 m (yl_list hq rl)⟩⟩
  · cases e3
    cases r2 with
    | tup hq rl =>
      rename_i a vs
      have hq' := S2.sub _ _ hq
      exact .inr ⟨fun d e => (by cases e; exact .inr ⟨_, .inl hq'⟩), .inr (.inl ⟨a, vs, rfl, .inl (.inl hq'), k _ H1 G2 S2 m (yl_tup hq rl)⟩)⟩
  · cases e3
    cases r2
    exact .inr ⟨fun d e => (nomatch e), .inr (.inr (.inl ⟨_, rfl, k _ H1 G2 S2 m yl_str⟩))⟩
  · cases e3
    cases r2 with
    | dK hd rd =>
      rename_i a kvs'
      refine .inl ⟨a, kvs', rfl, ?_⟩
      rcases hd with hd | ⟨od, hd⟩
      · refine .inl ⟨S2.sub _ _ hd, fun od => .inr (.inr (.inr ?_))⟩
        obtain ⟨S3, m3⟩ := S2.lock (od := od) hd trivial ⟨fun _ _ _ z => (nomatch z), fun _ z => (nomatch z)⟩
        exact ⟨a, od, kvs', rfl, upd_same, k _ _ _ S3 (m.trans m3) (yl_keys upd_same (rd.mono m3.le))⟩
      · exact .inr ⟨od, S2.sub _ _ hd, .inr (.inr (.inr ⟨a, od, kvs', rfl, S2.sub _ _ hd, k _ _ _ S2 m (yl_keys hd rd)⟩))⟩
  · cases e3
def valsOf : D → Option (List D)
  | .dct false kvs => some (kvs.map (·.2))
  | _ => none
def itemsOf : D → Option (List D)
  | .dct false kvs => some (kvs.map pairD)
  | _ => none
def keysOf : D → Option (List D)
  | .dct false kvs => some (kvs.map (·.1))
  | _ => none
theorem ii_values (h : Ev X e f) (hbase : attributeBase e "values" X.env (eval e X.env) = eval e X.env := by rfl) (hline : (apos.endLine == cpos.line) = true := by rfl) : Ii X tg (.Call (.Attribute e "values" apos) [] [] cpos) (fiOf valsOf f) := PI.imp (pi_values (pe_lk h) hbase hline) fun σ H R ⟨F, G, δ, ds, δ', S, e, k⟩ => by
  obtain ⟨⟨r, δ1⟩, e1, e⟩ := Option.bind_eq_some_iff.mp e
  obtain ⟨⟨d, δ2⟩, e2, e⟩ := Option.bind_eq_some_iff.mp e
  obtain ⟨ds', e3, e4⟩ := Option.map_eq_some_iff.mp e
  cases e4
  dsimp only at e3
  unfold valsOf at e3
  split at e3
  · cases e3
    exact lk_of S e1 e2 fun d od kvs' H' G' S' m' hd rd => ⟨d, od, kvs', rfl, S'.sub _ _ hd, k _ H' G' S' m' (yl_values hd rd)⟩
  · cases e3
theorem ii_items (h : Ev X e f) (hbase : attributeBase e "items" X.env (eval e X.env) = eval e X.env := by rfl) (hline : (apos.endLine == cpos.line) = true := by rfl) : Ii X (.Tuple elts kk tpos) (.Call (.Attribute e "items" apos) [] [] cpos) (fiOf itemsOf f) := PI.imp (pi_items (pe_lk h) hbase hline) fun σ H R ⟨F, G, δ, ds, δ', S, e, k⟩ => by
  obtain ⟨⟨r, δ1⟩, e1, e⟩ := Option.bind_eq_some_iff.mp e
  obtain ⟨⟨d, δ2⟩, e2, e⟩ := Option.bind_eq_some_iff.mp e
  obtain ⟨ds', e3, e4⟩ := Option.map_eq_some_iff.mp e
  cases e4
  dsimp only at e3
  unfold itemsOf at e3
  split at e3
  · cases e3
    exact lk_of S e1 e2 fun d od kvs' H' G' S' m' hd rd => ⟨d, od, kvs', rfl, S'.sub _ _ hd, k _ H' G' S' m' (yl_items hd rd)⟩
  · cases e3
theorem ii_keys (h : Ev X e f) (hbase : attributeBase e "keys" X.env (eval e X.env) = eval e X.env := by rfl) (hline : (apos.endLine == cpos.line) = true := by rfl) : Ii X tg (.Call (.Attribute e "keys" apos) [] [] cpos) (fiOf keysOf f) := PI.imp (pi_keysM (pe_lk h) hbase hline) fun σ H R ⟨F, G, δ, ds, δ', S, e, k⟩ => by
  obtain ⟨⟨r, δ1⟩, e1, e⟩ := Option.bind_eq_some_iff.mp e
  obtain ⟨⟨d, δ2⟩, e2, e⟩ := Option.bind_eq_some_iff.mp e
  obtain ⟨ds', e3, e4⟩ := Option.map_eq_some_iff.mp e
  cases e4
  dsimp only at e3
  unfold keysOf at e3
  split at e3
  · cases e3
    exact lk_of S e1 e2 fun d od kvs' H' G' S' m' hd rd => ⟨d, od, kvs', rfl, S'.sub _ _ hd, k _ H' G' S' m' (yl_keys hd rd)⟩
  · cases e3
/-! by a builtin's arguments -/
def fiA (g : List D → Option (List D)) (f : Fa) : Fi := fun δ => (f δ).bind fun p => (g p.1).map fun ds => (ds, p.2)
theorem fiA_imp {K : PySem.W.Frag} {g : List D → Option (List D)} {fa : Fa} {σ : St} {H : Hp} {R : It → Hp → Prop} {Q : List V → Hp → Prop} (h : tIt K (fiA g fa) σ H R)
    (k : ∀ vs ds ds' H1 G1, Sub G1 H1 → RepL K G1 vs ds → g ds = some ds' → (∀ J, Yl K J G1 ds' → R J H1) → Q vs H1) : tAr K fa σ H Q := by
  obtain ⟨F, G, δ, ds, δ', S, e, k'⟩ := h
  obtain ⟨⟨as, δ1⟩, e1, e⟩ := Option.bind_eq_some_iff.mp e
  obtain ⟨ds', e3, e4⟩ := Option.map_eq_some_iff.mp e
  cases e4
  exact ⟨F, G, δ, as, _, S, e1, fun vs H1 G1 S1 m1 r1 => k vs as ds H1 G1 S1.sub r1 e3 fun J y => k' J H1 G1 S1 m1 y⟩
def b62 (i : Int) : Bool := decide (-(2 ^ 62) ≤ i ∧ i < 2 ^ 62)
def gRng1 : List D → Option (List D)
  | [.int j] => if b62 j = true then some (rngD 0 1 j.toNat) else none
  | _ => none
def gRng2 : List D → Option (List D)
  | [.int i, .int j] => if b62 i = true ∧ b62 j = true then some (rngD i 1 (j - i).toNat) else none
  | _ => none
/-- range(i, j, -1) -/
def gRng3 : List D → Option (List D)
  | [.int i, .int j, .int (-1)] => if b62 i = true ∧ b62 j = true then some (rngD i (-1) (i - j).toNat) else none
  | _ => none
def gEnum : List D → Option (List D)
  | [.lst ds] => some (enumD 0 ds)
  | _ => none
def gZip : List D → Option (List D)
  | [.lst ds, .lst es] => some (zipD ds es)
  | _ => none
def gRev : List D → Option (List D)
  | [.lst ds] => some ds.reverse
  | _ => none
variable {a b c : Expr} {fa : Fa}
theorem ii_range1 (hg : Gl X "range") (hm : X.mg "range" = none) (ha : Ar X [a] fa) (hs : starEach [a] X.env = [(false, eval a X.env)] := by rfl) : Ii X tg (.Call (.Name "range" p) [a] [] pos) (fiA gRng1 fa) := PI.imp (pi_range1 hg hm ha hs) fun σ H R h => by
  refine fiA_imp h fun vs ds ds' H1 G1 sb r e k => ?_
  unfold gRng1 at e
  split at e
  · split at e
    · rename_i j hb
      cases e
      cases r with
      | cons r rr =>
        cases rr
        cases r
        simp only [b62, decide_eq_true_eq] at hb
        exact ⟨j, rfl, hb.1, hb.2, k _ yl_range⟩
    · cases e
  · cases e
theorem ii_range2 (hg : Gl X "range") (hm : X.mg "range" = none) (ha : Ar X [a, b] fa) (hs : starEach [a, b] X.env = [(false, eval a X.env), (false, eval b X.env)] := by rfl) (hs2 : starEach [b] X.env = [(false, eval b X.env)] := by rfl) : Ii X tg (.Call (.Name "range" p) [a, b] [] pos) (fiA gRng2 fa) := PI.imp (pi_range2 hg hm ha hs hs2) fun σ H R h => by
  refine fiA_imp h fun vs ds ds' H1 G1 sb r e k => ?_
  unfold gRng2 at e
  split at e
  · split at e
    · rename_i i j hb
      cases e
      cases r with
      | cons r rr =>
        cases rr with
        | cons r2 rr =>
          cases rr
          cases r
          cases r2
          simp only [b62, decide_eq_true_eq] at hb
          exact ⟨i, j, rfl, ⟨hb.1.1, hb.1.2, hb.2.1, hb.2.2⟩, k _ yl_range⟩
    · cases e
  · cases e
theorem ii_range3 (hg : Gl X "range") (hm : X.mg "range" = none) (ha : Ar X [a, b, c] fa) (hs : starEach [a, b, c] X.env = (false, eval a X.env) :: starEach [b, c] X.env := by rfl) (hpl : (backTo pos (starEach [b, c] X.env)).any (·.1) = false := by rfl) : Ii X tg (.Call (.Name "range" p) [a, b, c] [] pos) (fiA gRng3 fa) := PI.imp (pi_range3 hg hm ha hs hpl) fun σ H R h => by
  refine fiA_imp h fun vs ds ds' H1 G1 sb r e k => ?_
  unfold gRng3 at e
  split at e
  · split at e
    · rename_i i j hb
      cases e
      cases r with
      | cons r rr =>
        cases rr with
        | cons r2 rr =>
          cases rr with
          | cons r3 rr =>
            cases rr
            cases r
            cases r2
            cases r3
            simp only [b62, decide_eq_true_eq] at hb
            exact ⟨i, j, -1, _, rfl, RgC.neg hb.1.1 hb.1.2 hb.2.1 hb.2.2, k _ yl_rangeC⟩
    · cases e
  · cases e
theorem ii_enum (hg : Gl X "enumerate") (hm : X.mg "enumerate" = none) (ha : Ar X [a] fa) (hs : starEach [a] X.env = [(false, eval a X.env)] := by rfl) : Ii X (.Tuple elts kk tpos) (.Call (.Name "enumerate" p) [a] [] pos) (fiA gEnum fa) := PI.imp (pi_enum hg hm ha hs) fun σ H R h => by
  refine fiA_imp h fun vs ds ds' H1 G1 sb r e k => ?_
  unfold gEnum at e
  split at e
  · cases e
    cases r with
    | cons r rr =>
      cases rr
      cases r with
      | lst hq rl => exact ⟨_, _, rfl, .inl (sb.le.rd _ _ hq), k _ (yl_enum hq rl)⟩
  · cases e
theorem ii_zip (hg : Gl X "zip") (hm : X.mg "zip" = none) (ha : Ar X [a, b] fa) (hs : starEach [a, b] X.env = (false, eval a X.env) :: starEach [b] X.env := by rfl) (hpl : (backTo pos (starEach [b] X.env)).any (·.1) = false := by rfl) : Ii X (.Tuple elts kk tpos) (.Call (.Name "zip" p) [a, b] [] pos) (fiA gZip fa) := PI.imp (pi_zip hg hm ha hs hpl) fun σ H R h => by
  refine fiA_imp h fun vs ds ds' H1 G1 sb r e k => ?_
  unfold gZip at e
  split at e
  · cases e
    cases r with
    | cons r rr =>
      cases rr with
      | cons r2 rr =>
        cases rr
        cases r with
        | lst hq rl =>
          cases r2 with
          | lst hq2 rl2 => exact ⟨_, _, _, _, rfl, .inl (sb.le.rd _ _ hq), .inl (sb.le.rd _ _ hq2), k _ (yl_zip hq hq2 rl rl2)⟩
  · cases e
theorem ii_rev (hg : Gl X "reversed") (hm : X.mg "reversed" = none) (ha : Ar X [a] fa) (hs : starEach [a] X.env = [(false, eval a X.env)] := by rfl) : Ii X tg (.Call (.Name "reversed" p) [a] [] pos) (fiA gRev fa) := PI.imp (pi_reversed hg hm ha hs) fun σ H R h => by
  refine fiA_imp h fun vs ds ds' H1 G1 sb r e k => ?_
  unfold gRev at e
  split at e
  · cases e
    cases r with
    | cons r rr =>
      cases rr
      cases r with
      | lst hq rl => exact ⟨_, _, rfl, .inl (sb.le.rd _ _ hq), k _ (yl_rev hq rl)⟩
  · cases e
end
end L2.Tl

set_option Elab.async false
set_option linter.all false
set_option autoImplicit false
set_option maxRecDepth 100000
namespace L2.Tl
open PySem PySem.Spec PyProof.Rows

/-! ### comprehensions -/
def wipeD (vs : List Nat) (δ : Dl) : Dl := vs.foldl (fun δ v => δ.set v none) δ
/-- the slots vs of the one, the others of the other -/
def mixD : List Nat → Dl → Dl → Dl
  | [], _, δ => δ
  | v :: vs, δ1, δ => mixD vs δ1 (δ.set v (δ1[v]?.getD none))
theorem wipeD_length (vs : List Nat) : ∀ δ : Dl, (wipeD vs δ).length = δ.length := by
  induction vs with
  | nil => intro δ; rfl
  | cons v vs ih => intro δ; exact (ih _).trans (by simp)
theorem wipeD_at (vs : List Nat) : ∀ (δ : Dl) (i : Nat) (x : SV), (wipeD vs δ)[i]? = some (some x) → δ[i]? = some (some x) ∧ i ∉ vs := by
  induction vs with
  | nil => intro δ i x h; exact ⟨h, by simp⟩
  | cons v vs ih =>
    intro δ i x h
    obtain ⟨h1, h2⟩ := ih _ i x h
    by_cases n : i = v
    · subst n
      by_cases hl : i < δ.length
      · rw [List.getElem?_set_self hl] at h1; cases h1
      · rw [List.getElem?_eq_none (by simpa using hl)] at h1; cases h1
    · rw [List.getElem?_set_ne (Ne.symm n)] at h1
      exact ⟨h1, by simp [n, h2]⟩
theorem mixD_length (δ1 : Dl) : ∀ (vs : List Nat) (δ : Dl), (mixD vs δ1 δ).length = δ.length
  | [], _ => rfl
  | v :: vs, δ => (mixD_length δ1 vs _).trans (by simp)
theorem mixD_at (δ1 : Dl) : ∀ (vs : List Nat) (δ : Dl) (i : Nat), δ1.length = δ.length → ((mixD vs δ1 δ)[i]? = δ[i]? ∧ i ∉ vs) ∨ ((mixD vs δ1 δ)[i]? = δ1[i]? ∧ i ∈ vs)
  | [], δ, i, _ => .inl ⟨rfl, by simp⟩
  | v :: vs, δ, i, hl => by
    show ((mixD vs δ1 (δ.set v (δ1[v]?.getD none)))[i]? = _ ∧ _) ∨ ((mixD vs δ1 (δ.set v (δ1[v]?.getD none)))[i]? = _ ∧ _)
    rcases mixD_at δ1 vs (δ.set v (δ1[v]?.getD none)) i (by simpa using hl) with ⟨a, b⟩ | ⟨a, b⟩
    · by_cases n : i = v
      · subst n
        refine .inr ⟨?_, by simp⟩
        rw [a]
        by_cases h : i < δ1.length
        · rw [List.getElem?_set_self (by omega), List.getElem?_eq_getElem h]; rfl
        · rw [List.getElem?_eq_none (by simp; omega), List.getElem?_eq_none (by omega)]
      · refine .inl ⟨?_, by simp [n, b]⟩
        rw [a, List.getElem?_set_ne (Ne.symm n)]
    · exact .inr ⟨a, by simp [b]⟩
def plainAt (vs : List Nat) (δ : Dl) : Bool := vs.all fun v => match δ[v]? with
  | some (some (.own _)) => false
  | some (some (.inp _)) => false
  | _ => true
section
variable {K : PySem.W.Frag} {F : Fr} {G H G1 H1 : Hp} {σ τ : St} {δ δ1 : Dl}
theorem Sim.wipe (S : Sim K F G H σ δ) (vs : List Nat) : Sim K F G H (wipe σ vs) (wipeD vs δ) := by
  have key : ∀ {i : Nat} {x : SV}, (wipeD vs δ)[i]? = some (some x) → δ[i]? = some (some x) ∧ (L2.wipe σ vs)[i]? = σ[i]? := fun {i x} h => by
    obtain ⟨a, b⟩ := wipeD_at vs δ i x h
    exact ⟨a, wipe_out b⟩
  refine ⟨by rw [wipe_length, wipeD_length]; exact S.len, fun i d h => ?_, fun i d h => ?_, fun i d h => ?_, fun i j x y d e p h1 r1 h2 r2 h3 h4 => ?_, S.sub, S.new, S.fr, S.ioh, S.g0⟩
  · obtain ⟨a, b⟩ := key h
    rw [b]; exact S.fz i d a
  · obtain ⟨a, b⟩ := key h
    rw [b]; exact S.own i d a
  · obtain ⟨a, b⟩ := key h
    rw [b]; exact S.inp i d a
  · obtain ⟨a, b⟩ := key h1
    obtain ⟨a', b'⟩ := key h2
    rw [b] at h3
    rw [b'] at h4
    exact S.inj i j x y d e p a r1 a' r2 h3 h4
/-- behind a comprehension: its own names as they were -/
theorem Sim.mix (S1 : Sim K F G1 H1 σ δ1) {vs : List Nat} (S : Sim K F G H (L2.wipe σ vs) δ) (l : Le G1 G) (hp : plainAt vs δ1 = true) : Sim K F G H σ (mixD vs δ1 δ) := by
  have hlen : δ1.length = δ.length := by rw [← S1.len, ← S.len, wipe_length]
  have key : ∀ {i : Nat} {x : SV}, (mixD vs δ1 δ)[i]? = some (some x) → (δ[i]? = some (some x) ∧ (L2.wipe σ vs)[i]? = σ[i]?) ∨ (δ1[i]? = some (some x) ∧ SV.root x = none) := fun {i x} h => by
    rcases mixD_at δ1 vs δ i hlen with ⟨a, b⟩ | ⟨a, b⟩
    · exact .inl ⟨a ▸ h, wipe_out b⟩
    · refine .inr ⟨a ▸ h, ?_⟩
      have := (List.all_eq_true.mp hp) i b
      rw [← a, h] at this
      cases x with
      | fz _ => rfl
      | own _ => cases this
      | inp _ => cases this
  have keyr : ∀ {i : Nat} {x : SV} {d : D}, (mixD vs δ1 δ)[i]? = some (some x) → SV.root x = some d → δ[i]? = some (some x) ∧ (L2.wipe σ vs)[i]? = σ[i]? := fun {i x d} h r => by
    rcases key h with z | ⟨_, z⟩
    · exact z
    · rw [r] at z; cases z
  refine ⟨by rw [mixD_length, ← S.len, wipe_length], fun i d h => ?_, fun i d h => ?_, fun i d h => ?_, fun i j x y d e p h1 r1 h2 r2 h3 h4 => ?_, S.sub, S.new, S.fr, S.ioh, S.g0⟩
  · rcases key h with ⟨a, b⟩ | ⟨a, _⟩
    · rw [← b]; exact S.fz i d a
    · obtain ⟨v, x, y⟩ := S1.fz i d a
      exact ⟨v, x, y.mono l⟩
  · obtain ⟨a, b⟩ := keyr h rfl
    rw [← b]; exact S.own i d a
  · obtain ⟨a, b⟩ := keyr h rfl
    rw [← b]; exact S.inp i d a
  · obtain ⟨a, b⟩ := keyr h1 r1
    obtain ⟨a', b'⟩ := keyr h2 r2
    rw [← b] at h3
    rw [← b'] at h4
    exact S.inj i j x y d e p a r1 a' r2 h3 h4
/-- an object that no slot holds is changed -/
theorem Sim.away (S : Sim K F G H σ δ) {p : Addr} {o : HO} (hg : G p = none) (ap : Apart σ δ p) (h0 : F.H0 p = none) : Sim K F G (upd H p o) σ δ := by
  refine ⟨S.len, S.fz, fun i d h => ?_, fun i d h => ?_, S.inj, fun a u h => ?_, S.new, fun a u h hi => ?_, fun i a h => ?_, S.g0⟩
  · obtain ⟨q, a, b, c, e⟩ := S.own i d h
    exact ⟨q, a, b, c.mono (.refl _) (upd_ne fun z => ap i _ _ h rfl (z ▸ a)), e⟩
  · obtain ⟨q, a, b, c, e⟩ := S.inp i d h
    exact ⟨q, a, b, c.mono (.refl _) (upd_ne fun z => ap i _ _ h rfl (z ▸ a)), e⟩
  · rw [upd_ne (fun z => by rw [z, hg] at h; cases h)]
    exact S.sub a u h
  · rw [upd_ne (fun z => by rw [z, h0] at h; cases h)]
    exact S.fr a u h hi
  · obtain ⟨⟨u, hu⟩, g, z⟩ := S.ioh i a h
    exact ⟨⟨u, (upd_ne (fun y => z (by rw [y]; exact h0))).trans hu⟩, g, z⟩
theorem apart_wipe (vs : List Nat) {p : Addr} (h : Apart σ δ p) : Apart (wipe σ vs) (wipeD vs δ) p := fun i x d hx r hs => by
  obtain ⟨a, b⟩ := wipeD_at vs δ i x hx
  rw [wipe_out b] at hs
  exact h i x d a r hs
theorem apart_mix {vs : List Nat} {p : Addr} (hl : δ1.length = δ.length) (h : Apart (wipe σ vs) δ p) (hp : plainAt vs δ1 = true) : Apart σ (mixD vs δ1 δ) p := fun i x d hx r hs => by
  rcases mixD_at δ1 vs δ i hl with ⟨a, b⟩ | ⟨a, b⟩
  · rw [a] at hx
    exact h i x d hx r ((wipe_out b).trans hs)
  · have := (List.all_eq_true.mp hp) i b
    rw [← a, hx] at this
    cases x with
    | fz _ => cases r
    | own _ => cases this
    | inp _ => cases this
end
def PTsT (X : Cx) (ifs : List Expr) (f : Ft) : Prop := PTs X ifs (tTs X.K f)
def fYes : Ft := fun δ => some (true, δ)
theorem PTs.imp {X : Cx} {ifs : List Expr} {t t' : TT} (h : PTs X ifs t) (i : ∀ σ H Q, t' σ H Q → t σ H Q) : PTs X ifs t' := ⟨fun pins s σ H Q I q => h.run pins s σ H Q I (i σ H Q q)⟩
theorem ptsT_nil {X : Cx} : PTsT X [] fYes := PTs.imp pts_nil fun σ H Q ⟨F, G, δ, b, δ', S, e, k⟩ => by
  cases e
  exact k H G S .refl
theorem ptsT_one {X : Cx} {c : Expr} {f : Ft} (h : Ts X c f) : PTsT X [c] f := pts_one h
/-- the turns of [e for t in .. if c] -/
def lcM (vs : List Nat) (t : Tg) (c : Ft) (f : Fe) : List D → Dl → Option (List D × Dl)
  | [], δ => some ([], δ)
  | d :: ds, δ => (tgSet t d δ).bind fun δ1 => (c δ1).bind fun p => if p.1 = true then
      (f p.2).bind fun q => (esc q.1 q.2).bind fun r => (lcM vs t c f ds (wipeD vs r.2)).map fun s => (r.1 :: s.1, s.2)
    else lcM vs t c f ds (wipeD vs p.2)
def fLc (vs : List Nat) (fi : Fi) (t : Tg) (c : Ft) (f : Fe) : Fn := fun δ => (fi δ).bind fun p => if p.1.length ≤ sizeLine ∧ plainAt vs p.2 = true then
    (lcM vs t c f p.1 (wipeD vs p.2)).map fun q => (.new (.lst q.1), mixD vs p.2 q.2) else none
theorem lcM_length {vs : List Nat} {t : Tg} {c : Ft} {f : Fe} : ∀ {ds : List D} {δ : Dl} {r : List D × Dl}, lcM vs t c f ds δ = some r → r.1.length ≤ ds.length
  | [], _, _, h => by cases h; simp
  | d :: ds, δ, r, h => by
    obtain ⟨δ1, e1, h⟩ := Option.bind_eq_some_iff.mp h
    obtain ⟨⟨b, δ2⟩, e2, h⟩ := Option.bind_eq_some_iff.mp h
    dsimp only at h
    split at h
    · obtain ⟨q, e3, h⟩ := Option.bind_eq_some_iff.mp h
      obtain ⟨r', e4, h⟩ := Option.bind_eq_some_iff.mp h
      obtain ⟨s, e5, h⟩ := Option.map_eq_some_iff.mp h
      subst h
      have := lcM_length e5
      simp only [List.length_cons]
      omega
    · have := lcM_length h
      simp only [List.length_cons]
      omega
/-- the wiped slots are named by the target alone, or by nothing -/
theorem lc_imp {K : PySem.W.Frag} {vs : List Nat} {fi : Fi} {t : Tg} {c : Ft} {f : Fe} {σ : St} {H : Hp} {Q : VK} (ht : ∀ i ∈ t.ix, i ∈ vs) (h : tEn K (fLc vs fi t c f) σ H Q) : tLc (tIt K fi) (tgG K t) (tTs K c) (tEv K f) vs σ H Q := by
  obtain ⟨F, G, δ, o, δ', S, e, k⟩ := h
  obtain ⟨⟨ds, δ1⟩, e1, e⟩ := Option.bind_eq_some_iff.mp e
  dsimp only at e
  split at e
  · rename_i hz
    obtain ⟨hz, hpl⟩ := hz
    obtain ⟨⟨xs, δ2⟩, e2, e3⟩ := Option.map_eq_some_iff.mp e
    cases e3
    refine ⟨F, G, δ, ds, δ1, S, e1, fun J H1 G1 S1 m1 Y D hD => ?_⟩
    have hg1 : G1 D = none := none_of_sub S1.sub hD
    have apD : Apart σ δ1 D := fun i x d hx r hs => by
      obtain ⟨p, a1, _, a3⟩ := S1.root hx r
      rw [hs] at a1; cases a1
      obtain ⟨u, hu⟩ := a3.there
      rw [hD] at hu; cases hu
    have E1 : Tl.Ext G1 H1 G1 (upd H1 D (.lst [])) := .own S1.sub hD
    -- the state ahead of a turn
    let St (i : Nat) (H : Hp) : Prop := ∃ G2 δ3 acc accD rest, Sim K F G2 H (wipe σ vs) δ3 ∧ Le G1 G2 ∧ H D = some (.lst acc) ∧ RepL K G2 acc accD ∧ G2 D = none ∧ Apart (wipe σ vs) δ3 D ∧ xs = accD ++ rest ∧ accD.length ≤ i ∧
      lcM vs t c f (ds.drop i) δ3 = some (rest, δ2) ∧ (∀ a o, H1 a = some o → G1 a = none → Apart σ δ1 a → H a = some o ∧ G2 a = none ∧ Apart (wipe σ vs) δ3 a) ∧ ∀ a, H a = none → H1 a = none
    have ne : ∀ {a : Addr} {o : HO}, H1 a = some o → a ≠ D := fun {a o} h z => by rw [z, hD] at h; cases h
    have st0 : St 0 (upd H1 D (.lst [])) := ⟨G1, wipeD vs δ1, [], [], xs, (S1.ext E1).wipe vs, .refl _, upd_same, .nil, hg1, apart_wipe vs apD, rfl, Nat.le_refl _, e2,
      fun a o h g ap => ⟨(upd_ne (ne h)).trans h, g, apart_wipe vs ap⟩, fun a h => by
        by_cases z : a = D
        · subst z; exact hD
        · rw [upd_ne z] at h; exact h⟩
    refine ⟨fun i m H => m = ds.length - i ∧ i ≤ ds.length ∧ St i H, ⟨ds.length, rfl, Nat.zero_le _, st0⟩, ?_⟩
    rintro i m H2 ⟨rfl, hi, G2, δ3, acc, accD, rest, S2, l2, hacc, racc, gD, aD, exs, hla, e4, stay, dom⟩
    by_cases hlt : i < ds.length
    · refine .inr ⟨Y.goes i G2 H2 hlt l2 S2.sub, St (i + 1), fun H' q => ⟨ds.length - (i + 1), by omega, rfl, hlt, q⟩, fun x H3 y => ?_⟩
      obtain ⟨d, G3, hd, E, r⟩ := Y.ylds i G2 H2 x H3 hlt l2 S2.sub y
      rw [List.drop_eq_getElem_cons hlt] at e4
      rw [List.getElem?_eq_getElem hlt] at hd
      rw [Option.some.inj hd] at e4
      obtain ⟨δ4, e5, e6⟩ := Option.bind_eq_some_iff.mp e4
      obtain ⟨⟨b, δ5⟩, e7, e8⟩ := Option.bind_eq_some_iff.mp e6
      have S3 := S2.ext E
      have kp3 : ∀ a o, H2 a = some o → G2 a = none → Apart (wipe σ vs) δ3 a → H3 a = some o ∧ G3 a = none ∧ Apart (wipe σ vs) δ3 a := fun a o h g ap => E.mv.stay a o h g ap
      refine tg_of S3 r e5 fun σ4 S4 hw hap => ⟨(hw vs ht).trans (wipe_wipe σ vs) |>.trans rfl, ?_⟩
      have hw' : wipe σ4 vs = wipe σ vs := (hw vs ht).trans (wipe_wipe σ vs)
      refine ⟨F, G3, δ4, b, δ5, S4, e7, fun H5 G5 S5 m5 => ?_⟩
      dsimp only at e8
      split at e8
      · rename_i hb
        rw [if_pos hb]
        obtain ⟨⟨rv, δ6⟩, e9, e10⟩ := Option.bind_eq_some_iff.mp e8
        obtain ⟨⟨yd, δ7⟩, e11, e12⟩ := Option.bind_eq_some_iff.mp e10
        obtain ⟨⟨rest', δ8⟩, e13, e14⟩ := Option.map_eq_some_iff.mp e12
        cases e14
        refine ⟨F, G5, δ5, rv, δ6, S5, e9, fun y H6 G6 S6 m6 r6 => ?_⟩
        obtain ⟨G7, S7, m7, r7⟩ := S6.esc r6 e11
        have m := m5.trans (m6.trans m7)
        have kp : ∀ a o, H2 a = some o → G2 a = none → Apart (wipe σ vs) δ3 a → H6 a = some o ∧ G7 a = none ∧ Apart (wipe σ vs) (wipeD vs δ7) a := fun a o h g ap => by
          obtain ⟨h1, g1, ap1⟩ := kp3 a o h g ap
          obtain ⟨h2, g2, ap2⟩ := m.stay a o h1 g1 (hap a ap1)
          exact ⟨h2, g2, hw' ▸ apart_wipe vs ap2⟩
        obtain ⟨hD6, gD7, aD7⟩ := kp D _ hacc gD aD
        have lle : Le G1 G7 := l2.trans (E.gg.le.trans m.le)
        have l27 : Le G2 G7 := E.gg.le.trans m.le
        refine ⟨acc, hD6, ?_, G7, wipeD vs δ7, acc ++ [y], accD ++ [yd], rest', ?_, lle, upd_same, (racc.mono l27).append (.cons r7 .nil), gD7, aD7, by rw [exs]; simp, ?_, e13, fun a o h g ap => ?_, fun a ha => ?_⟩
        · rw [racc.length]
          have : ds.length ≤ sizeLine := hz
          omega
        · have S8 := S7.wipe vs
          rw [hw'] at S8
          exact S8.away gD7 aD7 (S1.fresh hD)
        · simp; exact hla
        · obtain ⟨h1, g1, ap1⟩ := stay a o h g ap
          obtain ⟨h2, g2, ap2⟩ := kp a o h1 g1 ap1
          exact ⟨(upd_ne (ne h)).trans h2, g2, ap2⟩
        · by_cases z : a = D
          · subst z; exact hD
          · rw [upd_ne z] at ha
            exact dom a (E.mv (σ := σ4) (δ := δ4).dom a (m.dom a ha))
      · rename_i hb
        rw [if_neg hb]
        have kp : ∀ a o, H2 a = some o → G2 a = none → Apart (wipe σ vs) δ3 a → H5 a = some o ∧ G5 a = none ∧ Apart (wipe σ vs) (wipeD vs δ5) a := fun a o h g ap => by
          obtain ⟨h1, g1, ap1⟩ := kp3 a o h g ap
          obtain ⟨h2, g2, ap2⟩ := m5.stay a o h1 g1 (hap a ap1)
          exact ⟨h2, g2, hw' ▸ apart_wipe vs ap2⟩
        obtain ⟨hD6, gD7, aD7⟩ := kp D _ hacc gD aD
        have l25 : Le G2 G5 := E.gg.le.trans m5.le
        refine ⟨G5, wipeD vs δ5, acc, accD, rest, ?_, l2.trans l25, hD6, racc.mono l25, gD7, aD7, exs, by omega, e8, fun a o h g ap => ?_, fun a ha => dom a (E.mv (σ := σ4) (δ := δ4).dom a (m5.dom a ha))⟩
        · have S8 := S5.wipe vs
          rw [hw'] at S8
          exact S8
        · obtain ⟨h1, g1, ap1⟩ := stay a o h g ap
          exact kp a o h1 g1 ap1
    · have ei : i = ds.length := by omega
      subst ei
      rw [List.drop_length] at e4
      cases e4
      rw [List.append_nil] at exs
      subst exs
      have lw : δ1.length = δ2.length := by rw [← S1.len, ← S2.len, wipe_length]
      refine .inl ⟨Y.stops G2 H2 l2 S2.sub, k _ H2 G2 (S1.mix S2 l2 hpl) (m1.trans ⟨l2, fun a o h g ap => ?_, dom⟩) ⟨D, rfl, gD, .lst hacc racc, m1.dom D hD, apart_mix lw aD hpl⟩⟩
      obtain ⟨h1, g1, ap1⟩ := stay a o h g ap
      exact ⟨h1, g1, apart_mix lw ap1 hpl⟩
  · cases e
/-- the turns of {k: v for t in .. if c} -/
def dcM (vs : List Nat) (t : Tg) (c : Ft) (fk fv : Fe) : List D → List (D × D) → Dl → Option (List (D × D) × Dl)
  | [], acc, δ => some (acc, δ)
  | d :: ds, acc, δ => (tgSet t d δ).bind fun δ1 => (c δ1).bind fun p => if p.1 = true then
      (fk p.2).bind fun q => (esc q.1 q.2).bind fun r => if isKey1 r.1 = true then (fv r.2).bind fun q2 => (esc q2.1 q2.2).bind fun r2 => dcM vs t c fk fv ds (kvPut acc r.1 r2.1) (wipeD vs r2.2) else none
    else dcM vs t c fk fv ds acc (wipeD vs p.2)
def fDc (vs : List Nat) (fi : Fi) (t : Tg) (c : Ft) (fk fv : Fe) : Fn := fun δ => (fi δ).bind fun p => if p.1.length ≤ sizeLine ∧ plainAt vs p.2 = true then
    (dcM vs t c fk fv p.1 [] (wipeD vs p.2)).map fun q => (.new (.dct false q.1), mixD vs p.2 q.2) else none
theorem kvPut_length (acc : List (D × D)) (k v : D) : (kvPut acc k v).length ≤ acc.length + 1 := by
  unfold kvPut
  split <;> simp
theorem dc_imp {K : PySem.W.Frag} {vs : List Nat} {fi : Fi} {t : Tg} {c : Ft} {fk fv : Fe} {σ : St} {H : Hp} {Q : VK} (ht : ∀ i ∈ t.ix, i ∈ vs) (h : tEn K (fDc vs fi t c fk fv) σ H Q) : tDc (tIt K fi) (tgG K t) (tTs K c) (tEv K fk) (tEv K fv) vs σ H Q := by
  obtain ⟨F, G, δ, o, δ', S, e, k⟩ := h
  obtain ⟨⟨ds, δ1⟩, e1, e⟩ := Option.bind_eq_some_iff.mp e
  dsimp only at e
  split at e
  · rename_i hz
    obtain ⟨hz, hpl⟩ := hz
    obtain ⟨⟨xs, δ2⟩, e2, e3⟩ := Option.map_eq_some_iff.mp e
    cases e3
    refine ⟨F, G, δ, ds, δ1, S, e1, fun J H1 G1 S1 m1 Y D hD => ?_⟩
    have hg1 : G1 D = none := none_of_sub S1.sub hD
    have apD : Apart σ δ1 D := fun i x d hx r hs => by
      obtain ⟨p, a1, _, a3⟩ := S1.root hx r
      rw [hs] at a1; cases a1
      obtain ⟨u, hu⟩ := a3.there
      rw [hD] at hu; cases hu
    have E1 : Tl.Ext G1 H1 G1 (upd H1 D (.dK [])) := .own S1.sub hD
    -- the state ahead of a turn
    let St (i : Nat) (H : Hp) : Prop := ∃ G2 δ3 acc accD, Sim K F G2 H (wipe σ vs) δ3 ∧ Le G1 G2 ∧ H D = some (.dK acc) ∧ RepD K G2 acc accD ∧ G2 D = none ∧ Apart (wipe σ vs) δ3 D ∧ accD.length ≤ i ∧
      dcM vs t c fk fv (ds.drop i) accD δ3 = some (xs, δ2) ∧ (∀ a o, H1 a = some o → G1 a = none → Apart σ δ1 a → H a = some o ∧ G2 a = none ∧ Apart (wipe σ vs) δ3 a) ∧ ∀ a, H a = none → H1 a = none
    have ne : ∀ {a : Addr} {o : HO}, H1 a = some o → a ≠ D := fun {a o} h z => by rw [z, hD] at h; cases h
    have st0 : St 0 (upd H1 D (.dK [])) := ⟨G1, wipeD vs δ1, [], [], (S1.ext E1).wipe vs, .refl _, upd_same, .nil, hg1, apart_wipe vs apD, Nat.le_refl _, e2,
      fun a o h g ap => ⟨(upd_ne (ne h)).trans h, g, apart_wipe vs ap⟩, fun a h => by
        by_cases z : a = D
        · subst z; exact hD
        · rw [upd_ne z] at h; exact h⟩
    refine ⟨fun i m H => m = ds.length - i ∧ i ≤ ds.length ∧ St i H, ⟨ds.length, rfl, Nat.zero_le _, st0⟩, ?_⟩
    rintro i m H2 ⟨rfl, hi, G2, δ3, acc, accD, S2, l2, hacc, racc, gD, aD, hla, e4, stay, dom⟩
    by_cases hlt : i < ds.length
    · refine .inr ⟨Y.goes i G2 H2 hlt l2 S2.sub, St (i + 1), fun H' q => ⟨ds.length - (i + 1), by omega, rfl, hlt, q⟩, fun x H3 y => ?_⟩
      obtain ⟨d, G3, hd, E, r⟩ := Y.ylds i G2 H2 x H3 hlt l2 S2.sub y
      rw [List.drop_eq_getElem_cons hlt] at e4
      rw [List.getElem?_eq_getElem hlt] at hd
      rw [Option.some.inj hd] at e4
      obtain ⟨δ4, e5, e6⟩ := Option.bind_eq_some_iff.mp e4
      obtain ⟨⟨b, δ5⟩, e7, e8⟩ := Option.bind_eq_some_iff.mp e6
      have S3 := S2.ext E
      have kp3 : ∀ a o, H2 a = some o → G2 a = none → Apart (wipe σ vs) δ3 a → H3 a = some o ∧ G3 a = none ∧ Apart (wipe σ vs) δ3 a := fun a o h g ap => E.mv.stay a o h g ap
      refine tg_of S3 r e5 fun σ4 S4 hw hap => ⟨(hw vs ht).trans (wipe_wipe σ vs) |>.trans rfl, ?_⟩
      have hw' : wipe σ4 vs = wipe σ vs := (hw vs ht).trans (wipe_wipe σ vs)
      refine ⟨F, G3, δ4, b, δ5, S4, e7, fun H5 G5 S5 m5 => ?_⟩
      dsimp only at e8
      split at e8
      · rename_i hb
        rw [if_pos hb]
        obtain ⟨⟨rv, δ6⟩, e9, e10⟩ := Option.bind_eq_some_iff.mp e8
        obtain ⟨⟨kd, δ7⟩, e11, e12⟩ := Option.bind_eq_some_iff.mp e10
        dsimp only at e12
        split at e12
        case isFalse => cases e12
        rename_i hk
        obtain ⟨key, rfl⟩ := isKey1_kD hk
        obtain ⟨⟨rw', δ6'⟩, e9', e10'⟩ := Option.bind_eq_some_iff.mp e12
        obtain ⟨⟨yd, δ7'⟩, e11', e13⟩ := Option.bind_eq_some_iff.mp e10'
        refine ⟨F, G5, δ5, rv, δ6, S5, e9, fun y0 H6 G6 S6 m6 r6 => ?_⟩
        obtain ⟨G7, S7, m7, r7⟩ := S6.esc r6 e11
        refine ⟨F, G7, δ7, rw', δ6', S7, e9', fun y H8 G8 S8 m8 r8 => ?_⟩
        obtain ⟨G9, S9, m9, r9⟩ := S8.esc r8 e11'
        have m := m5.trans (m6.trans (m7.trans (m8.trans m9)))
        have kp : ∀ a o, H2 a = some o → G2 a = none → Apart (wipe σ vs) δ3 a → H8 a = some o ∧ G9 a = none ∧ Apart (wipe σ vs) (wipeD vs δ7') a := fun a o h g ap => by
          obtain ⟨h1, g1, ap1⟩ := kp3 a o h g ap
          obtain ⟨h2, g2, ap2⟩ := m.stay a o h1 g1 (hap a ap1)
          exact ⟨h2, g2, hw' ▸ apart_wipe vs ap2⟩
        obtain ⟨hD6, gD7, aD7⟩ := kp D _ hacc gD aD
        have lle : Le G1 G9 := l2.trans (E.gg.le.trans m.le)
        have l27 : Le G2 G9 := E.gg.le.trans m.le
        refine ⟨acc, key, RepK.kV (K := K) (G := G7) (H := G7) (.inl r7), hD6, ?_, G9, wipeD vs δ7', putK acc key y, kvPut accD (kD key) yd, ?_, lle, upd_same, (racc.mono l27).put r9, gD7, aD7, ?_, e13, fun a o h g ap => ?_, fun a ha => ?_⟩
        · rw [racc.len]
          have : ds.length ≤ sizeLine := hz
          omega
        · have S8 := S9.wipe vs
          rw [hw'] at S8
          exact S8.away gD7 aD7 (S1.fresh hD)
        · exact Nat.le_trans (kvPut_length _ _ _) (Nat.succ_le_succ hla)
        · obtain ⟨h1, g1, ap1⟩ := stay a o h g ap
          obtain ⟨h2, g2, ap2⟩ := kp a o h1 g1 ap1
          exact ⟨(upd_ne (ne h)).trans h2, g2, ap2⟩
        · by_cases z : a = D
          · subst z; exact hD
          · rw [upd_ne z] at ha
            exact dom a (E.mv (σ := σ4) (δ := δ4).dom a (m.dom a ha))
      · rename_i hb
        rw [if_neg hb]
        have kp : ∀ a o, H2 a = some o → G2 a = none → Apart (wipe σ vs) δ3 a → H5 a = some o ∧ G5 a = none ∧ Apart (wipe σ vs) (wipeD vs δ5) a := fun a o h g ap => by
          obtain ⟨h1, g1, ap1⟩ := kp3 a o h g ap
          obtain ⟨h2, g2, ap2⟩ := m5.stay a o h1 g1 (hap a ap1)
          exact ⟨h2, g2, hw' ▸ apart_wipe vs ap2⟩
        obtain ⟨hD6, gD7, aD7⟩ := kp D _ hacc gD aD
        have l25 : Le G2 G5 := E.gg.le.trans m5.le
        refine ⟨G5, wipeD vs δ5, acc, accD, ?_, l2.trans l25, hD6, racc.mono l25, gD7, aD7, by omega, e8, fun a o h g ap => ?_, fun a ha => dom a (E.mv (σ := σ4) (δ := δ4).dom a (m5.dom a ha))⟩
        · have S8 := S5.wipe vs
          rw [hw'] at S8
          exact S8
        · obtain ⟨h1, g1, ap1⟩ := stay a o h g ap
          exact kp a o h1 g1 ap1
    · have ei : i = ds.length := by omega
      subst ei
      rw [List.drop_length] at e4
      cases e4
      have lw : δ1.length = δ2.length := by rw [← S1.len, ← S2.len, wipe_length]
      refine .inl ⟨Y.stops G2 H2 l2 S2.sub, k _ H2 G2 (S1.mix S2 l2 hpl) (m1.trans ⟨l2, fun a o h g ap => ?_, dom⟩) ⟨D, rfl, gD, .dK hacc racc, m1.dom D hD, apart_mix lw aD hpl⟩⟩
      obtain ⟨h1, g1, ap1⟩ := stay a o h g ap
      exact ⟨h1, g1, apart_mix lw ap1 hpl⟩
  · cases e
section
variable {X : Cx} {elt tg iter kx : Expr} {ifs : List Expr} {scope : Scope} {own : List (Str × Nat)} {pos spos py : Pos}
theorem en_lc {fi : Fi} {t : Tg} {c : Ft} {f : Fe} (hc : X.calm = true) (hN : X.N.Nodup) (hi : Ii X tg iter fi) (ok : BlkOk X.N X.env.scope scope own)
    (hg : ∀ (s : Shared) (H : Hp) (C : Addr) (cl : List (Str × Addr)) (fp : List Addr), PG (X.blk s H scope (compEnvC scope cl C X.env) fp) tg (tgG X.K t))
    (ht : ∀ (s : Shared) (H : Hp) (C : Addr) (cl : List (Str × Addr)) (fp : List Addr), PTsT (X.blk s H scope (compEnvC scope cl C X.env) fp) ifs c)
    (he : ∀ (s : Shared) (H : Hp) (C : Addr) (cl : List (Str × Addr)) (fp : List Addr), Ev (X.blk s H scope (compEnvC scope cl C X.env) fp) elt f)
    (hix : ∀ i ∈ t.ix, i ∈ own.map (·.2) := by decide) (hs : ∀ x, foldedSetIterable iter X.env x = pure x := by intro _; rfl) :
    En X (.ListComp elt [⟨tg, iter, ifs, 0⟩] scope pos) (fLc (own.map (·.2)) fi t c f) := PE.imp (pe_lc (tt := tTs X.K c) (te := tEv X.K f) hc hN hi ok hg ht he hs) fun σ H Q h => lc_imp hix h
theorem en_dc {vx : Expr} {fi : Fi} {t : Tg} {c : Ft} {fk fv : Fe} (hc : X.calm = true) (hN : X.N.Nodup) (hi : Ii X tg iter fi) (ok : BlkOk X.N X.env.scope scope own)
    (hg : ∀ (s : Shared) (H : Hp) (C : Addr) (cl : List (Str × Addr)) (fp : List Addr), PG (X.blk s H scope (compEnvC scope cl C X.env) fp) tg (tgG X.K t))
    (ht : ∀ (s : Shared) (H : Hp) (C : Addr) (cl : List (Str × Addr)) (fp : List Addr), PTsT (X.blk s H scope (compEnvC scope cl C X.env) fp) ifs c)
    (hk : ∀ (s : Shared) (H : Hp) (C : Addr) (cl : List (Str × Addr)) (fp : List Addr), Ev (X.blk s H scope (compEnvC scope cl C X.env) fp) kx fk)
    (he : ∀ (s : Shared) (H : Hp) (C : Addr) (cl : List (Str × Addr)) (fp : List Addr), Ev (X.blk s H scope (compEnvC scope cl C X.env) fp) vx fv)
    (hix : ∀ i ∈ t.ix, i ∈ own.map (·.2) := by decide) (hs : ∀ x, foldedSetIterable iter X.env x = pure x := by intro _; rfl) :
    En X (.DictComp kx vx [⟨tg, iter, ifs, 0⟩] scope pos) (fDc (own.map (·.2)) fi t c fk fv) := PE.imp (pe_dc (tt := tTs X.K c) (tk := tEv X.K fk) (tv := tEv X.K fv) hc hN hi ok hg ht hk he hs) fun σ H Q h => dc_imp hix h
/-- y = [..] on one line, y a local: let go, or the frame's own -/
theorem sm_setLc {fi : Fi} {t : Tg} {c : Ft} {f : Fe} {i : Nat} {y : Str} (hc : X.calm = true) (hN : X.N.Nodup) (hy : X.N[i]? = some y) (hyl : X.env.scope.names.lookup y = some .local)
    (hsw : swapsWith (.ListComp elt [⟨tg, iter, ifs, 0⟩] scope pos) (some (.Name y py)) spos.line X.env = pure true) (hi : Ii X tg iter fi) (ok : BlkOk X.N X.env.scope scope own)
    (hg : ∀ (s : Shared) (H : Hp) (C : Addr) (cl : List (Str × Addr)) (fp : List Addr), PG (X.blk s H scope (compEnvC scope cl C X.env) fp) tg (tgG X.K t))
    (ht : ∀ (s : Shared) (H : Hp) (C : Addr) (cl : List (Str × Addr)) (fp : List Addr), PTsT (X.blk s H scope (compEnvC scope cl C X.env) fp) ifs c)
    (he : ∀ (s : Shared) (H : Hp) (C : Addr) (cl : List (Str × Addr)) (fp : List Addr), Ev (X.blk s H scope (compEnvC scope cl C X.env) fp) elt f)
    (hix : ∀ i ∈ t.ix, i ∈ own.map (·.2) := by decide) (hs : ∀ x, foldedSetIterable iter X.env x = pure x := by intro _; rfl) :
    Sm X (.Assign [.Name y py] (.ListComp elt [⟨tg, iter, ifs, 0⟩] scope pos) spos) (sSet i (fV (fLc (own.map (·.2)) fi t c f))) := PS.imp (ps_setLc (tt := tTs X.K c) (te := tEv X.K f) hc hN hy hyl hsw hi ok hg ht he hs) fun Z σ H ⟨F, G, δ, fl, δ', S, e, k⟩ => by
  refine lc_imp hix ?_
  obtain ⟨⟨r, δ1⟩, e1, e2⟩ := Option.bind_eq_some_iff.mp e
  obtain ⟨⟨o, δ1'⟩, e3, e4⟩ := Option.map_eq_some_iff.mp e1
  cases e4
  cases e2
  exact ⟨F, G, δ, o, _, S, e3, fun v H1 G1 S1 m r => by
    obtain ⟨G2, S2, m2, r2⟩ := S1.settle r (fun a h => S.fresh h) m
    exact k _ H1 G2 (S2.set r2 i) m2.le⟩
theorem sm_ownLc {fi : Fi} {t : Tg} {c : Ft} {f : Fe} {i : Nat} {y : Str} (hc : X.calm = true) (hN : X.N.Nodup) (hy : X.N[i]? = some y) (hyl : X.env.scope.names.lookup y = some .local)
    (hsw : swapsWith (.ListComp elt [⟨tg, iter, ifs, 0⟩] scope pos) (some (.Name y py)) spos.line X.env = pure true) (hi : Ii X tg iter fi) (ok : BlkOk X.N X.env.scope scope own)
    (hg : ∀ (s : Shared) (H : Hp) (C : Addr) (cl : List (Str × Addr)) (fp : List Addr), PG (X.blk s H scope (compEnvC scope cl C X.env) fp) tg (tgG X.K t))
    (ht : ∀ (s : Shared) (H : Hp) (C : Addr) (cl : List (Str × Addr)) (fp : List Addr), PTsT (X.blk s H scope (compEnvC scope cl C X.env) fp) ifs c)
    (he : ∀ (s : Shared) (H : Hp) (C : Addr) (cl : List (Str × Addr)) (fp : List Addr), Ev (X.blk s H scope (compEnvC scope cl C X.env) fp) elt f)
    (hix : ∀ i ∈ t.ix, i ∈ own.map (·.2) := by decide) (hs : ∀ x, foldedSetIterable iter X.env x = pure x := by intro _; rfl) :
    Sm X (.Assign [.Name y py] (.ListComp elt [⟨tg, iter, ifs, 0⟩] scope pos) spos) (sOwn i (fLc (own.map (·.2)) fi t c f)) := PS.imp (ps_setLc (tt := tTs X.K c) (te := tEv X.K f) hc hN hy hyl hsw hi ok hg ht he hs) fun Z σ H ⟨F, G, δ, fl, δ', S, e, k⟩ => by
  refine lc_imp hix ?_
  obtain ⟨⟨o, δ1⟩, e1, e2⟩ := Option.map_eq_some_iff.mp e
  cases e2
  exact ⟨F, G, δ, o, δ1, S, e1, fun v H1 G1 S1 m r => k _ H1 G1 (S1.setO r (fun a h => S.fresh h) i) m.le⟩
end
end L2.Tl

set_option Elab.async false
set_option linter.all false
set_option autoImplicit false
set_option maxRecDepth 100000
namespace L2.Tl
open PySem PySem.Spec PyProof.Rows

/-! ### arguments that are only read -/
abbrev Fq := Dl → Option (List RV × Dl)
inductive RepQ (K : PySem.W.Frag) (G : Hp) (σ : St) : List V → List RV → Prop
  | nil : RepQ K G σ [] []
  | cons {v : V} {vs : List V} {r : RV} {rs : List RV} : RepR K G σ v r → RepQ K G σ vs rs → RepQ K G σ (v :: vs) (r :: rs)
inductive RepKs (K : PySem.W.Frag) (G H : Hp) : List V → List D → Prop
  | nil : RepKs K G H [] []
  | cons {v : V} {vs : List V} {d : D} {ds : List D} : RepK K G H v d → RepKs K G H vs ds → RepKs K G H (v :: vs) (d :: ds)
theorem RepQ.mono {K : PySem.W.Frag} {G G' : Hp} {σ : St} {vs : List V} {rs : List RV} (h : RepQ K G σ vs rs) (l : Le G G') : RepQ K G' σ vs rs := by
  induction h with
  | nil => exact .nil
  | cons r _ ih => exact .cons (r.mono l) ih
def peeks : List RV → Dl → Option (List D)
  | [], _ => some []
  | r :: rs, δ => (peek r δ).bind fun d => (peeks rs δ).map (d :: ·)
theorem Sim.peeks {K : PySem.W.Frag} {F : Fr} {G H : Hp} {σ : St} {δ : Dl} (S : Sim K F G H σ δ) : ∀ {vs : List V} {rs : List RV} {ds : List D}, RepQ K G σ vs rs → Tl.peeks rs δ = some ds → RepKs K G H vs ds
  | _, _, _, .nil, e => by cases e; exact .nil
  | _, _, _, .cons r t, e => by
    obtain ⟨d, e1, e2⟩ := Option.bind_eq_some_iff.mp e
    obtain ⟨ds, e3, e4⟩ := Option.map_eq_some_iff.mp e2
    cases e4
    exact .cons (S.peek r e1) (S.peeks t e3)
def tAp (K : PySem.W.Frag) (f : Fq) : TA := fun σ H Q => ∃ F G δ rs δ', Sim K F G H σ δ ∧ f δ = some (rs, δ') ∧ ∀ vs H' G', Sim K F G' H' σ δ' → Mv σ δ G H δ' G' H' → RepQ K G' σ vs rs → Q vs H'
def Ap (X : Cx) (es : List Expr) (f : Fq) : Prop := PA X es (tAp X.K f)
def fQ0 : Fq := fun δ => some ([], δ)
def fQ (f : Fe) (g : Fq) : Fq := fun δ => (f δ).bind fun p => (g p.2).map fun q => (p.1 :: q.1, q.2)
section
variable {X : Cx} {e : Expr} {es : List Expr} {f : Fe} {fq : Fq}
theorem ap_nil : Ap X [] fQ0 := PA.imp pa_nil fun σ H Q ⟨F, G, δ, o, δ', S, e, k⟩ => by
  cases e
  exact k [] H G S .refl .nil
theorem ap_cons (h : Ev X e f) (hr : Ap X es fq) (hs : starEach (e :: es) X.env = (false, eval e X.env) :: starEach es X.env := by rfl) : Ap X (e :: es) (fQ f fq) :=
  PA.imp (pa_cons h hr hs) fun σ H Q ⟨F, G, δ, o, δ', S, e, k⟩ => by
    obtain ⟨⟨ra, δ1⟩, e1, e⟩ := Option.bind_eq_some_iff.mp e
    obtain ⟨⟨rs, δ2⟩, e2, e3⟩ := Option.map_eq_some_iff.mp e
    cases e3
    refine ⟨F, G, δ, ra, δ1, S, e1, fun v1 H1 G1 S1 b1 r1 => ⟨F, G1, δ1, rs, _, S1, e2, fun vs H2 G2 S2 b2 r2 => ?_⟩⟩
    exact k _ H2 G2 S2 (b1.trans b2) (.cons (r1.mono b2.le) r2)

/-! ### built-ins -/
abbrev Gb := List D → Option OV
def rCT (K : PySem.W.Frag) (g : Gb) : List V → Hp → VK → Prop := fun vs H Q => ∃ G ds o, Sub G H ∧ RepKs K G H vs ds ∧ g ds = some o ∧ ∀ v G' H', Ext G H G' H' → RepP K H G' H' v o → Q v H'
def fBl (g : Gb) (fq : Fq) : Fn := fun δ => (fq δ).bind fun p => (peeks p.1 p.2).bind fun ds => (g ds).map fun o => (o, p.2)
theorem bl_imp {K : PySem.W.Frag} {g : Gb} {fq : Fq} {σ : St} {H : Hp} {Q : VK} (h : tEn K (fBl g fq) σ H Q) : tCB (rCT K g) (tAp K fq) σ H Q := by
  obtain ⟨F, G, δ, o, δ', S, e, k⟩ := h
  obtain ⟨⟨rs, δ1⟩, e1, e⟩ := Option.bind_eq_some_iff.mp e
  obtain ⟨ds, e2, e⟩ := Option.bind_eq_some_iff.mp e
  obtain ⟨o', e3, e4⟩ := Option.map_eq_some_iff.mp e
  cases e4
  refine ⟨F, G, δ, rs, _, S, e1, fun vs H1 G1 S1 b1 r1 => ⟨G1, ds, o, S1.sub, S1.peeks r1 e2, e3, fun v G2 H2 E r2 => ?_⟩⟩
  exact k v H2 G2 (S1.ext E) (b1.trans E.mv) ((r2.toO S1 E).old b1.dom)
theorem en_bl {id : String} {x : Str} {g : Gb} {p pos : Pos} (hc : CallR X (.builtin id) (rCT X.K g)) (hg : Gl X x) (hm : X.mg x = none) (hv : bootBuiltins x = some (.builtin id)) (ha : Ap X (e :: es) fq) (hn : x ≠ "__name__" := by decide) (hdb : (x == ("__debug__" : Str)) = false := by decide)
    (he : starEach (e :: es) X.env = (false, eval e X.env) :: starEach es X.env := by rfl) (hpl : (backTo pos (starEach es X.env)).any (·.1) = false := by rfl) : En X (.Call (.Name x p) (e :: es) [] pos) (fBl g fq) :=
  PE.imp (pe_callB hc hg hm hv ha hn hdb he hpl) fun σ H Q h => bl_imp h
theorem en_ty {T : String} {x : Str} {g : Gb} {p pos : Pos} (hc : CallR X (.type T) (rCT X.K g)) (hg : Gl X x) (hm : X.mg x = none) (hv : bootBuiltins x = some (.type T)) (ha : Ap X (e :: es) fq) (hn : x ≠ "__name__" := by decide) (hdb : (x == ("__debug__" : Str)) = false := by decide)
    (he : starEach (e :: es) X.env = (false, eval e X.env) :: starEach es X.env := by rfl) (hpl : (backTo pos (starEach es X.env)).any (·.1) = false := by rfl) : En X (.Call (.Name x p) (e :: es) [] pos) (fBl g fq) :=
  PE.imp (pe_callTy hc hg hm hv ha hn hdb he hpl) fun σ H Q h => bl_imp h
end
section
variable {K : PySem.W.Frag} {G H : Hp} {vs : List V} {d e : D}
theorem RepKs.one (h : RepKs K G H vs [d]) : ∃ v, vs = [v] ∧ RepK K G H v d := by
  cases h with
  | cons r t => cases t; exact ⟨_, rfl, r⟩
theorem RepKs.two (h : RepKs K G H vs [d, e]) : ∃ v w, vs = [v, w] ∧ RepK K G H v d ∧ RepK K G H w e := by
  cases h with
  | cons r t =>
    cases t with
    | cons r' t => cases t; exact ⟨_, _, rfl, r, r'⟩
end
/-- a result that is plain -/
theorem ext_val {K : PySem.W.Frag} {G H : Hp} {Q : VK} {d : D} {v : V} (sb : Sub G H) (k : ∀ v G' H', Ext G H G' H' → RepP K H G' H' v (.val d) → Q v H') (r : Rep K G v d) : Q v H := k v G H (.refl sb) r
/-- a new list -/
theorem ext_new {K : PySem.W.Frag} {G H : Hp} {Q : VK} {d : D} {p : Addr} {o : HO} (sb : Sub G H) (k : ∀ v G' H', Ext G H G' H' → RepP K H G' H' v (.new d) → Q v H') (hp : H p = none) (r : Root K G (upd H p o) p d) : Q (.ref p) (upd H p o) :=
  k _ G _ (.own sb hp) ⟨p, rfl, hp, none_of_sub sb hp, r⟩
def intsOf : List D → Option (List Int)
  | [] => some []
  | .int i :: ds => (intsOf ds).map (i :: ·)
  | _ :: _ => none
def blsOf : List D → Option (List Bool)
  | [] => some []
  | .bl b :: ds => (blsOf ds).map (b :: ·)
  | _ :: _ => none
theorem intsOf_some : ∀ {ds : List D} {is : List Int}, intsOf ds = some is → ds = is.map D.int
  | [], _, h => by cases h; rfl
  | .int i :: ds, is, h => by
    obtain ⟨js, h1, h2⟩ := Option.map_eq_some_iff.mp h
    subst h2
    rw [intsOf_some h1]; rfl
  | .bl _ :: _, _, h => nomatch h
  | .non :: _, _, h => nomatch h
  | .str _ :: _, _, h => nomatch h
  | .lst _ :: _, _, h => nomatch h
  | .tup _ :: _, _, h => nomatch h
  | .dct _ _ :: _, _, h => nomatch h
  | .obj _ _ :: _, _, h => nomatch h
  | .kl _ :: _, _, h => nomatch h
theorem blsOf_some : ∀ {ds : List D} {is : List Bool}, blsOf ds = some is → ds = is.map D.bl
  | [], _, h => by cases h; rfl
  | .bl i :: ds, is, h => by
    obtain ⟨js, h1, h2⟩ := Option.map_eq_some_iff.mp h
    subst h2
    rw [blsOf_some h1]; rfl
  | .int _ :: _, _, h => nomatch h
  | .non :: _, _, h => nomatch h
  | .str _ :: _, _, h => nomatch h
  | .lst _ :: _, _, h => nomatch h
  | .tup _ :: _, _, h => nomatch h
  | .dct _ _ :: _, _, h => nomatch h
  | .obj _ _ :: _, _, h => nomatch h
  | .kl _ :: _, _, h => nomatch h
@[simp] theorem intsOf_map (is : List Int) : intsOf (is.map D.int) = some is := by
  induction is with
  | nil => rfl
  | cons i is ih => simp [intsOf, ih]
@[simp] theorem blsOf_map (is : List Bool) : blsOf (is.map D.bl) = some is := by
  induction is with
  | nil => rfl
  | cons i is ih => simp [blsOf, ih]
theorem RepL.bls {K : PySem.W.Frag} {G : Hp} : ∀ {vs : List V} {is : List Bool}, RepL K G vs (is.map D.bl) → vs = is.map V.bl
  | _, [], .nil => rfl
  | _, i :: is, .cons h r => by
    cases h
    simp only [List.map_cons]
    rw [RepL.bls r]
theorem RepK.ints {K : PySem.W.Frag} {G H : Hp} {v : V} {ds : List D} {is : List Int} (h : RepK K G H v (.lst ds)) (s : Sub G H) (e : intsOf ds = some is) : ∃ a, v = .ref a ∧ SqL K H a (is.map V.int) := by
  obtain ⟨a, vs, rfl, h1, h2⟩ := h.lst s
  rw [intsOf_some e] at h2
  rw [h2.ints] at h1
  exact ⟨a, rfl, .inl h1⟩
theorem RepK.bls {K : PySem.W.Frag} {G H : Hp} {v : V} {ds : List D} {is : List Bool} (h : RepK K G H v (.lst ds)) (s : Sub G H) (e : blsOf ds = some is) : ∃ a, v = .ref a ∧ SqL K H a (is.map V.bl) := by
  obtain ⟨a, vs, rfl, h1, h2⟩ := h.lst s
  rw [blsOf_some e] at h2
  rw [h2.bls] at h1
  exact ⟨a, rfl, .inl h1⟩
section
variable {X : Cx}
def gLen : Gb
  | [.lst ds] => some (.val (.int ds.length))
  | [.tup ds] => some (.val (.int ds.length))
  | [.str z] => if z.length ≤ sizeLine then some (.val (.int z.length)) else none
  | [.dct false kvs] => some (.val (.int kvs.length))
  | [.kl ns] => some (.val (.int ns.length))
  | _ => none
theorem bl_len : CallR X (.builtin "len") (rCT X.K gLen) := by
  intro pins s σ H xs us Q I r ⟨G, ds, o, sb, rk, e, k⟩
  unfold gLen at e
  split at e
  · cases e
    obtain ⟨v, rfl, rv⟩ := rk.one
    obtain ⟨a, vs, rfl, h1, h2⟩ := rv.lst sb
    exact call_len pins s σ H _ us Q I r ⟨_, _, rfl, .inl ⟨vs, .inl h1, rfl⟩, ext_val sb k (by rw [h2.length]; exact .int _)⟩
  · cases e
    obtain ⟨v, rfl, rv⟩ := rk.one
    obtain ⟨a, vs, rfl, h1, h2⟩ := rv.tup sb
    exact call_len pins s σ H _ us Q I r ⟨_, _, rfl, .inr ⟨vs, .inl (.inl h1), rfl⟩, ext_val sb k (by rw [h2.length]; exact .int _)⟩
  · split at e
    · rename_i hz
      cases e
      obtain ⟨v, rfl, rv⟩ := rk.one
      have := rv.str
      subst this
      exact call_len pins s σ H _ us Q I r ⟨_, _, rfl, ⟨hz, rfl⟩, ext_val sb k (.int _)⟩
    · cases e
  · cases e
    obtain ⟨v, rfl, rv⟩ := rk.one
    obtain ⟨a, kvs, rfl, h1, h2⟩ := rv.dK sb
    obtain ⟨u, rfl, ru⟩ := vals1 r
    cases ru
    exact d_len I h1 fun t s' I' => ⟨.int kvs.length, H, I', ⟨t, rfl⟩, ext_val sb k (by rw [h2.len]; exact .int _)⟩
  · cases e
    obtain ⟨v, rfl, rv⟩ := rk.one
    obtain ⟨a, rfl, h1⟩ := rv.kl sb
    exact call_len pins s σ H _ us Q I r ⟨_, _, rfl, .inl ⟨_, h1, rfl⟩, ext_val sb k (by rw [List.length_map]; exact .int _)⟩
  · cases e
def gAbs : Gb
  | [.int i] => some (.val (.int (if i < 0 then -i else i)))
  | _ => none
theorem bl_abs : CallR X (.builtin "abs") (rCT X.K gAbs) := by
  intro pins s σ H xs us Q I r ⟨G, ds, o, sb, rk, e, k⟩
  unfold gAbs at e
  split at e
  · cases e
    obtain ⟨v, rfl, rv⟩ := rk.one
    have := rv.int
    subst this
    exact call_abs pins s σ H _ us Q I r ⟨_, rfl, ext_val sb k (.int _)⟩
  · cases e
def gInt : Gb
  | [.int i] => some (.val (.int i))
  | [.bl b] => some (.val (.int (if b then 1 else 0)))
  | _ => none
theorem bl_int : CallR X (.type "int") (rCT X.K gInt) := by
  intro pins s σ H xs us Q I r ⟨G, ds, o, sb, rk, e, k⟩
  unfold gInt at e
  split at e
  · cases e
    obtain ⟨v, rfl, rv⟩ := rk.one
    have := rv.int
    subst this
    exact call_int1 pins s σ H _ us Q I r (.inl ⟨_, rfl, ext_val sb k (.int _)⟩)
  · cases e
    obtain ⟨v, rfl, rv⟩ := rk.one
    have := rv.bl
    subst this
    exact call_int1 pins s σ H _ us Q I r (.inr ⟨_, rfl, ext_val sb k (.int _)⟩)
  · cases e
def gSum : Gb
  | [.lst ds] => (intsOf ds).map fun is => .val (.int is.sum)
  | _ => none
theorem bl_sum (hc : X.calm = true) : CallR X (.builtin "sum") (rCT X.K gSum) := by
  intro pins s σ H xs us Q I r ⟨G, ds, o, sb, rk, e, k⟩
  unfold gSum at e
  split at e
  · obtain ⟨is, e1, e2⟩ := Option.map_eq_some_iff.mp e
    cases e2
    obtain ⟨v, rfl, rv⟩ := rk.one
    obtain ⟨a, rfl, h⟩ := rv.ints sb e1
    exact cr_sum hc pins s σ H _ us Q I r ⟨a, is, rfl, h, ext_val sb k (.int _)⟩
  · cases e
def gMax : Gb
  | [.lst ds] => (intsOf ds).bind fun is => is.max?.map fun m => .val (.int m)
  | [.int i, .int j] => some (.val (.int (max i j)))
  | _ => none
def gMin : Gb
  | [.lst ds] => (intsOf ds).bind fun is => is.min?.map fun m => .val (.int m)
  | [.int i, .int j] => some (.val (.int (min i j)))
  | _ => none
theorem bl_max (hc : X.calm = true) : CallR X (.builtin "max") (rCT X.K gMax) := by
  intro pins s σ H xs us Q I r ⟨G, ds, o, sb, rk, e, k⟩
  unfold gMax at e
  split at e
  · obtain ⟨is, e1, e⟩ := Option.bind_eq_some_iff.mp e
    obtain ⟨m, e2, e3⟩ := Option.map_eq_some_iff.mp e
    cases e3
    obtain ⟨v, rfl, rv⟩ := rk.one
    obtain ⟨a, rfl, h⟩ := rv.ints sb e1
    obtain ⟨h1, h2⟩ := List.max?_eq_some_iff.mp e2
    refine cr_max hc pins s σ H _ us Q I r ⟨a, is, rfl, h, List.length_pos_of_mem h1, fun m' h3 h4 => ?_⟩
    have : m' = m := Int.le_antisymm (h2 m' h3) (h4 m h1)
    subst this
    exact ext_val sb k (.int _)
  · cases e
    rename_i i j
    obtain ⟨v, w, rfl, rv, rw'⟩ := rk.two
    have := rv.int
    have := rw'.int
    subst v w
    refine call_max2 hc pins s σ H _ us Q I r ⟨_, _, rfl, ext_val sb k ?_⟩
    have : (if j > i then j else i) = max i j := by rw [Int.max_def]; split <;> split <;> omega
    rw [this]
    exact .int _
  · cases e
theorem bl_min (hc : X.calm = true) : CallR X (.builtin "min") (rCT X.K gMin) := by
  intro pins s σ H xs us Q I r ⟨G, ds, o, sb, rk, e, k⟩
  unfold gMin at e
  split at e
  · obtain ⟨is, e1, e⟩ := Option.bind_eq_some_iff.mp e
    obtain ⟨m, e2, e3⟩ := Option.map_eq_some_iff.mp e
    cases e3
    obtain ⟨v, rfl, rv⟩ := rk.one
    obtain ⟨a, rfl, h⟩ := rv.ints sb e1
    obtain ⟨h1, h2⟩ := List.min?_eq_some_iff.mp e2
    refine cr_min hc pins s σ H _ us Q I r ⟨a, is, rfl, h, List.length_pos_of_mem h1, fun m' h3 h4 => ?_⟩
    have : m' = m := Int.le_antisymm (h4 m h1) (h2 m' h3)
    subst this
    exact ext_val sb k (.int _)
  · cases e
    rename_i i j
    obtain ⟨v, w, rfl, rv, rw'⟩ := rk.two
    have := rv.int
    have := rw'.int
    subst v w
    refine call_min2 hc pins s σ H _ us Q I r ⟨_, _, rfl, ext_val sb k ?_⟩
    have : (if j < i then j else i) = min i j := by rw [Int.min_def]; split <;> split <;> omega
    rw [this]
    exact .int _
  · cases e
def gAll : Gb
  | [.lst ds] => (blsOf ds).map fun bs => .val (.bl (bs.all id))
  | _ => none
def gAny : Gb
  | [.lst ds] => (blsOf ds).map fun bs => .val (.bl (bs.any id))
  | _ => none
theorem bl_all (hc : X.calm = true) : CallR X (.builtin "all") (rCT X.K gAll) := by
  intro pins s σ H xs us Q I r ⟨G, ds, o, sb, rk, e, k⟩
  unfold gAll at e
  split at e
  · obtain ⟨is, e1, e2⟩ := Option.map_eq_some_iff.mp e
    cases e2
    obtain ⟨v, rfl, rv⟩ := rk.one
    obtain ⟨a, rfl, h⟩ := rv.bls sb e1
    exact cr_all hc pins s σ H _ us Q I r ⟨a, is, rfl, h, ext_val sb k (.bl _)⟩
  · cases e
theorem bl_any (hc : X.calm = true) : CallR X (.builtin "any") (rCT X.K gAny) := by
  intro pins s σ H xs us Q I r ⟨G, ds, o, sb, rk, e, k⟩
  unfold gAny at e
  split at e
  · obtain ⟨is, e1, e2⟩ := Option.map_eq_some_iff.mp e
    cases e2
    obtain ⟨v, rfl, rv⟩ := rk.one
    obtain ⟨a, rfl, h⟩ := rv.bls sb e1
    exact cr_any hc pins s σ H _ us Q I r ⟨a, is, rfl, h, ext_val sb k (.bl _)⟩
  · cases e
def gList : Gb
  | [.lst ds] => some (.new (.lst ds))
  | [.tup ds] => some (.new (.lst ds))
  | [.dct false kvs] => some (.new (.lst (kvs.map (·.1))))
  | _ => none
theorem RepD.keysL {K : PySem.W.Frag} {G : Hp} : ∀ {vs : List (Key × V)} {ds : List (D × D)}, RepD K G vs ds → RepL K G (vs.map fun kv => L2.kV kv.1) (ds.map (·.1))
  | _, _, .nil => .nil
  | _, _, .cons _ r => .cons (.kV _) r.keysL
theorem bl_list (hc : X.calm = true) : CallR X (.type "list") (rCT X.K gList) := by
  intro pins s σ H xs us Q I r ⟨G, ds, o, sb, rk, e, k⟩
  unfold gList at e
  split at e
  · cases e
    obtain ⟨v, rfl, rv⟩ := rk.one
    obtain ⟨a, vs, rfl, h1, h2⟩ := rv.lst sb
    exact call_list_of pins s σ H _ us Q I r ⟨a, vs, rfl, .inl (.inl h1), fun l hl => ext_new sb k hl (.lst upd_same h2)⟩
  · cases e
    obtain ⟨v, rfl, rv⟩ := rk.one
    obtain ⟨a, vs, rfl, h1, h2⟩ := rv.tup sb
    exact call_list_of pins s σ H _ us Q I r ⟨a, vs, rfl, .inr (.inl (.inl h1)), fun l hl => ext_new sb k hl (.lst upd_same h2)⟩
  · cases e
    obtain ⟨v, rfl, rv⟩ := rk.one
    obtain ⟨a, kvs, rfl, h1, h2⟩ := rv.dK sb
    exact call_listD hc pins s σ H _ us Q I r ⟨a, kvs, rfl, h1, fun p hp => ext_new sb k hp (.lst upd_same h2.keysL)⟩
  · cases e
/-- dict(d), dict(pairs) -/
def pairsOf : List D → Option (List (D × D))
  | [] => some []
  | .tup [a, b] :: ds => if isKey1 a = true then (pairsOf ds).map ((a, b) :: ·) else none
  | _ :: _ => none
def kvMerge (acc more : List (D × D)) : List (D × D) := more.foldl (fun acc kv => kvPut acc kv.1 kv.2) acc
def gDict : Gb
  | [.dct false kvs] => some (.new (.dct false kvs))
  | [.lst ds] => (pairsOf ds).map fun ps => .new (.dct false (kvMerge [] ps))
  | _ => none
theorem RepL.pairs {K : PySem.W.Frag} {G : Hp} : ∀ {ds : List D} {vs : List V} {ps : List (D × D)}, RepL K G vs ds → pairsOf ds = some ps →
    ∃ (as : List Addr) (kvs : List (Key × V)), vs = as.map V.ref ∧ Paired (fun p kv => G p = some (.tup [kV kv.1, kv.2])) as kvs ∧ RepD K G kvs ps
  | [], _, _, .nil, e => by cases e; exact ⟨[], [], rfl, .nil, .nil⟩
  | d :: ds, _, ps, .cons h r, e => by
    unfold pairsOf at e
    split at e
    · rename_i q; cases q
    · rename_i a b ds' q
      cases q
      split at e
      · rename_i hk
        obtain ⟨ps', e1, e2⟩ := Option.map_eq_some_iff.mp e
        subst e2
        obtain ⟨as, kvs, rfl, h1, h2⟩ := RepL.pairs r e1
        obtain ⟨key, rfl⟩ := isKey1_kD hk
        cases h with
        | tup hq rl =>
          rename_i p ws
          cases rl with
          | cons ra rl =>
            cases rl with
            | cons rb rl =>
              cases rl
              have : _ = kV key := RepK.kV (K := K) (G := G) (H := G) (.inl ra)
              subst this
              exact ⟨p :: as, (key, _) :: kvs, rfl, .cons hq h1, .cons rb h2⟩
      · cases e
    · cases e
theorem RepD.merge {K : PySem.W.Frag} {G : Hp} : ∀ {vs : List (Key × V)} {ds : List (D × D)} {ws : List (Key × V)} {es : List (D × D)}, RepD K G vs ds → RepD K G ws es → RepD K G (mergeK vs ws) (kvMerge ds es)
  | _, _, _, _, a, .nil => a
  | vs, ds, _, _, a, .cons (k := k) (v := v) (vs := ws) (d := d) (ds := es) h r => RepD.merge (vs := putK vs k v) (ds := kvPut ds (kD k) d) (a.put h) r
theorem bl_dict (hc : X.calm = true) : CallR X (.type "dict") (rCT X.K gDict) := by
  intro pins s σ H xs us Q I r ⟨G, ds, o, sb, rk, e, k⟩
  unfold gDict at e
  split at e
  · cases e
    obtain ⟨v, rfl, rv⟩ := rk.one
    obtain ⟨a, kvs, rfl, h1, h2⟩ := rv.dK sb
    exact call_dictD pins s σ H _ us Q I r ⟨a, kvs, rfl, h1, fun p hp => ext_new sb k hp (.dK upd_same h2)⟩
  · obtain ⟨ps, e1, e2⟩ := Option.map_eq_some_iff.mp e
    cases e2
    obtain ⟨v, rfl, rv⟩ := rk.one
    obtain ⟨a, vs, rfl, h1, h2⟩ := rv.lst sb
    obtain ⟨as, kvs, rfl, h3, h4⟩ := h2.pairs e1
    refine call_dictP hc pins s σ H _ us Q I r ⟨a, as, kvs, rfl, .inl h1, ?_, fun p hp => ext_new sb k hp (.dK upd_same (RepD.merge .nil h4))⟩
    clear e1 h4 h2 h1 r
    induction h3 with
    | nil => exact .nil
    | cons q _ ih => exact .cons (.inl (.inl (sb _ _ q))) ih
  · cases e
def gTuple : Gb
  | [.lst ds] => some (.val (.tup ds))
  | [.tup ds] => some (.val (.tup ds))
  | _ => none
theorem bl_tuple : CallR X (.type "tuple") (rCT X.K gTuple) := by
  intro pins s σ H xs us Q I r ⟨G, ds, o, sb, rk, e, k⟩
  unfold gTuple at e
  split at e
  · cases e
    obtain ⟨v, rfl, rv⟩ := rk.one
    obtain ⟨a, vs, rfl, h1, h2⟩ := rv.lst sb
    refine call_tuple_of pins s σ H _ us Q I r ⟨a, vs, rfl, .inl ⟨.inl h1, fun l hl => ?_⟩⟩
    have E : Ext G H (upd G l (.tup vs)) (upd H l (.tup vs)) := .add sb hl
    exact k _ _ _ E (.tup upd_same (h2.mono E.gg.le))
  · cases e
    obtain ⟨v, rfl, rv⟩ := rk.one
    obtain ⟨a, vs, rfl, h1, h2⟩ := rv.tup sb
    refine call_tuple_of pins s σ H _ us Q I r ⟨a, vs, rfl, .inr ⟨.inl (.inl h1), ?_⟩⟩
    rcases rv with rv | ⟨p, _, rv⟩
    · exact ext_val sb k rv
    · cases rv
  · cases e
/-! sorted -/
def sortI (is : List Int) : List Int := is.mergeSort (fun a b => decide (a ≤ b))
theorem sortI_perm (is : List Int) : (sortI is).Perm is := List.mergeSort_perm _ _
theorem sortI_sorted (is : List Int) : (sortI is).Pairwise (· ≤ ·) := by
  have := List.pairwise_mergeSort (le := fun a b : Int => decide (a ≤ b)) (fun a b c h1 h2 => by simp at *; omega) (fun a b => by simp; omega) is
  exact this.imp fun h => of_decide_eq_true h
theorem sortI_uniq {is js : List Int} (hp : js.Perm is) (hs : js.Pairwise (· ≤ ·)) : js = sortI is :=
  List.Perm.eq_of_pairwise (fun _ _ _ _ h1 h2 => Int.le_antisymm h1 h2) hs (sortI_sorted is) (hp.trans (sortI_perm is).symm)
end
end L2.Tl
namespace L2.Tl
open PySem PySem.Spec PyProof.Rows
section
variable {X : Cx}
/-- sorted of a list of plain data, alike; of a dict with few int keys -/
def pdOf (d : D) : PyData := d.pd.getD .none
def isTupC : PyData → Bool
  | .tuple (_ :: _) => true
  | _ => false
def isFlatS : PyData → Bool
  | .tuple _ => false
  | .none => false
  | _ => true
def sortable (ps : List PyData) : Bool := (ps.all fun p => ps.all fun q => PySem.W.alike p q) && (ps.all isTupC || ps.all isFlatS) && ps.all fun p => decide (p.depth ≤ 60)
def sortD (ds : List D) : List D := ds.mergeSort (PySem.W.dataLe false pdOf)
def gSorted : Gb
  | [.lst ds] => (pdL ds).bind fun ps => if sortable ps = true ∧ ds.length ≤ sizeLine then some (.new (.lst (sortD ds))) else none
  | [.dct false kvs] => (intsOf (kvs.map (·.1))).map fun is => .new (.lst ((sortI is).map .int))
  | _ => none
theorem pdL_map : ∀ {ds : List D} {ps : List PyData}, pdL ds = some ps → ps = ds.map pdOf ∧ ∀ d ∈ ds, d.pd = some (pdOf d)
  | [], _, h => by cases h; exact ⟨rfl, fun d hd => by simp at hd⟩
  | d :: ds, ps, h => by
    simp only [pdL] at h
    cases q1 : d.pd with
    | none => rw [q1] at h; cases h
    | some p =>
      cases q2 : pdL ds with
      | none => rw [q1, q2] at h; cases h
      | some qs =>
        rw [q1, q2] at h
        cases h
        obtain ⟨e, k⟩ := pdL_map q2
        subst e
        refine ⟨by simp [pdOf, q1], fun x hx => ?_⟩
        rcases List.mem_cons.mp hx with rfl | hx
        · simp [pdOf, q1]
        · exact k x hx
theorem pick_each {K : PySem.W.Frag} {G : Hp} {out : List Value} {bs : List D} (h : PySem.W.EachIs (fun v d => ∃ x, RelV x v ∧ Rep K G x d) out bs) : ∃ xs, Vals xs out ∧ RepL K G xs bs := by
  induction h with
  | nil => exact ⟨[], .nil, .nil⟩
  | cons q _ ih =>
    obtain ⟨x, h1, h2⟩ := q
    obtain ⟨xs, h3, h4⟩ := ih
    exact ⟨x :: xs, .cons h1 h3, .cons h2 h4⟩
/-- sorted(d) of a dict, all keys ints, any number of them -/
theorem call_sortedDIA (hcalm : X.calm = true) : CallR X (.builtin "sorted") (fun xs H Q => ∃ (a : Addr) (kvs : List (Key × V)) (ks : List Int), xs = [.ref a] ∧ Rd H a (.dK kvs) ∧ kvs.map (·.1) = ks.map Sum.inl ∧
    ∀ (ys : List Int) (p : Addr), ys.Perm ks → ys.Pairwise (· ≤ ·) → H p = none → Q (.ref p) (upd H p (.lst (ys.map V.int)))) := by
  intro pins s σ H xs us Q I r q
  obtain ⟨a, kvs, ks, ex, hd, hks, q⟩ := q
  subst ex
  obtain ⟨u, eu, rx⟩ := vals1 r
  subst eu
  cases rx
  obtain ⟨z, lo, vs, rel, dd⟩ := dk_rd I.hok hd
  obtain ⟨ep, hat⟩ := dd.dictAt
  have hkeys : vs.map (·.1) = ks.map Sum.inl := rel.keys.symm.trans hks
  have hl : vs.length = ks.length := by
    have e := congrArg List.length hkeys
    rw [List.length_map, List.length_map] at e
    exact e
  have h16 : vs.length ≤ sizeLine := by rw [← rel.length]; exact z
  refine Calls.call_function_entry PyProof.Rows.kind_sorted PyProof.Rows.plain_sorted PyProof.Rows.entry_sorted (PyProof.Rows.args_sorted1 _) ?_
  unfold Builtin.«sorted»
  refine wpAny_bind (m := checkCount "sorted" 1 1 _) (wpAny_pure ?_)
  refine wpAny_bind (PySem.W.kdu_collect (A := X.A.in1) (PySem.W.kdl_dict (knd := mixKind X.prog X.w) (kvs := vs) (ep := ep) lo) (I.ok.hd hcalm) hat h16 fun h' tk acc hk hacc => ?_)
  have hal : acc.toList.length = ks.length := by rw [Array.length_toList, hacc.1, hl]
  have hS : IntsAre acc.toList ks := ints_each hal fun j v e => by
    obtain ⟨k, x, e1, e2⟩ := hacc.2 j v (by rw [← Array.getElem?_toList]; exact e)
    have e3 : (vs.map (·.1))[j]? = some k := by rw [List.getElem?_map, e1]; rfl
    rw [hkeys, List.getElem?_map] at e3
    cases e4 : ks[j]? with
    | none => rw [e4] at e3; cases e3
    | some y =>
      rw [e4] at e3
      have e5 : Sum.inl y = k := Option.some.inj e3
      subst e5
      rcases keyIs_shape (show keyIs (Sum.inl y) v = true from e2) with ⟨i, t, ek, ev⟩ | ⟨z, t, ek, ev⟩
      · cases ek
        exact ⟨y, t, rfl, ev⟩
      · cases ek
  have I1 : Inv X pins σ H { s with heap := h', toks := tk } := I.kept hk
  have hz2 : acc.toList.length ≤ sizeLine := by rw [hal, ← hl]; exact h16
  refine wpAny_bind (wpAny_newList ?_ hz2)
  have hoL : (h'.push (seqObj "list" acc.toList.toArray 0)).get? h'.objs.size = some (seqObj "list" acc.toList.toArray 0) := Heap.get?_push_size _ rfl
  show wpAny _ _ _ _ _ { s with heap := h'.push (seqObj "list" acc.toList.toArray 0), toks := tk }
  refine wpAny_bind (wpAny_holding (wpAny_call_entry PyProof.Rows.slot_list_sort ⟨_, hoL, rfl⟩ PyProof.Rows.entry_list_sort
    (SrtO.list_sort_ord (s := { s with heap := h'.push (seqObj "list" acc.toList.toArray 0), toks := tk }) SrtO.swo_int hoL hz2 (fun h2 => SrtO.ints_sortable hS h2) fun out o1 o2 => ⟨_, rfl, ?_⟩) (PyProof.Rows.args_list_sort _)))
  obtain ⟨k1, k2, k3⟩ := SrtO.ints_out hS o1 o2
  obtain ⟨e', he'⟩ := PyProof.Rows.sortedHeap_at (vs := acc.toList) (out := out.toArray) hoL
  have hlen : ((out.map SrtO.iv).map V.int).length ≤ sizeLine := by
    rw [List.length_map, k2.length_eq, ← hl]
    exact h16
  refine wpAny_pure ⟨_, rfl, .ref h'.objs.size, upd H h'.objs.size (.lst ((out.map SrtO.iv).map V.int)), I1.laid (t' := tk) (fun b u e => ?_) (Nat.le_refl _)
    (show ObjOk X.prog X.w _ _ _ (.lst ((out.map SrtO.iv).map V.int)) from ⟨hlen, out, e', vals_of_ints k1, he'⟩), rfl, q _ _ k2 k3 (I1.hok.fresh (Nat.le_refl _))⟩
  have hb : b < h'.objs.size := Heap.lt_size e
  rw [PyProof.Rows.sortedHeap_old (Nat.ne_of_lt hb) (by rw [size_push']; exact Nat.lt_succ_of_lt hb)]
  exact Heap.get?_push_of_some _ e
theorem each_of {pins : List (Addr × Obj)} {σ : St} {G H : Hp} {s : Shared} (I : Inv X pins σ H s) (sb : Sub G H) : ∀ {vs : List V} {ds : List D} {its : List Value}, RepL X.K G vs ds → Vals vs its → (∀ d ∈ ds, d.pd = some (pdOf d)) →
    PySem.W.EachIs (fun v d => (∃ x, RelV x v ∧ Rep X.K G x d) ∧ ∃ as, Reads s.heap v (pdOf d) as) its ds
  | _, _, _, .nil, rv, _ => by cases rv; exact .nil
  | _, _, _, .cons h t, rv, hp => by
    cases rv with
    | cons q rv => exact .cons ⟨⟨_, q, h⟩, Dp.reads I _ _ _ (Rep.dp _ _ _ (h.mono sb.le) (hp _ (by simp))) q⟩ (each_of I sb t rv fun d hd => hp d (List.mem_cons_of_mem _ hd))
theorem keys_of {K : PySem.W.Frag} {G : Hp} : ∀ {vs : List (Key × V)} {kvs : List (D × D)} {is : List Int}, RepD K G vs kvs → intsOf (kvs.map (·.1)) = some is → vs.map (·.1) = is.map Sum.inl
  | _, _, _, .nil, e => by cases e; rfl
  | _, _, is, .cons (k := kk) (ds := ds) h t, e => by
    cases kk with
    | inl i =>
      obtain ⟨js, e2, e3⟩ := Option.map_eq_some_iff.mp (show (intsOf (ds.map (·.1))).map (i :: ·) = some is from e)
      subst e3
      simp only [List.map_cons, keys_of t e2]
    | inr z => cases (show (none : Option (List Int)) = some is from e)
theorem bl_sorted (hc : X.calm = true) (hu : X.A.units + 64 < cLine) : CallR X (.builtin "sorted") (rCT X.K gSorted) := by
  intro pins s σ H xs us Q I r ⟨G, ds, o, sb, rk, e, k⟩
  unfold gSorted at e
  split at e
  · rename_i ds
    obtain ⟨ps, e1, e⟩ := Option.bind_eq_some_iff.mp e
    split at e
    · rename_i hz
      cases e
      obtain ⟨v, rfl, rv⟩ := rk.one
      obtain ⟨a, vs, rfl, h1, h2⟩ := rv.lst sb
      obtain ⟨its, rv', pl, hz'⟩ := I.list (.inl h1)
      obtain ⟨ep, epd⟩ := pdL_map e1
      obtain ⟨u, rfl, ru⟩ := vals1 r
      cases ru
      have hz1 := hz.1
      unfold sortable at hz1
      simp only [Bool.and_eq_true, List.all_eq_true, Bool.or_eq_true, decide_eq_true_eq] at hz1
      obtain ⟨⟨g1, g2⟩, g3⟩ := hz1
      rw [ep] at g1 g2 g3
      have ea := each_of I sb h2 rv' epd
      refine PySem.W.sorted_data (enc := pdOf) (R := fun v d => ∃ x, RelV x v ∧ Rep X.K G x d) pl.isList (ea.mono fun _ _ q => q.1) (ea.mono fun _ _ q => q.2) g1 ?_ hz.2 (fun b hb => ?_) fun out hl hout => ?_
      · rcases g2 with g2 | g2
        · refine .inl fun d hd => ?_
          have := g2 d hd
          unfold isTupC at this
          split at this
          · exact ⟨_, _, rfl⟩
          · cases this
        · refine .inr fun d hd => ⟨fun z => ?_, fun xs z => ?_⟩
          · have := g2 d hd; rw [z] at this; cases this
          · have := g2 d hd; rw [z] at this; cases this
      · have := g3 (pdOf b) (List.mem_map.mpr ⟨b, hb, rfl⟩)
        omega
      · obtain ⟨xs, o1, o2⟩ := pick_each hout
        obtain ⟨ep', he'⟩ := PyProof.Rows.sortedAll_at s.heap its (List.toArray out)
        have hlen : xs.length ≤ sizeLine := by rw [o1.length, hl]; exact hz.2
        have hn : H (s.heap.objs.size + 1) = none := I.hok.fresh (Nat.le_succ _)
        refine ⟨.ref (s.heap.objs.size + 1), upd H (s.heap.objs.size + 1) (.lst xs), I.laid (t' := s.toks) (fun _ _ => PyProof.Rows.sortedAll_old) (Nat.le_succ _) ⟨hlen, out, ep', o1, he'⟩, rfl, ext_new sb k hn (.lst upd_same o2)⟩
    · cases e
  · rename_i kvs
    obtain ⟨is, e1, e2⟩ := Option.map_eq_some_iff.mp e
    cases e2
    obtain ⟨v, rfl, rv⟩ := rk.one
    obtain ⟨a, vs, rfl, h1, h2⟩ := rv.dK sb
    refine call_sortedDIA hc pins s σ H _ us Q I r ⟨a, vs, is, rfl, h1, keys_of h2 e1, fun ys p hp hs hn => ext_new sb k hn (.lst upd_same ?_)⟩
    rw [sortI_uniq hp hs]
    exact .of_ints _
  · cases e

/-! ### isinstance -/
def tyB (T : String) : D → Option Bool
  | .non => kitB "NoneType" T
  | .bl _ => kitB "bool" T
  | .int _ => kitB "int" T
  | .str _ => kitB "str" T
  | .lst _ => kitB "list" T
  | .tup _ => kitB "tuple" T
  | .dct false _ => kitB "dict" T
  | .dct true _ => none
  | _ => none
/-- its type's name -/
def tyN : D → Option String
  | .non => some "NoneType"
  | .bl _ => some "bool"
  | .int _ => some "int"
  | .str _ => some "str"
  | .lst _ => some "list"
  | .tup _ => some "tuple"
  | .dct false _ => some "dict"
  | _ => none
theorem tyX_of {K : PySem.W.Frag} {G H : Hp} {v : V} {d : D} {n : String} (r : RepK K G H v d) (sb : Sub G H) (h : tyN d = some n) : TyX K H v (.type n) := by
  have r := r.all sb
  cases r with
  | non => cases h; exact .base .non
  | bl x => cases h; exact .base (.bl x)
  | int x => cases h; exact .base (.int x)
  | str x => cases h; exact .base (.str x)
  | lst hq _ =>
    cases h
    rcases hq with hq | ⟨o, hq⟩
    · exact .base (.lst hq)
    · exact .base (.frz hq)
  | tup hq _ => cases h; exact .base (.tup hq)
  | dK hq _ =>
    cases h
    rcases hq with hq | ⟨o, hq⟩
    · exact .base (.dK hq)
    · exact .fDict hq
  | dT hq _ => cases h
  | obj hq _ => cases h
  | kl _ => cases h
def kitTab (T n : String) : Bool := decide (n = T) || (decide (n = "bool") && decide (T = "int"))
/-- the names that the table tells rightly -/
def KitOk (T : String) : Prop := ∀ n ∈ ["NoneType", "bool", "int", "str", "list", "tuple", "dict"], kitB n T = some (kitTab T n)
theorem tyN_in {d : D} {n : String} (h : tyN d = some n) : n ∈ ["NoneType", "bool", "int", "str", "list", "tuple", "dict"] := by
  unfold tyN at h
  split at h <;> cases h <;> decide
def isiD (T : String) (d : D) : Option Bool := (tyN d).map (kitTab T)
def fIsi (T : String) (f : Fe) : Fe := fun δ => (f δ).bind fun p => (peek p.1 p.2).bind fun d => (isiD T d).map fun b => (.val (.bl b), p.2)
variable {pos p p1 p2 : Pos} {e : Expr} {f : Fe} {T : String} {t : Str}
theorem ev_isi (hk : KitOk T) (hg : Gl X "isinstance") (hm : X.mg "isinstance" = none) (hg' : Gl X t) (hm' : X.mg t = none) (hv : bootBuiltins t = some (.type T)) (h : Ev X e f) (hn : t ≠ "__name__" := by decide) (hd : (t == ("__debug__" : Str)) = false := by decide)
    (he : starEach [e, .Name t p1] X.env = (false, eval e X.env) :: starEach [.Name t p1] X.env := by rfl) (hs : starEach [.Name t p1] X.env = (false, eval (.Name t p1) X.env) :: starEach [] X.env := by rfl) (hpl : (backTo pos (starEach [.Name t p1] X.env)).any (·.1) = false := by rfl) :
    Ev X (.Call (.Name "isinstance" p) [e, .Name t p1] [] pos) (fIsi T f) :=
  PE.imp (pe_callB call_isi hg hm PyProof.Rows.boot_isinstance (pa_cons h (pa_cons (pe_bltn (v := .ty T) hg' hm' hv rfl hn hd) pa_nil hs) he) (by decide) (by decide) he hpl) fun σ H Q ⟨F, G, δ, r, δ', S, e, k⟩ => by
    obtain ⟨⟨ra, δ1⟩, e1, e⟩ := Option.bind_eq_some_iff.mp e
    obtain ⟨d, e2, e⟩ := Option.bind_eq_some_iff.mp e
    obtain ⟨b, e3, e4⟩ := Option.map_eq_some_iff.mp e
    cases e4
    obtain ⟨n, e5, e6⟩ := Option.map_eq_some_iff.mp e3
    refine ⟨F, G, δ, ra, _, S, e1, fun v H1 G1 S1 m1 r1 => ?_⟩
    refine ⟨v, .ty T, .type n, .type T, b, rfl, .ty T, tyX_of (S1.peek r1 e2) S1.sub e5, ?_, k _ H1 G1 S1 m1 (.bl _)⟩
    rw [← e6]
    exact kit_ty (hk n (tyN_in e5))
/-- isinstance(x, (T, U)), (T, U, W) -/
def fIsi2 (Ts : List String) (f : Fe) : Fe := fun δ => (f δ).bind fun p => (peek p.1 p.2).bind fun d => (tyN d).map fun n => (.val (.bl (Ts.any fun T => kitTab T n)), p.2)
end
end L2.Tl
namespace L2.Tl
open PySem PySem.Spec PyProof.Rows
section
variable {X : Cx} {pos p p1 p2 : Pos} {e : Expr} {f : Fe} {T : String} {t : Str}
theorem kit_int : KitOk "int" := by unfold KitOk; decide +kernel
theorem kit_bool : KitOk "bool" := by unfold KitOk; decide +kernel
theorem kit_str : KitOk "str" := by unfold KitOk; decide +kernel
theorem kit_list : KitOk "list" := by unfold KitOk; decide +kernel
theorem kit_tuple : KitOk "tuple" := by unfold KitOk; decide +kernel
theorem kit_dict : KitOk "dict" := by unfold KitOk; decide +kernel
def tTys (Ts : List String) : TA := fun _ H Q => Q (Ts.map V.ty) H
inductive Tys (X : Cx) : List Expr → List String → Prop
  | nil : Tys X [] []
  | cons {t : Str} {T : String} {p : Pos} {es : List Expr} {Ts : List String} : KitOk T → Gl X t → X.mg t = none → bootBuiltins t = some (.type T) → t ≠ "__name__" → (t == ("__debug__" : Str)) = false →
      starEach (.Name t p :: es) X.env = (false, eval (.Name t p) X.env) :: starEach es X.env → Tys X es Ts → Tys X (.Name t p :: es) (T :: Ts)
theorem Tys.pa {es : List Expr} {Ts : List String} (h : Tys X es Ts) : PA X es (tTys Ts) := by
  induction h with
  | nil => exact PA.imp pa_nil fun σ H Q h => h
  | cons a b c d e g hs _ ih => exact PA.imp (pa_cons (pe_bltn (v := .ty _) b c d rfl e g) ih hs) fun σ H Q h => h
theorem Tys.ok {es : List Expr} {Ts : List String} (h : Tys X es Ts) : ∀ T ∈ Ts, KitOk T := by
  induction h with
  | nil => intro T h; simp at h
  | cons a _ _ _ _ _ _ _ ih =>
    intro T h
    rcases List.mem_cons.mp h with rfl | h
    · exact a
    · exact ih T h
theorem kitAny_tab {K : PySem.W.Frag} {n : String} (hn : n ∈ ["NoneType", "bool", "int", "str", "list", "tuple", "dict"]) : ∀ {Ts : List String}, (∀ T ∈ Ts, KitOk T) → PySem.W.kitAny K (.type n) (Ts.map Value.type) = some (Ts.any fun T => kitTab T n)
  | [], _ => kitAny_nil
  | T :: Ts, h => by
    have h1 := kit_ty (K := K) (h T (by simp) n hn)
    refine kitAny_cons h1 (fun hb => ?_) (fun hb => by simp [hb])
    rw [kitAny_tab hn fun T' h' => h T' (List.mem_cons_of_mem _ h')]
    simp [hb]
theorem paired_tys : ∀ Ts : List String, Paired ClsV (Ts.map V.ty) (Ts.map Value.type)
  | [] => .nil
  | T :: Ts => .cons (.ty T) (paired_tys Ts)
theorem ev_isiT {ts : List Expr} {kt : Nat} {pt : Pos} {Ts : List String} (hg : Gl X "isinstance") (hm : X.mg "isinstance" = none) (ht : Tys X ts Ts) (h : Ev X e f) (hz : Ts.length ≤ 100 := by decide)
    (he : starEach [e, .Tuple ts kt pt] X.env = (false, eval e X.env) :: starEach [.Tuple ts kt pt] X.env := by rfl) (hs : starEach [.Tuple ts kt pt] X.env = (false, eval (.Tuple ts kt pt) X.env) :: starEach [] X.env := by rfl) (hpl : (backTo pos (starEach [.Tuple ts kt pt] X.env)).any (·.1) = false := by rfl) :
    Ev X (.Call (.Name "isinstance" p) [e, .Tuple ts kt pt] [] pos) (fIsi2 Ts f) :=
  PE.imp (pe_callB call_isiT hg hm PyProof.Rows.boot_isinstance (pa_cons h (pa_cons (pe_tup ht.pa) pa_nil hs) he) (by decide) (by decide) he hpl) fun σ H Q ⟨F, G, δ, r, δ', S, e, k⟩ => by
    obtain ⟨⟨ra, δ1⟩, e1, e⟩ := Option.bind_eq_some_iff.mp e
    obtain ⟨d, e2, e⟩ := Option.bind_eq_some_iff.mp e
    obtain ⟨n, e5, e4⟩ := Option.map_eq_some_iff.mp e
    cases e4
    refine ⟨F, G, δ, ra, _, S, e1, fun v H1 G1 S1 m1 r1 => ?_⟩
    show (Ts.map V.ty).length ≤ sizeLine ∧ _
    refine ⟨by rw [List.length_map]; exact Nat.le_trans hz (by rw [sizeLine_eq]; decide), fun q hq => ?_⟩
    have E : Ext G1 H1 (upd G1 q (.tup (Ts.map V.ty))) (upd H1 q (.tup (Ts.map V.ty))) := .add S1.sub hq
    have S2 := S1.ext E
    refine ⟨v, q, Ts.map V.ty, .type n, Ts.map Value.type, _, rfl, upd_same, ?_, tyX_of (S2.peek (r1.mono E.gg.le) e2) S2.sub e5, kitAny_tab (tyN_in e5) ht.ok, k _ _ _ S2 (m1.trans E.mv) (.bl _)⟩
    exact paired_tys Ts
/-! ### d.get(k), d.get(k, x), i.bit_length() -/
def dGetD (x : D) (y : D) (z : D) : Option D := match x with
  | .dct t kvs => if isKey t y = true then some ((kvGet kvs y).getD z) else none
  | _ => none
def fGet2 (fo fk fx : Fe) : Fn := fun δ => (fo δ).bind fun p => (peek p.1 p.2).bind fun x0 => match x0 with
  | .dct _ _ => (fk p.2).bind fun q => (fx q.2).bind fun r => (esc r.1 r.2).bind fun s => (peek p.1 s.2).bind fun x => (peek q.1 s.2).bind fun y => (dGetD x y s.1).map fun d => (.val d, s.2)
  | _ => none
def fGet1 (fo fk : Fe) : Fn := fun δ => (fo δ).bind fun p => (peek p.1 p.2).bind fun x0 => match x0 with
  | .dct _ _ => (fk p.2).bind fun q => (peek p.1 q.2).bind fun x => (peek q.1 q.2).bind fun y => (dGetD x y .non).map fun d => (.val d, q.2)
  | _ => none
theorem isD_of {K : PySem.W.Frag} {G H : Hp} {v : V} {t : Bool} {kvs : List (D × D)} (r : RepK K G H v (.dct t kvs)) (sb : Sub G H) : ∃ a, v = .ref a ∧ IsD H a := by
  have r := r.all sb
  cases r with
  | dK hq _ => exact ⟨_, rfl, .inl ⟨_, hq⟩⟩
  | dT hq _ => exact ⟨_, rfl, .inr ⟨_, hq⟩⟩
theorem repOpt_or {K : PySem.W.Frag} {G : Hp} {ov : Option V} {od : Option D} {z : V} {d : D} (h : RepOpt K G ov od) (hz : Rep K G z d) : Rep K G (ov.getD z) (od.getD d) := by
  cases ov <;> cases od
  · exact hz
  · exact (show False from h).elim
  · exact (show False from h).elim
  · exact h
variable {o k x : Expr} {fo fk fx : Fe} {apos cpos : Pos}
theorem en_get2 (hu : X.A.units + 64 < cLine) (ho : Ev X o fo) (hk : Ev X k fk) (hx : Ev X x fx) (m : M2 X o "get" apos k x cpos) : En X (.Call (.Attribute o "get" apos) [k, x] [] cpos) (fGet2 fo fk fx) :=
  PE.imp (pe_dget2 (by omega) ho hk hx m) fun σ H Q ⟨F, G, δ, oo, δ', S, e, kk⟩ => by
    obtain ⟨⟨ra, δ1⟩, e1, e⟩ := Option.bind_eq_some_iff.mp e
    obtain ⟨x0, e2, e⟩ := Option.bind_eq_some_iff.mp e
    dsimp only at e
    split at e
    · obtain ⟨⟨rb, δ2⟩, e3, e⟩ := Option.bind_eq_some_iff.mp e
      obtain ⟨⟨rc, δ3⟩, e4, e⟩ := Option.bind_eq_some_iff.mp e
      obtain ⟨⟨z, δ4⟩, e5, e⟩ := Option.bind_eq_some_iff.mp e
      obtain ⟨d, e6, e⟩ := Option.bind_eq_some_iff.mp e
      obtain ⟨y, e7, e⟩ := Option.bind_eq_some_iff.mp e
      obtain ⟨w, e8, e9⟩ := Option.map_eq_some_iff.mp e
      cases e9
      refine ⟨F, G, δ, ra, δ1, S, e1, fun v1 H1 G1 S1 m1 r1 => ?_⟩
      obtain ⟨a, rfl, hd⟩ := isD_of (S1.peek r1 e2) S1.sub
      refine ⟨a, rfl, hd, F, G1, δ1, rb, δ2, S1, e3, fun v2 H2 G2 S2 m2 r2 => ⟨F, G2, δ2, rc, δ3, S2, e4, fun v3 H3 G3 S3 m3 r3 => ?_⟩⟩
      obtain ⟨G4, S4, m4, r4⟩ := S3.esc r3 e5
      have ra4 := S4.peek (r1.mono (m2.le.trans (m3.le.trans m4.le))) e6
      have rb4 := S4.peek (r2.mono (m3.le.trans m4.le)) e7
      unfold dGetD at e8
      split at e8
      · split at e8
        · rename_i hy
          cases e8
          have m := m1.trans (m2.trans (m3.trans m4))
          obtain ⟨aa, ov, q1, q2, q3⟩ := dget_at S4.sub ra4 rb4 hy
          cases q1
          refine ⟨ov, q2, kk _ H3 G4 S4 m ?_⟩
          exact repOpt_or q3 r4
        · cases e8
      · cases e8
    · cases e
def fBits (f : Fe) : Fn := fun δ => (f δ).bind fun p => (peek p.1 p.2).bind fun d => match d with
  | .int i => some (.val (.int (Builtin.Int.intBits i : Nat)), p.2)
  | _ => none
theorem en_bits (ho : Ev X o fo) (hbase : attributeBase o "bit_length" X.env (eval o X.env) = eval o X.env := by rfl) (hline : (apos.endLine == pos.line) = true := by rfl) : En X (.Call (.Attribute o "bit_length" apos) [] [] pos) (fBits fo) :=
  PE.imp (pe_bits ho hbase hline) fun σ H Q ⟨F, G, δ, oo, δ', S, e, kk⟩ => by
    obtain ⟨⟨ra, δ1⟩, e1, e⟩ := Option.bind_eq_some_iff.mp e
    obtain ⟨x0, e2, e⟩ := Option.bind_eq_some_iff.mp e
    dsimp only at e
    split at e
    · cases e
      refine ⟨F, G, δ, ra, _, S, e1, fun v1 H1 G1 S1 m1 r1 => ?_⟩
      have := (S1.peek r1 e2).int
      exact ⟨_, this, kk _ H1 G1 S1 m1 (.int _)⟩
    · cases e
end
end L2.Tl
namespace L2.Tl
open PySem PySem.Spec PyProof.Rows
section
variable {X : Cx}
/-- d.update(d2) -/
def gUpd : D → List D → Option (D × D)
  | .dct false kvs, [.dct false more] => if kvs.length + more.length ≤ sizeLine then some (.non, .dct false (kvMerge kvs more)) else none
  | _, _ => none
theorem kvMerge_len : ∀ (more kvs : List (D × D)), (kvMerge kvs more).length ≤ kvs.length + more.length
  | [], kvs => by simp [kvMerge]
  | p :: more, kvs => by
    have h1 := kvMerge_len more (kvPut kvs p.1 p.2)
    have h2 := kvPut_length kvs p.1 p.2
    show (kvMerge (kvPut kvs p.1 p.2) more).length ≤ _
    simp only [List.length_cons]
    omega
theorem mtT_update : MtR X "dict.update" (rMut X.K gUpd) := by
  intro pins s σ H x xs v us Q I rx rv ⟨G, p, d, ds, r, d', e1, sb, hg, rt, rl, hq, k⟩
  subst e1
  unfold gUpd at hq
  split at hq
  · split at hq
    · rename_i hz
      cases hq
      cases rt with
      | dK a b =>
        rename_i kvs
        cases rl with
        | cons h1 h2 =>
          cases h2
          cases h1 with
          | dK hb rb =>
            rename_i o more
            cases rx
            cases rv with
            | cons r1 r2 =>
              cases r2
              cases r1
              have hne : p ≠ o := fun z => by
                subst z
                rcases hb with hb | ⟨_, hb⟩ <;> (rw [hg] at hb; cases hb)
              obtain ⟨z1, hd1, vs1, rel1, dd1⟩ := dk_of I.hok a
              obtain ⟨z2, hd2, vs2, rel2, dd2⟩ := dk_rd I.hok (sb.le.rd _ _ hb)
              have l1 : vs1.length = kvs.length := rel1.length.symm
              have l2 : vs2.length = more.length := rel2.length.symm
              have hl : (mergeK kvs more).length ≤ sizeLine := by
                have := length_mergeK more kvs
                have := b.len
                have := rb.len
                omega
              refine call_meetsIn F.slot_dict_update dd1.typeIs F.entry_dict_update (F.args_dict_update_2 _ _) (meets_dict_update (mixKind X.prog X.w) p o hne hd2) ⟨vs1, vs2, dd1, dd2, by have := b.len; have := rb.len; omega, fun h' dd' _ hs => ?_⟩
              have he : ∃ q, h'.get? p = some q := let ⟨q, _, _, hq, _⟩ := dd'; ⟨q, hq⟩
              exact ⟨.non, _, d_write I (by rw [a]; exact True.intro) hs he (dk_new hl hd1 (KV.merge rel2 rel1) dd'), rfl, k _ _ .non (.dK upd_same (RepD.merge b rb))⟩
    · cases hq
  · cases hq
end
end L2.Tl

set_option Elab.async false
set_option linter.all false
set_option autoImplicit false
set_option maxRecDepth 100000
namespace L2.TlW
open PySem PySem.W PySem.Spec PyProof.Rows
section
variable {prog : Program} {w : World} {A : Around} {E : Value → Shared → Prop} {s : Shared}
theorem tl_call_max_twoH {a b : Value} {Q : Value → Shared → Prop}
    (h : wpAny (model prog w) A.in1 (pyIter (.ref s.heap.objs.size)) (fun it s₂ => ∃ I fp wr G n P St H bt, it = .ref I ∧ WalksS prog w A.in1 I fp wr G n P St ∧ St 0 s₂ ∧ (∀ b ∈ fp, b < s₂.heap.objs.size) ∧ 0 < n ∧
      (∀ b o, H.get? b = some o → b ∉ wr) ∧ (∀ b o, H.get? b = some o → s₂.heap.get? b = some o) ∧ CmpIn prog w A.in1 .Gt H P bt ∧ ∀ v s', P (argBest bt (n - 1)) v → Moved wr G s₂ s' → Q v s') E { s with heap := s.heap.push { cls := .type "tuple", data := .seq #[a, b] } }) :
    wpAny (model prog w) A (call (.builtin "max") [a, b]) Q E s := by
  have hname : (toString "max" ++ toString ".loop" : String) = "max.loop" := by decide
  refine call_function_tree F.kind_max F.plain_max F.entry_max (F.args_max2 _ _) ?_
  show wpAny _ A.in1 (Builtin.Builtins.bindParams "max" ["key", "default"] 0 ⟨[], []⟩ >>= _) _ _ s
  refine wpAny_bind (wpAny_of_eq (show Builtin.Builtins.bindParams "max" ["key", "default"] 0 ⟨[], []⟩ = pure [none, none] from rfl) ?_)
  show wpAny _ A.in1 (newTuple [a, b] >>= _) _ _ s
  refine wpAny_bind (wpAny_newObj_type ?_)
  refine wpAny_bind (wpAny_mono h (fun it s₂ h₂ => ?_) fun _ _ e => e)
  obtain ⟨I, fp, wr, G, n, P, St, H, bt, rfl, W, hst, hfp, hn, hw, hkeep, hcmp, hQ⟩ := h₂
  refine wpAny_bind (wpAny_newObj_type ?_)
  have hSf : s₂.heap.objs.size ∉ fp := fun hm => Nat.lt_irrefl _ (hfp _ hm)
  rw [hname]
  refine wpAny_pure ⟨plainId_quiet F.plain_max_loop _, codeAny_max_loop_firstH W H hw bt hcmp s₂.heap.objs.size hSf (fresh_in hkeep) _ hn (fun b o e => Heap.get?_push_of_some _ (hkeep b o e)) (W.frame 0 s₂ _ s₂.toks hst (Nat.le_refl _) fun b _ o e => Heap.get?_push_of_some _ e) (Heap.get?_push_size _ rfl) fun v s' hP hm => ?_⟩
  exact hQ v s' hP (Moved.drop_new (tk := s₂.toks) hm (Nat.le_refl _))
theorem tl_max_two {a b : Value} {x y : PyData} {as bs : List Addr} {Q : Value → Shared → Prop} (hh : A.handled = none) (ra : Reads s.heap a x as) (rb : Reads s.heap b y bs) (ha : AlikeAll [x, y]) (hu : A.units + 1 + PyData.depthAll [x, y] < cLine)
    (h : ∀ h' tk, (∀ b o, s.heap.get? b = some o → h'.get? b = some o) → Q (if dataLt x y = true then b else a) { s with heap := h', toks := tk }) : wpAny (model prog w) A (call (.builtin "max") [a, b]) Q E s := by
  have hT : (s.heap.push { cls := .type "tuple", data := .seq #[a, b] }).IsTuple s.heap.objs.size #[a, b] := ⟨_, Heap.get?_push_size _ rfl, rfl, 0, rfl⟩
  refine tl_call_max_twoH (iter_tupleW (A := A.in1) (s := { s with heap := s.heap.push { cls := .type "tuple", data := .seq #[a, b] } }) hh hT fun s₂ e W st hfp hw hk => ?_)
  have hk0 : ∀ b' o, s.heap.get? b' = some o → (s.heap.push { cls := .type "tuple", data := .seq #[a, b] }).get? b' = some o := fun b' o e => Heap.get?_push_of_some _ e
  have hr : ReadsAll (s.heap.push { cls := .type "tuple", data := .seq #[a, b] }) (#[a, b] : Array Value).toList [x, y] (as ++ (bs ++ [])) := .cons (reads_keeps hk0 ra) (.cons (reads_keeps hk0 rb) .nil)
  refine ⟨_, _, _, _, _, _, _, (s.heap.push { cls := .type "tuple", data := .seq #[a, b] }), _, rfl, W, st, hfp, by simp, hw, hk, cmpIn_gt (A := A.in1) (s := { s with heap := s.heap.push { cls := .type "tuple", data := .seq #[a, b] } }) hr ha (by show A.units + 1 + _ < _; exact hu), fun v s' hP m => ?_⟩
  obtain ⟨h', tk, rfl, hk'⟩ := moved_old e rfl m
  have ev : v = if dataLt x y = true then b else a := by
    have hP' : (#[a, b] : Array Value)[argBest (fun i j => dataLt (([x, y] : List PyData).getD j .none) (([x, y] : List PyData).getD i .none)) 1]? = some v := hP
    unfold argBest at hP'
    simp only [argBest] at hP'
    by_cases hd : dataLt x y = true
    · rw [if_pos hd]
      have : (dataLt (([x, y] : List PyData).getD 0 .none) (([x, y] : List PyData).getD 1 .none)) = true := hd
      simp [hd] at hP'
      exact hP'.symm
    · rw [if_neg hd]
      simp [hd] at hP'
      exact hP'.symm
  subst ev
  exact h h' tk fun b' o e => hk' b' o (hk0 b' o e)
end
end L2.TlW

namespace L2.Tl
open PySem PySem.Spec PyProof.Rows
section
variable {X : Cx} {pos : Pos}
/-- max(a, b), two tuples of plain data, alike -/
def gMax2 : Gb
  | [.tup ds, .tup es] => (pdL ds).bind fun ps => (pdL es).bind fun qs => if PySem.W.alike (.tuple ps) (.tuple qs) = true ∧ PySem.W.alike (.tuple ps) (.tuple ps) = true ∧ PySem.W.alike (.tuple qs) (.tuple qs) = true ∧ PySem.PyData.depthAll [.tuple ps, .tuple qs] ≤ 60 then
      some (.val (if PySem.W.dataLt (.tuple ps) (.tuple qs) = true then .tup es else .tup ds)) else none
  | _ => none
theorem bl_max2 (hc : X.calm = true) (hu : X.A.units + 64 < cLine) : CallR X (.builtin "max") (rCT X.K gMax2) := by
  intro pins s σ H xs us Q I r ⟨G, ds, o, sb, rk, e, k⟩
  unfold gMax2 at e
  split at e
  · rename_i ds es
    obtain ⟨ps, e1, e⟩ := Option.bind_eq_some_iff.mp e
    obtain ⟨qs, e2, e⟩ := Option.bind_eq_some_iff.mp e
    split at e
    · rename_i hz
      cases e
      obtain ⟨v, w, rfl, rv, rw'⟩ := rk.two
      obtain ⟨u1, u2, rfl, q1, q2⟩ := vals2 r
      obtain ⟨as, r1⟩ := Dp.reads I _ v u1 (Rep.dp (.tup ds) v (.tuple ps) (rv.all sb) (by simp [D.pd, e1])) q1
      obtain ⟨bs, r2⟩ := Dp.reads I _ w u2 (Rep.dp (.tup es) w (.tuple qs) (rw'.all sb) (by simp [D.pd, e2])) q2
      refine TlW.tl_max_two (I.ok.hd hc) r1 r2 ⟨fun x hx y hy => ?_, fun x hx => ?_⟩ (by omega) fun h' tk hk => ?_
      · have c := hz.1
        rw [PySem.W.alike_comm] at c
        rcases List.mem_cons.mp hx with rfl | hx
        · rcases List.mem_cons.mp hy with rfl | hy
          · exact hz.2.1
          · rw [List.mem_singleton.mp hy]; exact hz.1
        · rw [List.mem_singleton.mp hx]
          rcases List.mem_cons.mp hy with rfl | hy
          · exact c
          · rw [List.mem_singleton.mp hy]; exact hz.2.2.1
      · rcases List.mem_cons.mp hx with rfl | hx
        · exact fun z => nomatch z
        · rw [List.mem_singleton.mp hx]; exact fun z => nomatch z
      · have fin : ∀ {v : V} {d : List D}, RepK X.K G H v (.tup d) → Rep X.K G v (.tup d) := fun h => by
          rcases h with h | ⟨_, _, h⟩
          · exact h
          · cases h
        split
        · rename_i hl
          rw [if_pos hl] at k
          exact ⟨w, H, I.kept hk, q2, ext_val sb k (fin rw')⟩
        · rename_i hl
          rw [if_neg hl] at k
          exact ⟨v, H, I.kept hk, q1, ext_val sb k (fin rv)⟩
    · cases e
  · cases e

/-! ### [x, *y] -/
def fAS (f : Fe) (r : Fa) : Fa := fun δ => (f δ).bind fun p => (esc p.1 p.2).bind fun q => match q.1 with
  | .lst xs => (r q.2).map fun s => (xs ++ s.1, s.2)
  | .tup xs => (r q.2).map fun s => (xs ++ s.1, s.2)
  | _ => none
theorem ar_star {e : Expr} {es : List Expr} {f : Fe} {r : Fa} {p : Pos} (h : Ev X e f) (hr : Ar X es r) (hs : starEach (.Starred e p :: es) X.env = (true, eval e X.env) :: starEach es X.env := by rfl) : Ar X (.Starred e p :: es) (fAS f r) :=
  PA.imp (StX.pa_star h hr hs) fun σ H Q ⟨F, G, δ, o, δ', S, e, k⟩ => by
    obtain ⟨⟨ra, δ1⟩, e1, e⟩ := Option.bind_eq_some_iff.mp e
    obtain ⟨⟨d, δ2⟩, e2, e⟩ := Option.bind_eq_some_iff.mp e
    refine ⟨F, G, δ, ra, δ1, S, e1, fun v1 H1 G1 S1 b1 r1 => ?_⟩
    obtain ⟨G2, S2, b2, r2⟩ := S1.esc r1 e2
    dsimp only at e
    split at e
    · obtain ⟨⟨ds, δ3⟩, e3, e4⟩ := Option.map_eq_some_iff.mp e
      cases e4
      cases r2 with
      | lst hq rl =>
        refine ⟨_, _, rfl, .inr (.inl (S2.sub.le.rd _ _ hq)), F, G2, δ2, ds, _, S2, e3, fun vs H3 G3 S3 b3 r3 => ?_⟩
        exact k _ H3 G3 S3 (b1.trans (b2.trans b3)) ((rl.mono b3.le).append r3)
    · obtain ⟨⟨ds, δ3⟩, e3, e4⟩ := Option.map_eq_some_iff.mp e
      cases e4
      cases r2 with
      | tup hq rl =>
        refine ⟨_, _, rfl, .inl (.inl (.inl (S2.sub _ _ hq))), F, G2, δ2, ds, _, S2, e3, fun vs H3 G3 S3 b3 r3 => ?_⟩
        exact k _ H3 G3 S3 (b1.trans (b2.trans b3)) ((rl.mono b3.le).append r3)
    · cases e

/-! ### {k: v, ..} -/
abbrev Fd := Dl → Option (List (D × D) × Dl)
def fD0 : Fd := fun δ => some ([], δ)
def fDk (fk fv : Fe) (r : Fd) : Fd := fun δ => (fk δ).bind fun p => (esc p.1 p.2).bind fun q => if isKey1 q.1 = true then (fv q.2).bind fun p2 => (esc p2.1 p2.2).bind fun q2 => (r q2.2).map fun s => ((q.1, q2.1) :: s.1, s.2) else none
def tPs (K : PySem.W.Frag) (f : Fd) (trs : List (TE × TE)) : Prop := ∀ (σ : L2.St) (H : Hp) (Q : List (V × V) → Hp → Prop) (F : Fr) (G : Hp) (δ : Dl) (ds : List (D × D)) (δ' : Dl), Sim K F G H σ δ → f δ = some (ds, δ') →
  (∀ kvs H' G', Sim K F G' H' σ δ' → Mv σ δ G H δ' G' H' → RepD K G' kvs ds → Q (kvs.map fun kv => (kV kv.1, kv.2)) H') → tPairs trs σ H Q
theorem tPs_nil {K : PySem.W.Frag} : tPs K fD0 [] := fun σ H Q F G δ ds δ' S e k => by
  cases e
  exact k [] H G S .refl .nil
theorem tPs_cons {K : PySem.W.Frag} {fk fv : Fe} {r : Fd} {trs : List (TE × TE)} (h : tPs K r trs) : tPs K (fDk fk fv r) ((tEv K fk, tEv K fv) :: trs) := fun σ H Q F G δ ds δ' S e k => by
  obtain ⟨⟨ra, δ1⟩, e1, e⟩ := Option.bind_eq_some_iff.mp e
  obtain ⟨⟨d, δ2⟩, e2, e⟩ := Option.bind_eq_some_iff.mp e
  dsimp only at e
  split at e
  · rename_i hk
    obtain ⟨key, rfl⟩ := isKey1_kD hk
    obtain ⟨⟨rb, δ3⟩, e3, e⟩ := Option.bind_eq_some_iff.mp e
    obtain ⟨⟨y, δ4⟩, e4, e⟩ := Option.bind_eq_some_iff.mp e
    obtain ⟨⟨es, δ5⟩, e5, e6⟩ := Option.map_eq_some_iff.mp e
    cases e6
    refine ⟨F, G, δ, ra, δ1, S, e1, fun v1 H1 G1 S1 b1 r1 => ?_⟩
    obtain ⟨G2, S2, b2, r2⟩ := S1.esc r1 e2
    refine ⟨F, G2, δ2, rb, δ3, S2, e3, fun v3 H3 G3 S3 b3 r3 => ?_⟩
    obtain ⟨G4, S4, b4, r4⟩ := S3.esc r3 e4
    refine h σ H3 _ F G4 δ4 es _ S4 e5 fun kvs H5 G5 S5 b5 r5 => ?_
    have e7 : v1 = kV key := RepK.kV (K := K) (G := G2) (H := G2) (.inl r2)
    subst e7
    exact k ((key, v3) :: kvs) H5 G5 S5 (b1.trans (b2.trans (b3.trans (b4.trans b5)))) (.cons (r4.mono b5.le) r5)
  · cases e
def fDisp (f : Fd) : Fn := fun δ => (f δ).bind fun p => if p.1.length ≤ 15 then some (.new (.dct false (kvMerge [] p.1)), p.2) else none
theorem en_disp {keys : List (Option Expr)} {values : List Expr} {trs : List (TE × TE)} {f : Fd} (h : PPs X pos keys values trs) (ht : tPs X.K f trs) (hall : keys.all (·.isSome) = true := by rfl) (hl : keys.length = values.length := by rfl) (h0 : keys ≠ [] := by exact fun z => nomatch z)
    (h15 : keys.length ≤ 15 := by decide) : En X (.Dict keys values pos) (fDisp f) := PE.imp (pe_disp h hall hl h0 h15) fun σ H Q ⟨F, G, δ, o, δ', S, e, k⟩ p hp => by
  obtain ⟨⟨ds, δ1⟩, e1, e⟩ := Option.bind_eq_some_iff.mp e
  dsimp only at e
  split at e
  · rename_i hz
    cases e
    have E : Ext G H G (upd H p (.dK [])) := .own S.sub hp
    have hg := none_of_sub S.sub hp
    have ap : Apart σ δ p := fun i x d hx r hs => by
      obtain ⟨q, a1, _, a3⟩ := S.root hx r
      rw [hs] at a1; cases a1
      obtain ⟨u, hu⟩ := a3.there
      rw [hp] at hu; cases hu
    refine ht σ _ _ F G δ ds _ (S.ext E) e1 fun kvs H1 G1 S1 m1 r1 => ?_
    obtain ⟨h1, g1, ap1⟩ := m1.stay p _ upd_same hg ap
    refine ⟨h1, kvs, rfl, by rw [r1.len]; exact hz, ?_⟩
    have m := E.mv (σ := σ) (δ := δ) |>.trans m1
    have ne : ∀ {a : Addr} {o : HO}, H a = some o → a ≠ p := fun {a o} h z => by rw [z, hp] at h; cases h
    refine k _ _ G1 (S1.away g1 ap1 (S.fresh hp)) ⟨m.le, fun a o h g apa => ?_, fun a h => ?_⟩ ⟨p, rfl, g1, .dK upd_same (RepD.merge .nil r1), hp, ap1⟩
    · obtain ⟨q1, q2, q3⟩ := m.stay a o h g apa
      exact ⟨(upd_ne (ne h)).trans q1, q2, q3⟩
    · by_cases z : a = p
      · subst z; exact hp
      · rw [upd_ne z] at h; exact m.dom a h
  · cases e

/-! ### a, b, c = x, y, z straight -/
def tPar3 (i j l : Nat) (ta : TA) : TS := fun D σ H => ta σ H fun vs H1 => ∃ v w x, vs = [v, w, x] ∧ D.nx (((σ.set i (some v)).set j (some w)).set l (some x)) H1
theorem ps_par3 {i j l : Nat} {x y z : Str} {a b c : Expr} {ta : TA} {px py pz pt : Pos} {kt k2 pt2} (hc : X.calm = true) (hN : X.N.Nodup) (hi : X.N[i]? = some x) (hj : X.N[j]? = some y) (hl : X.N[l]? = some z) (hij : i ≠ j) (hil : i ≠ l) (hjl : j ≠ l)
    (hx : X.env.scope.names.lookup x = some .local) (hy : X.env.scope.names.lookup y = some .local) (hz : X.env.scope.names.lookup z = some .local) (ha : PA X [a, b, c] ta)
    (hw : swappedStores [.Tuple [.Name x px, .Name y py, .Name z pz] kt pt] (.Tuple [a, b, c] k2 pt2) X.env = pure (some [x, y, z]))
    (hs : swapsWithSole [.Tuple [.Name x px, .Name y py, .Name z pz] kt pt] (.Tuple [a, b, c] k2 pt2) pos.line X.env = pure false := by rfl) :
    PS X (.Assign [.Tuple [.Name x px, .Name y py, .Name z pz] kt pt] (.Tuple [a, b, c] k2 pt2) pos) (tPar3 i j l ta) := by
  refine ⟨fun pins s σ H D I h => ?_⟩
  rw [exec_Assign_arm]
  refine wpAny_bind (wpAny_standAt ?_)
  rw [hs]
  refine wpAny_bind (wpAny_pure ?_)
  rw [if_neg (by decide)]
  refine wpAny_bind (Tuple_ (thn (ha.run _ pins s σ H _ I h) fun us s1 ⟨vs, H1, I1, r1, q1⟩ => ?_))
  obtain ⟨v, w, q, e1, q1⟩ := q1
  subst e1
  obtain ⟨u1, u2, u3, rfl, rv, rw', rq⟩ : ∃ u1 u2 u3, us = [u1, u2, u3] ∧ RelV v u1 ∧ RelV w u2 ∧ RelV q u3 := by
    cases r1 with
    | cons p q =>
      cases q with
      | cons p' q' =>
        cases q' with
        | cons p'' q'' =>
          cases q''
          exact ⟨_, _, _, rfl, p, p', p''⟩
  refine wpAny_newObj_type ?_ (by show 3 ≤ sizeLine; decide)
  have I2 : Inv X pins σ H1 { s1 with heap := s1.heap.push { cls := .type "tuple", data := .seq [u1, u2, u3].toArray } } := I1.kept (t' := s1.toks) fun b o e => Heap.get?_push_of_some _ e
  rw [hw]
  refine wpAny_bind (wpAny_pure ?_)
  show wpAny (model X.prog X.w) X.A (do rule "assign.swapped-stores"; let items ← unpackItems (.ref s1.heap.objs.size) 3 none; assignInOrder [fun v => bindName X.env z v, fun v => bindName X.env y v, fun v => bindName X.env x v] items.reverse; pure Flow.next) _ _ _
  refine wpAny_bind (wpAny_rule (wpAny_bind (unpackItems_tuple (items := #[u1, u2, u3]) (I.ok.hd hc) (IsTup.new s1.heap _) fun h' hx' => ?_)))
  have I3 := I2.kept (h' := h') (t' := s1.toks) fun b o e => hx' b o (Nat.ne_of_lt (Heap.lt_size e)) e
  show wpAny _ _ (assignInOrder [fun v => bindName X.env z v, fun v => bindName X.env y v, fun v => bindName X.env x v] [u3, u2, u1] >>= fun _ => pure Flow.next) _ _ _
  refine wpAny_bind (assignInOrder_cons (wpAny_bindName (store_ok I3 hN hl (.inl hz) rq (fun s2 I4 => ?_) (.inr hz))))
  refine assignInOrder_cons (wpAny_bindName (store_ok I4 hN hj (.inl hy) rw' (fun s3 I5 => ?_) (.inr hy)))
  refine assignInOrder_cons (wpAny_bindName (store_ok I5 hN hi (.inl hx) rv (fun s4 I6 => assignInOrder_nil (wpAny_pure ?_)) (.inr hx)))
  have e : (((σ.set l (some q)).set j (some w)).set i (some v)) = (((σ.set i (some v)).set j (some w)).set l (some q)) := by
    rw [List.set_comm _ _ (Ne.symm hij), List.set_comm _ _ (Ne.symm hil), List.set_comm _ _ (Ne.symm hjl)]
  rw [e] at I6
  exact ⟨_, H1, I6, q1⟩
theorem sm_par3 {i j l : Nat} {x y z : Str} {a b c : Expr} {f : Fp} {px py pz pt : Pos} {kt k2 pt2} (hc : X.calm = true) (hN : X.N.Nodup) (hi : X.N[i]? = some x) (hj : X.N[j]? = some y) (hl : X.N[l]? = some z) (hij : i ≠ j) (hil : i ≠ l) (hjl : j ≠ l)
    (hx : X.env.scope.names.lookup x = some .local) (hy : X.env.scope.names.lookup y = some .local) (hz : X.env.scope.names.lookup z = some .local) (ha : Pn X [a, b, c] f)
    (hw : swappedStores [.Tuple [.Name x px, .Name y py, .Name z pz] kt pt] (.Tuple [a, b, c] k2 pt2) X.env = pure (some [x, y, z]))
    (hs : swapsWithSole [.Tuple [.Name x px, .Name y py, .Name z pz] kt pt] (.Tuple [a, b, c] k2 pt2) pos.line X.env = pure false := by rfl) :
    Sm X (.Assign [.Tuple [.Name x px, .Name y py, .Name z pz] kt pt] (.Tuple [a, b, c] k2 pt2) pos) (sPar [i, j, l] f) := PS.imp (ps_par3 hc hN hi hj hl hij hil hjl hx hy hz ha hw hs) fun D σ H ⟨F, G, δ, fl, δ', S, e, k⟩ => by
  obtain ⟨⟨os, δ1⟩, e1, e2⟩ := Option.bind_eq_some_iff.mp e
  obtain ⟨δ2, e3, e4⟩ := Option.map_eq_some_iff.mp e2
  cases e4
  refine ⟨F, G, δ, os, δ1, S, e1, fun vs ps H1 G1 S1 m1 r1 => ?_⟩
  have hl : vs.length = 3 := by rw [r1.length, ← setAll_length e3]; rfl
  match vs, hl, r1 with
  | [v, w, q], _, r1 => exact ⟨v, w, q, rfl, k _ H1 G1 (Sim.setAll (is := [i, j, l]) (fun a h => S.fresh h) S1 r1 e3) m1.le⟩
end
end L2.Tl

set_option Elab.async false
set_option linter.all false
set_option autoImplicit false
set_option maxRecDepth 100000
namespace L2.Tl
open PySem PySem.Spec PyProof.Rows

/-! ### defs -/
/-- a body, with n further names, as a def of p parameters -/
def runP (p : Nat) (f : Fs) (n : Nat) : Fm := fun args => if args.length = p then runF f n args else none
theorem runP_of {p n : Nat} {f : Fs} {args : List SV} {r : OV × List D} (h : runP p f n args = some r) : args.length = p ∧ runF f n args = some r := by
  unfold runP at h
  split at h
  · exact ⟨by assumption, h⟩
  · cases h
section
variable {P : Program} {w : World} {K : PySem.W.Frag} {mg : Str → Option Value} {base : Heap}
/-- THE RULE for a def: its body computes f -/
theorem def_okM {x qual : Str} {st : Stmt} {a : Addr} {fd : FuncData} {N ps : List Str} {k n : Nat} {f : Fs} {m : Fm} (F : C8.Fun K x qual st a fd) (S : FnScope N ps (C8.fnScope st)) (hn : N.length = ps.length + n)
    (hm : ∀ args r, m args = some r → args.length = ps.length ∧ runF f n args = some r)
    (hbody : ∀ (cdv : Value) (A : Around) (outer : List Env) (s : Shared) (H : Hp) (E : XK), Room k (A.deeper (envOfC qual (C8.fnScope st) s.heap.objs.size a cdv)) →
      Ss (cxOf CX0 P w K mg base N qual (C8.fnScope st) a cdv A outer s H E).nox (C8.fnBody st) f) : FnOk P w K mg base CX0 (k + 1) a fd ps (spT K m) := by
  obtain ⟨oc, od, dV, kV, doc, pm, an, cdv, ct, osl, rfl, lk, hcd⟩ := F.ex
  refine fn_of lk hcd S (fun vs H Q E h => ?_) fun A outer s H vs Q E hr h => ?_
  · obtain ⟨G, args, qs, o, outs, _, hA, _, e, _⟩ := h
    rw [hA.length]
    exact (hm args _ e).1
  · obtain ⟨G, args, qs, o, outs, sb, hA, nd, e, kq⟩ := h
    obtain ⟨hl, e⟩ := hm args _ e
    refine ⟨_, (hbody cdv A outer s H E hr).nox, ?_⟩
    have hst : start N vs = vs.map some ++ List.replicate n none := by
      unfold start
      rw [hA.length, hl, hn, Nat.add_sub_cancel_left]
    rw [hst]
    obtain ⟨⟨fl, δ'⟩, e1, e2⟩ := Option.bind_eq_some_iff.mp e
    refine ⟨⟨H, G, ioOf vs args⟩, G, _, fl, δ', sim_start sb hA nd, e1, ?_⟩
    cases fl with
    | next =>
      obtain ⟨os, e3, e4⟩ := Option.map_eq_some_iff.mp e2
      cases e4
      exact fun σ' H' G' S' l => kq .non H' G' (after_of hA S' l e3) .non
    | brk => cases e2
    | cnt => cases e2
    | ret o' =>
      obtain ⟨os, e3, e4⟩ := Option.map_eq_some_iff.mp e2
      cases e4
      intro v σ' H' G' S' l r
      refine kq v H' G' (after_of hA S' l e3) ?_
      cases o with
      | val d => exact r
      | new d =>
        obtain ⟨p, rfl, a1, a2, a3, _⟩ := r
        exact ⟨p, rfl, a3, a1, a2⟩
theorem def_okP {x qual : Str} {st : Stmt} {a : Addr} {fd : FuncData} {N ps : List Str} {k n : Nat} {f : Fs} (F : C8.Fun K x qual st a fd) (S : FnScope N ps (C8.fnScope st)) (hn : N.length = ps.length + n)
    (hbody : ∀ (cdv : Value) (A : Around) (outer : List Env) (s : Shared) (H : Hp) (E : XK), Room k (A.deeper (envOfC qual (C8.fnScope st) s.heap.objs.size a cdv)) →
      Ss (cxOf CX0 P w K mg base N qual (C8.fnScope st) a cdv A outer s H E).nox (C8.fnBody st) f) : FnOk P w K mg base CX0 (k + 1) a fd ps (spT K (runP ps.length f n)) :=
  def_okM F S hn (fun _ _ h => runP_of h) hbody
theorem Room.hu {k : Nat} {A : Around} (r : Room k A) : A.units + 64 < cLine := by have := r.un; omega
/-- names that the module leaves to the built-ins -/
def NoMg (mg : Str → Option Value) (l : List Str) : Prop := ∀ x ∈ l, mg x = none
end
section
variable {X : Cx} {pos : Pos}
/-- e[::-1] -/
def fRevL (f : Fe) : Fn := fun δ => (f δ).bind fun p => (peek p.1 p.2).bind fun d => match d with
  | .lst ds => some (.new (.lst ds.reverse), p.2)
  | _ => none
theorem en_revL {e : Expr} {f : Fe} {k : Nat} {p1 p2 p3 : Pos} (h : Ev X e f) : En X (.Subscript e (.Slice none none (some (.UnaryOp .USub (.Constant (.int 1) k p1) p2)) p3) pos) (fRevL f) := PE.imp (pe_revL h) fun σ H Q ⟨F, G, δ, o, δ', S, e, kk⟩ => by
  obtain ⟨⟨r, δ1⟩, e1, e⟩ := Option.bind_eq_some_iff.mp e
  obtain ⟨d, e2, e⟩ := Option.bind_eq_some_iff.mp e
  dsimp only at e
  split at e
  · cases e
    refine ⟨F, G, δ, r, _, S, e1, fun v H1 G1 S1 m1 r1 => ?_⟩
    obtain ⟨a, vs, rfl, h1, h2⟩ := (S1.peek r1 e2).lst S1.sub
    refine ⟨a, vs, rfl, .inl h1, fun p hp => ?_⟩
    have E : Ext G1 H1 G1 (upd H1 p (.lst vs.reverse)) := .own S1.sub hp
    exact kk _ _ G1 (S1.ext E) (m1.trans E.mv) ((RepP.toO (o := .new (.lst _)) S1 E ⟨p, rfl, hp, none_of_sub S1.sub hp, .lst upd_same h2.reverse⟩).old m1.dom)
  · cases e
/-! targets of loops -/
theorem tg_nm {i : Nat} {x : Str} (hN : X.N.Nodup) (hi : X.N[i]? = some x) (hx : Loc X.env.scope x) (hf : X.fn x = true ∨ X.env.scope.names.lookup x = some .local := by first | exact .inl rfl | exact .inr rfl | assumption) : PG X (.Name x pos) (tgG X.K (.nm i)) := pg_name hN hi hx hf
theorem tg_tp {es : List Expr} {k : Nat} {is : List Nat} (hc : X.calm = true) (hN : X.N.Nodup) (hg : GNs X es is) (hn : (assignEach es X.env).length = is.length := by rfl) (hst : (assignEach es X.env).findIdx? (·.1) = none := by rfl) : PG X (.Tuple es k pos) (tgG X.K (.tp is)) := pg_tup hc (hg.pgs hN) hn hst
end
section
variable {P : Program} {w : World} {K : PySem.W.Frag} {mg : Str → Option Value} {base : Heap}
/-- a def of the module as the top has made it; dvs: its defaults -/
structure DefD (K : PySem.W.Frag) (mg : Str → Option Value) (x qual : Str) (st : Stmt) (dvs : List V) (f : Addr) (fd : FuncData) : Prop where
  fn : FunD K qual qual (C8.fnArgs st) (C8.fnBody st) (C8.fnScope st) dvs [] f fd
  mgf : mg x = some (.ref f)
theorem DefD.c8 {x qual : Str} {st : Stmt} {dvs : List V} {f : Addr} {fd : FuncData} (D : DefD K mg x qual st dvs f fd) : C8.Fun K qual qual st f fd := by
  obtain ⟨oc, od, dV, kV, doc, pm, an, cdv, ct, osl, h, l, c, _, _⟩ := D.fn.ex
  exact ⟨oc, od, dV, kV, doc, pm, an, cdv, ct, osl, h, l, c⟩
theorem defD_mk {h : Heap} {x qual : Str} {st : Stmt} (X : K.In h) (G : h.Ns mainGlobals mg) {f : Addr} {oc : Value} {od an : Option Addr} {osl : Array (Option Value)} {kV doc pm cdv ct : Value} (a : PySem.W.nsIn K mainGlobals x = some (some (.ref f)))
    (l : K.lookup f = some ⟨oc, od, .func (PySem.W.fnOf qual qual (C8.fnArgs st) (C8.fnBody st) (C8.fnScope st) .none kV doc pm an cdv ct), osl⟩) (c : PySem.W.codeIn K cdv qual = true) (k : PySem.W.keepIn K (.ref f) = true) : ∃ f fd, DefD K mg x qual st [] f fd :=
  ⟨f, _, ⟨⟨oc, od, _, kV, doc, pm, an, cdv, ct, osl, rfl, l, c, .inl ⟨rfl, rfl⟩, .inl rfl⟩, k⟩, PySem.W.mg_of X G a⟩
theorem defD_mk1 {h : Heap} {x qual : Str} {st : Stmt} {dvs : List V} {its : List Value} (X : K.In h) (G : h.Ns mainGlobals mg) {f T : Addr} {o : Obj} {n : Nat} {oc : Value} {od an : Option Addr} {osl : Array (Option Value)} {kV doc pm cdv ct : Value} (a : PySem.W.nsIn K mainGlobals x = some (some (.ref f)))
    (l : K.lookup f = some ⟨oc, od, .func (PySem.W.fnOf qual qual (C8.fnArgs st) (C8.fnBody st) (C8.fnScope st) (.ref T) kV doc pm an cdv ct), osl⟩) (c : PySem.W.codeIn K cdv qual = true) (k : PySem.W.keepIn K (.ref f) = true)
    (hT : K.lookup T = some o) (oT : o.data = .seq its.toArray n) (rT : Vals dvs its) (hd : dvs ≠ []) : ∃ f fd, DefD K mg x qual st dvs f fd :=
  ⟨f, _, ⟨⟨oc, od, _, kV, doc, pm, an, cdv, ct, osl, rfl, l, c, .inr ⟨hd, T, o, its, n, rfl, hT, oT, rT⟩, .inl rfl⟩, k⟩, PySem.W.mg_of X G a⟩
theorem cal_of {x qual : Str} {st : Stmt} {dvs : List V} {ps : List Str} {f : Addr} {fd : FuncData} {k : Nat} {m : Fm} (D : DefD K mg x qual st dvs f fd) (b : Binds K fd ps []) (h : FnOk P w K mg base CX0 k f fd ps (spT K m)) : Cal P w K mg base k x m [] :=
  ⟨f, fd, ps, [], [], h, D.mgf, D.fn.kp, b, .nil, .nil⟩
theorem cal_d {x qual : Str} {st : Stmt} {dvs ws : List V} {ps : List Str} {f : Addr} {fd : FuncData} {k : Nat} {m : Fm} {ds : List D} (D : DefD K mg x qual st dvs f fd) (b : ∃ us, Vals ws us ∧ Binds K fd ps us) (r : ArgD K ws ds) (h : FnOk P w K mg base CX0 k f fd ps (spT K m)) : Cal P w K mg base k x m ds := by
  obtain ⟨us, r1, b⟩ := b
  exact ⟨f, fd, ps, us, ws, h, D.mgf, D.fn.kp, b, r1, r⟩
/-- under another name -/
theorem cal_as {x y qual : Str} {st : Stmt} {dvs : List V} {ps : List Str} {f : Addr} {fd : FuncData} {k : Nat} {m : Fm} (D : DefD K mg x qual st dvs f fd) (hy : mg y = some (.ref f)) (b : Binds K fd ps []) (h : FnOk P w K mg base CX0 k f fd ps (spT K m)) : Cal P w K mg base k y m [] :=
  ⟨f, fd, ps, [], [], h, hy, D.fn.kp, b, .nil, .nil⟩
/-- a promise of less -/
theorem spT_le {g m : Fm} (h : ∀ args r, g args = some r → m args = some r) (vs : List V) (H : Hp) (Q : VK) (E : XK) (q : spT K g vs H Q E) : spT K m vs H Q E := by
  obtain ⟨G, args, ps, o, outs, a, b, c, e, k⟩ := q
  exact ⟨G, args, ps, o, outs, a, b, c, h _ _ e, k⟩
theorem alias_mk {h : Heap} {x y qual : Str} {st : Stmt} {dvs : List V} {f0 : Addr} (X : K.In h) (G : h.Ns mainGlobals mg) (a1 : PySem.W.nsIn K mainGlobals x = some (some (.ref f0))) (a2 : PySem.W.nsIn K mainGlobals y = some (some (.ref f0))) :
    ∀ f fd, DefD K mg x qual st dvs f fd → mg y = some (.ref f) := fun f fd D => by
  have h1 := D.mgf.symm.trans (PySem.W.mg_of X G a1)
  cases h1
  exact PySem.W.mg_of X G a2
theorem noMg_nil : NoMg mg [] := fun x h => by simp at h
theorem noMg_cons {x : Str} {l : List Str} (h : mg x = none) (t : NoMg mg l) : NoMg mg (x :: l) := fun y hy => by
  rcases List.mem_cons.mp hy with rfl | hy
  · exact h
  · exact t y hy
/-- what is never called with arguments that it takes -/
theorem fnOk_none {f : Addr} {fd : FuncData} {ps : List Str} {k : Nat} {m : Fm} (h : ∀ args, m args = none) : FnOk P w K mg base CX0 k f fd ps (spT K m) :=
  ⟨fun vs H Q E ⟨G, args, qs, o, outs, _, _, _, e, _⟩ => (by rw [h args] at e; cases e), fun A outer s H ar us vs Q E hr e0 hb hv ⟨G, args, qs, o, outs, _, _, _, e, _⟩ => (by rw [h args] at e; cases e)⟩
end
end L2.Tl

set_option Elab.async false
set_option linter.all false
set_option autoImplicit false
set_option maxRecDepth 100000
namespace L2.Tl
open PySem PySem.Spec PyProof.Rows

/-! ### a new list of one new object of its own -/
abbrev F1 := Dl → Option (D × Dl)
def tE1 (K : PySem.W.Frag) (f : F1) : TE := fun σ H Q => ∃ F G δ d δ', Sim K F G H σ δ ∧ f δ = some (d, δ') ∧ ∀ a p H' G', Sim K F G' H' σ δ' → Mv σ δ G H δ' G' H' → H a = none → G' a = none → H' a = some (.lst [.ref p]) → Apart σ δ' a → a ≠ p →
  H p = none → G' p = none → Root K G' H' p d → Apart σ δ' p → Q (.ref a) H'
/-- .. as what a def returns -/
def spN (K : PySem.W.Frag) (F : List SV → Option D) : Sp := fun vs H Q _ => ∃ G args d, Sub G H ∧ ArgR K G H vs args [] ∧ F args = some d ∧ ∀ a p H' G', After K G H [] [] G' H' → H a = none → G' a = none → H' a = some (.lst [.ref p]) → a ≠ p → H p = none → G' p = none → Root K G' H' p d → Q (.ref a) H'
def runN (p : Nat) (f : F1) (n : Nat) : List SV → Option D := fun args => if args.length = p then (f (args.map some ++ List.replicate n none)).map (·.1) else none
theorem spN_le {K : PySem.W.Frag} {g m : List SV → Option D} (h : ∀ args r, g args = some r → m args = some r) (vs : List V) (H : Hp) (Q : VK) (E : XK) (q : spN K g vs H Q E) : spN K m vs H Q E := by
  obtain ⟨G, args, d, a, b, e, k⟩ := q
  exact ⟨G, args, d, a, b, h _ _ e, k⟩
theorem apart_new {K : PySem.W.Frag} {F : Fr} {G H : Hp} {σ : St} {δ : Dl} (S : Sim K F G H σ δ) {p : Addr} (h : H p = none) : Apart σ δ p := fun i x d hx r hs => by
  obtain ⟨q, a1, _, a3⟩ := S.root hx r
  rw [hs] at a1; cases a1
  obtain ⟨u, hu⟩ := a3.there
  rw [h] at hu; cases hu
section
variable {P : Program} {w : World} {K : PySem.W.Frag} {mg : Str → Option Value} {base : Heap}
theorem def_okN {x qual : Str} {st : Stmt} {a : Addr} {fd : FuncData} {N ps : List Str} {k n : Nat} {f : F1} (F : C8.Fun K x qual st a fd) (S : FnScope N ps (C8.fnScope st)) (hn : N.length = ps.length + n)
    (hbody : ∀ (cdv : Value) (A : Around) (outer : List Env) (s : Shared) (H : Hp) (E : XK), Room k (A.deeper (envOfC qual (C8.fnScope st) s.heap.objs.size a cdv)) →
      PSs (cxOf CX0 P w K mg base N qual (C8.fnScope st) a cdv A outer s H E).nox (C8.fnBody st) (fun D σ H => tE1 K f σ H D.rt)) : FnOk P w K mg base CX0 (k + 1) a fd ps (spN K (runN ps.length f n)) := by
  obtain ⟨oc, od, dV, kV, doc, pm, an, cdv, ct, osl, rfl, lk, hcd⟩ := F.ex
  refine fn_of lk hcd S (fun vs H Q E h => ?_) fun A outer s H vs Q E hr h => ?_
  · obtain ⟨G, args, d, _, hA, e, _⟩ := h
    rw [hA.length]
    unfold runN at e
    split at e
    · assumption
    · cases e
  · obtain ⟨G, args, d, sb, hA, e, kq⟩ := h
    unfold runN at e
    split at e
    · rename_i hl
      refine ⟨_, (hbody cdv A outer s H E hr).nox, ?_⟩
      have hst : start N vs = vs.map some ++ List.replicate n none := by
        unfold start
        rw [hA.length, hl, hn, Nat.add_sub_cancel_left]
      rw [hst]
      obtain ⟨⟨d', δ'⟩, e1, e2⟩ := Option.map_eq_some_iff.mp e
      cases e2
      refine ⟨⟨H, G, ioOf vs args⟩, G, _, _, δ', sim_start sb hA (by simp), e1, fun b p H' G' S' m h1 h2 h3 _ h4 h5 h6 h7 _ => ?_⟩
      have hout : ∀ {as : List SV} {vs : List V}, ArgR K G H vs as [] → ∀ i q, ioOf vs as i ≠ some q := fun {as vs} hA i q z => by
        have := (hA.io q).mpr ⟨i, z⟩
        simp at this
      exact kq b p H' G' ⟨m.le, S'.sub, S'.new, fun c o hc _ => S'.fr c o hc (fun i => hout hA i c), .nil⟩ h1 h2 h3 h4 h5 h6 h7
    · cases e
/-- a def that makes this promise, called by its name -/
structure CalN (P : Program) (w : World) (K : PySem.W.Frag) (mg : Str → Option Value) (base : Heap) (k : Nat) (x : Str) (Fd : List SV → Option D) : Prop where
  ex : ∃ (f : Addr) (fd : FuncData) (ps : List Str), FnOk P w K mg base CX0 k f fd ps (spN K Fd) ∧ mg x = some (.ref f) ∧ PySem.W.keepIn K (.ref f) = true ∧ Binds K fd ps []
end
section
variable {X : Cx} {k j i : Nat} {x y : Str} {Fd : List SV → Option D} {p pos : Pos} {e : Expr} {es : List Expr} {fa : Fa}
def f1Call (F : List SV → Option D) (fa : Fa) : F1 := fun δ => (fa δ).bind fun p => (F (p.1.map .fz)).map fun d => (d, p.2)
theorem e1_call (c : CalN X.prog X.w X.K X.mg X.base k x Fd) (hr : Room j X.A) (hk : k ≤ j) (hg : Gl X x) (ha : Ar X (e :: es) fa)
    (hdb : (x == ("__debug__" : Str)) = false := by decide) (he : starEach (e :: es) X.env = (false, eval e X.env) :: starEach es X.env := by rfl) (hpl : (backTo pos (starEach es X.env)).any (·.1) = false := by rfl) :
    PE X (.Call (.Name x p) (e :: es) [] pos) (tE1 X.K (f1Call Fd fa)) := by
  obtain ⟨f, fd, ps, F, hm, kp, b⟩ := c.ex
  refine PE.imp (pe_call F (hr.mono hk) hg hm kp b .nil pass0 ha hdb he hpl) fun σ H Q ⟨F, G, δ, d, δ', S, e, k⟩ => ?_
  obtain ⟨⟨as, δ1⟩, e1, e2⟩ := Option.bind_eq_some_iff.mp e
  obtain ⟨d', e3, e4⟩ := Option.map_eq_some_iff.mp e2
  cases e4
  refine ⟨F, G, δ, as, _, S, e1, fun vs H1 G1 S1 m1 r1 => ⟨G1, as.map .fz, d, S1.sub, by rw [List.append_nil]; exact ArgR.fzs r1, e3, fun a q H' G' A h1 h2 h3 h4 h5 h6 h7 => ?_⟩⟩
  have S2 := S1.after_apart A (fun p hp => by simp at hp)
  have mv : Mv σ δ1 G1 H1 δ1 G' H' := by
    refine ⟨A.le, fun c u hu gu au => ⟨?_, A.none gu hu, au⟩, fun c hc => ?_⟩
    · rcases A.fr c u hu (by simp) with z | ⟨_, z, _⟩
      · exact z
      · rw [gu] at z; cases z
    · cases z : H1 c with
      | none => rfl
      | some u =>
        rcases A.fr c u z (by simp) with y | ⟨_, _, od, y⟩
        · rw [hc] at y; cases y
        · rw [hc] at y; cases y
  exact k a q H' G' S2 (m1.trans mv) (m1.dom a h1) h2 h3 (apart_new S1 h1) h4 (m1.dom q h5) h6 h7 (apart_new S1 h5)
/-- for y in e: one turn, with the object as the frame's own -/
def sFor1 (i : Nat) (f : F1) (fb : Fs) : Fs := fun δ => (f δ).bind fun p => (fb (p.2.set i (some (.own p.1)))).bind fun q => match q.1 with
  | .ret o => some (.ret o, q.2)
  | _ => some (.next, q.2)
theorem sm_for1 {f : F1} {fb : Fs} {body : List Stmt} {npos : Pos} (hp : PassesOwn (model X.prog X.w) X.A X.env X.xe) (hc : X.calm = true) (hi : PE X e (tE1 X.K f)) (hg : PG X (.Name y npos) (gName i)) (hb : Ss X body fb)
    (hs : ∀ x, foldedSetIterable e X.env x = pure x := by intro _; rfl) : Sm X (.For (.Name y npos) e body [] pos) (sFor1 i f fb) := PS.imp (ps_for hp hc (pi_list hi) hg hb hs) fun Z σ H ⟨F, G, δ, fl, δ', S, e, k⟩ => by
  obtain ⟨⟨d, δ1⟩, e1, e2⟩ := Option.bind_eq_some_iff.mp e
  obtain ⟨⟨fl1, δ2⟩, e3, e4⟩ := Option.bind_eq_some_iff.mp e2
  refine ⟨F, G, δ, d, δ1, S, e1, fun a q H1 G1 S1 m1 ha ga ha1 apa ne hq gq rq apq => ?_⟩
  have h0a := S.fresh ha
  have S2 := S1.freeze ga ha1 h0a apa
  have l2 : Sub G1 (upd G1 a (.lst [.ref q])) := sub_upd ga
  have gq2 : upd G1 a (.lst [.ref q]) q = none := (upd_ne (Ne.symm ne)).trans gq
  have S3 := S2.setOwn gq2 (rq.mono l2.le rfl) (S.fresh hq) apq i
  have rd : Rd (upd G1 a (.lst [.ref q])) a (.lst [.ref q]) := .inl upd_same
  have sq : ∀ {G' H'}, Le (upd G1 a (.lst [.ref q])) G' → Sub G' H' → SqL X.K H' a [.ref q] := fun l s => .inl (s.le.rd _ _ (l.rd _ _ rd))
  refine ⟨a, rfl, ⟨_, sq (.refl _) S2.sub⟩, fun i' m σ' H' => (i' = 0 ∧ m = 1 ∧ σ' = σ ∧ H' = H1) ∨ (i' = 1 ∧ m = 0 ∧ SqL X.K H' a [.ref q] ∧ Z.nx σ' H'), ⟨1, .inl ⟨rfl, rfl, rfl, rfl⟩⟩, ?_⟩
  rintro i' m σ' H' (⟨rfl, rfl, rfl, rfl⟩ | ⟨rfl, rfl, sq', nx⟩)
  · refine .inr ⟨⟨[.ref q], .ref q, sq (.refl _) S2.sub, rfl⟩, fun σ' H' => SqL X.K H' a [.ref q] ∧ Z.nx σ' H', fun σ' H' z => ⟨0, by decide, .inr ⟨rfl, rfl, z.1, z.2⟩⟩, fun v H2 yy => ?_⟩
    obtain ⟨e5, e6⟩ := yy
    subst e5
    have ev := e6 _ (sq (.refl _) S2.sub)
    cases ev
    refine ⟨F, _, _, fl1, δ2, S3, e3, ?_⟩
    have lz : Le G (upd G1 a (.lst [.ref q])) := m1.le.trans l2.le
    cases fl1 with
    | next => cases e4; exact fun σ5 H5 G5 S5 l5 => ⟨sq l5 S5.sub, k σ5 H5 G5 S5 (lz.trans l5)⟩
    | cnt => cases e4; exact fun σ5 H5 G5 S5 l5 => ⟨sq l5 S5.sub, k σ5 H5 G5 S5 (lz.trans l5)⟩
    | brk => cases e4; exact fun σ5 H5 G5 S5 l5 => k σ5 H5 G5 S5 (lz.trans l5)
    | ret o => cases e4; exact fun v σ5 H5 G5 S5 l5 r5 => k v σ5 H5 G5 S5 (lz.trans l5) r5
  · exact .inl ⟨⟨_, sq', Nat.le_refl _⟩, nx⟩
/-- [e for t in ..], one turn, e a new object -/
def f1Lc (vs : List Nat) (fi : Fi) (t : Tg) (f : Fn) : F1 := fun δ => (fi δ).bind fun p => if plainAt vs p.2 = true then match p.1 with
  | [d] => (tgSet t d (wipeD vs p.2)).bind fun δ1 => (f δ1).bind fun q => match q.1 with
    | .new r => some (r, mixD vs p.2 (wipeD vs q.2))
    | _ => none
  | _ => none
  else none
theorem lc1_imp {K : PySem.W.Frag} {vs : List Nat} {fi : Fi} {t : Tg} {f : Fn} {σ : St} {H : Hp} {Q : VK} (ht : ∀ i ∈ t.ix, i ∈ vs) (h : tE1 K (f1Lc vs fi t f) σ H Q) : tLc (tIt K fi) (tgG K t) (tTs K fYes) (tEn K f) vs σ H Q := by
  obtain ⟨F, G, δ, d, δ', S, e, k⟩ := h
  obtain ⟨⟨ds, δ1⟩, e1, e⟩ := Option.bind_eq_some_iff.mp e
  dsimp only at e
  split at e
  case isFalse => cases e
  rename_i hpl
  split at e
  case h_2 => cases e
  rename_i d0
  obtain ⟨δ2, e2, e⟩ := Option.bind_eq_some_iff.mp e
  obtain ⟨⟨o, δ3⟩, e3, e⟩ := Option.bind_eq_some_iff.mp e
  dsimp only at e
  split at e
  case h_2 => cases e
  cases e
  refine ⟨F, G, δ, [d0], δ1, S, e1, fun J H1 G1 S1 m1 Y D hD => ?_⟩
  have hg1 : G1 D = none := none_of_sub S1.sub hD
  have apD := apart_new S1 hD
  have E1 : Tl.Ext G1 H1 G1 (upd H1 D (.lst [])) := .own S1.sub hD
  have Sw := (S1.ext E1).wipe vs
  have gD1 : G1 D = none := hg1
  refine ⟨fun i m H => (i = 0 ∧ m = 1 ∧ H = upd H1 D (.lst [])) ∨ (i = 1 ∧ m = 0 ∧ J.stop 1 H ∧ Q (.ref D) H), ⟨1, .inl ⟨rfl, rfl, rfl⟩⟩, ?_⟩
  rintro i m H2 (⟨rfl, rfl, rfl⟩ | ⟨rfl, rfl, st, q⟩)
  · refine .inr ⟨Y.goes 0 G1 _ (by simp) (.refl _) Sw.sub, fun H => J.stop 1 H ∧ Q (.ref D) H, fun H' z => ⟨0, by decide, .inr ⟨rfl, rfl, z.1, z.2⟩⟩, fun x H3 y => ?_⟩
    obtain ⟨d', G3, hd, E, rx⟩ := Y.ylds 0 G1 _ x H3 (by simp) (.refl _) Sw.sub y
    have hd' : d' = d0 := by simpa using hd.symm
    subst hd'
    have S3 := Sw.ext E
    refine tg_of S3 rx e2 fun σ4 S4 hw hap => ⟨(hw vs ht).trans (wipe_wipe σ vs), ?_⟩
    have hw' : wipe σ4 vs = wipe σ vs := (hw vs ht).trans (wipe_wipe σ vs)
    refine ⟨F, G3, δ2, true, δ2, S4, rfl, fun H5 G5 S5 m5 => ?_⟩
    show if true = true then _ else _
    rw [if_pos rfl]
    refine ⟨F, G5, δ2, _, _, S5, e3, fun v H6 G6 S6 m6 r6 => ?_⟩
    obtain ⟨p, rfl, gp, rp, hp, app⟩ := r6
    have mE : Mv (wipe σ vs) (wipeD vs δ1) G1 (upd H1 D (.lst [])) (wipeD vs δ1) G3 H3 := E.mv
    have kp : ∀ a u, (upd H1 D (.lst [])) a = some u → G1 a = none → Apart σ δ1 a → H6 a = some u ∧ G6 a = none ∧ Apart σ4 δ3 a := fun a u h g ap => by
      obtain ⟨h1, g1, ap1⟩ := mE.stay a u h g (apart_wipe vs ap)
      obtain ⟨h2, g2, ap2⟩ := (m5.trans m6).stay a u h1 g1 (hap a ap1)
      exact ⟨h2, g2, ap2⟩
    obtain ⟨hD6, gD6, aD6⟩ := kp D _ upd_same hg1 apD
    have pD : D ≠ p := fun z => by
      subst z
      have h5 : H3 D = some (.lst []) := E.hh D _ upd_same
      have g3 : G3 D = none := E.none hg1 upd_same
      have := (m5.stay D _ h5 g3 (hap D (apart_wipe vs apD))).1
      rw [hp] at this; cases this
    have hp1 : (upd H1 D (.lst [])) p = none := by
      cases z : (upd H1 D (.lst [])) p with
      | none => rfl
      | some u =>
        have h3 := E.hh p u z
        have := m5.dom p hp
        rw [h3] at this; cases this
    have hp1' : H1 p = none := by rw [upd_ne (Ne.symm pD)] at hp1; exact hp1
    have ne : ∀ {a : Addr} {u : HO}, H1 a = some u → a ≠ D := fun {a u} h z => by rw [z, hD] at h; cases h
    have S7 := S6.wipe vs
    rw [hw'] at S7
    have apD7 : Apart (wipe σ vs) (wipeD vs δ3) D := hw' ▸ apart_wipe vs aD6
    have S8 : Sim K F G6 (upd H6 D (.lst [.ref p])) (wipe σ vs) (wipeD vs δ3) := S7.away gD6 apD7 (S1.fresh hD)
    have l16 : Le G1 G6 := E.gg.le.trans (m5.le.trans m6.le)
    have lw : δ1.length = (wipeD vs δ3).length := by rw [← S1.len, ← S7.len, wipe_length]
    have S9 := S1.mix S8 l16 hpl
    refine ⟨[], hD6, by rw [sizeLine_eq]; decide, Y.stops G6 _ l16 S8.sub, ?_⟩
    refine k D p _ G6 S9 (m1.trans ⟨l16, fun a u h g ap => ?_, fun a ha => ?_⟩) (m1.dom D hD) gD6 upd_same (apart_mix lw apD7 hpl) pD (m1.dom p hp1') gp (rp.mono (.refl _) (upd_ne (Ne.symm pD))) (apart_mix lw (hw' ▸ apart_wipe vs app) hpl)
    · obtain ⟨h2, g2, ap2⟩ := kp a u ((upd_ne (ne h)).trans h) g ap
      exact ⟨(upd_ne (ne h)).trans h2, g2, apart_mix lw (hw' ▸ apart_wipe vs ap2) hpl⟩
    · by_cases z : a = D
      · subst z; exact hD
      · rw [upd_ne z] at ha
        have h3 := mE.dom a ((m5.trans m6).dom a ha)
        rw [upd_ne z] at h3
        exact h3
  · exact .inl ⟨st, q⟩
theorem e1_lc {elt tg iter : Expr} {scope : Scope} {own : List (Str × Nat)} {fi : Fi} {t : Tg} {f : Fn} (hc : X.calm = true) (hN : X.N.Nodup) (hi : Ii X tg iter fi) (ok : BlkOk X.N X.env.scope scope own)
    (hg : ∀ (s : Shared) (H : Hp) (C : Addr) (cl : List (Str × Addr)) (fp : List Addr), PG (X.blk s H scope (compEnvC scope cl C X.env) fp) tg (tgG X.K t))
    (he : ∀ (s : Shared) (H : Hp) (C : Addr) (cl : List (Str × Addr)) (fp : List Addr), En (X.blk s H scope (compEnvC scope cl C X.env) fp) elt f)
    (hix : ∀ i ∈ t.ix, i ∈ own.map (·.2) := by decide) (hs : ∀ x, foldedSetIterable iter X.env x = pure x := by intro _; rfl) :
    PE X (.ListComp elt [⟨tg, iter, [], 0⟩] scope pos) (tE1 X.K (f1Lc (own.map (·.2)) fi t f)) := PE.imp (pe_lc (tt := tTs X.K fYes) (te := tEn X.K f) hc hN hi ok hg (fun _ _ _ _ _ => ptsT_nil) he hs) fun σ H Q h => lc1_imp hix h
end
end L2.Tl

set_option Elab.async false
set_option linter.all false
set_option autoImplicit false
set_option maxRecDepth 100000
namespace L2.Tl
open PySem PySem.Spec PyProof.Rows

/-! ### a list of the frame's own whose items the frame may change, too -/
inductive Kid where
  | ex (d : D) | fr (d : D)
def Kid.d : Kid → D
  | .ex d => d
  | .fr d => d
structure Kids (K : PySem.W.Frag) (F : Fr) (G H : Hp) (σ : St) (δ : Dl) (p : Addr) (vs : List V) (κ : List Kid) : Prop where
  len : vs.length = κ.length
  fr : ∀ (j : Nat) (d : D), κ[j]? = some (Kid.fr d) → ∃ v, vs[j]? = some v ∧ Rep K G v d
  ex : ∀ (j : Nat) (d : D), κ[j]? = some (Kid.ex d) → ∃ q, vs[j]? = some (V.ref q) ∧ G q = none ∧ Root K G H q d ∧ F.H0 q = none ∧ Apart σ δ q ∧ q ≠ p
  inj : ∀ (i j : Nat) (d e : D) (q : Addr), κ[i]? = some (Kid.ex d) → κ[j]? = some (Kid.ex e) → vs[i]? = some (V.ref q) → vs[j]? = some (V.ref q) → i = j
structure SimN (K : PySem.W.Frag) (F : Fr) (G H : Hp) (σ : St) (δ : Dl) (r : Nat) (κ : List Kid) : Prop where
  sim : Sim K F G H σ δ
  no : δ[r]? = some none
  ls : ∃ p vs, σ[r]? = some (some (V.ref p)) ∧ H p = some (.lst vs) ∧ G p = none ∧ F.H0 p = none ∧ Apart σ δ p ∧ Kids K F G H σ δ p vs κ
def noAt (r : Nat) (δ : Dl) : Bool := match δ[r]? with
  | some none => true
  | _ => false
theorem noAt_of {r : Nat} {δ : Dl} (h : noAt r δ = true) : δ[r]? = some none := by
  unfold noAt at h
  split at h
  · assumption
  · cases h
section
variable {K : PySem.W.Frag} {F : Fr} {G H G' H' : Hp} {σ σ' : St} {δ δ' : Dl} {p : Addr} {vs : List V} {κ : List Kid} {r : Nat}
theorem Kids.mv (k : Kids K F G H σ δ p vs κ) (m : Mv σ δ G H δ' G' H') : Kids K F G' H' σ δ' p vs κ := by
  refine ⟨k.len, fun j d h => ?_, fun j d h => ?_, k.inj⟩
  · obtain ⟨v, a, b⟩ := k.fr j d h
    exact ⟨v, a, b.mono m.le⟩
  · obtain ⟨q, a, b, c, e, f, g⟩ := k.ex j d h
    obtain ⟨o, ho⟩ := c.there
    obtain ⟨h1, h2, h3⟩ := m.stay q o ho b f
    exact ⟨q, a, h2, c.mono m.le (h1.trans ho.symm), e, h3, g⟩
theorem Kids.re (k : Kids K F G H σ δ p vs κ) (h : ∀ q, Apart σ δ q → Apart σ' δ' q) : Kids K F G H σ' δ' p vs κ := by
  refine ⟨k.len, k.fr, fun j d hj => ?_, k.inj⟩
  obtain ⟨q, a, b, c, e, f, g⟩ := k.ex j d hj
  exact ⟨q, a, b, c, e, h q f, g⟩
theorem Kids.upd (k : Kids K F G H σ δ p vs κ) (o : HO) : Kids K F G (upd H p o) σ δ p vs κ := by
  refine ⟨k.len, k.fr, fun j d hj => ?_, k.inj⟩
  obtain ⟨q, a, b, c, e, f, g⟩ := k.ex j d hj
  exact ⟨q, a, b, c.mono (.refl _) (upd_ne g), e, f, g⟩
theorem SimN.mv (S : SimN K F G H σ δ r κ) (S' : Sim K F G' H' σ δ') (m : Mv σ δ G H δ' G' H') (h : noAt r δ' = true) : SimN K F G' H' σ δ' r κ := by
  obtain ⟨p, vs, a, b, c, e, f, g⟩ := S.ls
  obtain ⟨h1, h2, h3⟩ := m.stay p _ b c f
  exact ⟨S', noAt_of h, p, vs, a, h1, h2, e, h3, g.mv m⟩
/-- targets that are not the list's own name -/
theorem SimN.tg {t : Tg} {x : V} {d : D} {Q : St → Hp → Prop} (S : SimN K F G H σ δ r κ) (rx : Rep K G x d) (e : tgSet t d δ = some δ') (hr : r ∉ t.ix) (h : noAt r δ' = true) (k : ∀ σ', SimN K F G H σ' δ' r κ → Q σ' H) : tgG K t x σ H Q :=
  tg_of S.sim rx e fun σ' S' hw hap => by
    obtain ⟨p, vs, a, b, c, e, f, g⟩ := S.ls
    refine k σ' ⟨S', noAt_of h, p, vs, ?_, b, c, e, hap p f, g.re hap⟩
    rw [← a, ← wipe_out (σ := σ') hr, ← wipe_out (σ := σ) hr, hw t.ix fun i hi => hi]
/-- an item let go -/
theorem SimN.give (S : SimN K F G H σ δ r κ) {j : Nat} {kid : Kid} (hj : κ[j]? = some kid) : ∃ G', SimN K F G' H σ δ r (κ.set j (.fr kid.d)) ∧ Le G G' ∧ ∀ p vs v, σ[r]? = some (some (V.ref p)) → H p = some (.lst vs) → vs[j]? = some v → Rep K G' v kid.d := by
  obtain ⟨p, vs, a, b, c, e, f, g⟩ := S.ls
  have hl : j < κ.length := (List.getElem?_eq_some_iff.mp hj).1
  have same : ∀ {i : Nat} {x : Kid}, (κ.set j (.fr kid.d))[i]? = some x → (i = j ∧ x = .fr kid.d) ∨ (i ≠ j ∧ κ[i]? = some x) := fun {i x} h => by
    by_cases n : i = j
    · subst n
      rw [List.getElem?_set_self hl] at h
      exact .inl ⟨rfl, (Option.some.inj h).symm⟩
    · rw [List.getElem?_set_ne (Ne.symm n)] at h
      exact .inr ⟨n, h⟩
  cases kid with
  | fr d =>
    refine ⟨G, ?_, .refl _, fun p' vs' v h1 h2 h3 => ?_⟩
    · have : κ.set j (.fr d) = κ := List.ext_getElem? fun i => by
        by_cases n : i = j
        · subst n; rw [List.getElem?_set_self hl, hj]
        · rw [List.getElem?_set_ne (Ne.symm n)]
      rw [show (Kid.fr d).d = d from rfl, this]; exact S
    · rw [a] at h1; cases h1
      rw [b] at h2; cases h2
      obtain ⟨w, h4, h5⟩ := g.fr j d hj
      rw [h3] at h4; cases h4
      exact h5
  | ex d =>
    obtain ⟨q, a1, b1, c1, e1, f1, g1⟩ := g.ex j d hj
    obtain ⟨o, ho⟩ := c1.there
    have sg : Sub G (upd G q o) := sub_upd b1
    refine ⟨upd G q o, ⟨S.sim.freeze b1 ho e1 f1, S.no, p, vs, a, b, (upd_ne (Ne.symm g1)).trans c, e, f, by rw [List.length_set]; exact g.len, fun i x h => ?_, fun i x h => ?_, fun i i' x y q' h h' hv hv' => ?_⟩, sg.le, fun p' vs' v h1 h2 h3 => ?_⟩
    · rcases same h with ⟨rfl, hx⟩ | ⟨n, h⟩
      · cases hx
        exact ⟨_, a1, c1.rep sg.le ho upd_same⟩
      · obtain ⟨v, h1, h2⟩ := g.fr i x h
        exact ⟨v, h1, h2.mono sg.le⟩
    · rcases same h with ⟨rfl, hx⟩ | ⟨n, h⟩
      · cases hx
      · obtain ⟨q', a2, b2, c2, e2, f2, g2⟩ := g.ex i x h
        have nq : q' ≠ q := fun z => n (g.inj i j x d q h hj (z ▸ a2) a1)
        exact ⟨q', a2, (upd_ne nq).trans b2, c2.mono sg.le rfl, e2, f2, g2⟩
    · rcases same h with ⟨_, hx⟩ | ⟨_, h⟩
      · cases hx
      · rcases same h' with ⟨_, hx⟩ | ⟨_, h'⟩
        · cases hx
        · exact g.inj i i' x y q' h h' hv hv'
    · rw [a] at h1; cases h1
      rw [b] at h2; cases h2
      rw [a1] at h3; cases h3
      exact c1.rep sg.le ho upd_same
/-- all items let go, then the list -/
theorem SimN.all (S : SimN K F G H σ δ r κ) : ∃ G' p, Sim K F G' H σ δ ∧ Le G G' ∧ σ[r]? = some (some (V.ref p)) ∧ Rep K G' (.ref p) (.lst (κ.map Kid.d)) := by
  have key : ∀ n, n ≤ κ.length → ∃ G' κ', SimN K F G' H σ δ r κ' ∧ Le G G' ∧ κ'.map Kid.d = κ.map Kid.d ∧ κ'.length = κ.length ∧ ∀ j, j < n → ∃ d, κ'[j]? = some (.fr d) := fun n => by
    induction n with
    | zero => exact fun _ => ⟨G, κ, S, .refl _, rfl, rfl, fun j h => absurd h (Nat.not_lt_zero _)⟩
    | succ n ih =>
      intro hn
      obtain ⟨G1, κ1, S1, l1, m1, e1, f1⟩ := ih (Nat.le_of_succ_le hn)
      have hlt : n < κ1.length := by omega
      obtain ⟨G2, S2, l2, _⟩ := S1.give (List.getElem?_eq_getElem hlt)
      refine ⟨G2, _, S2, l1.trans l2, ?_, by rw [List.length_set]; exact e1, fun j hj => ?_⟩
      · rw [← m1]
        refine List.ext_getElem? fun i => ?_
        rw [List.getElem?_map, List.getElem?_map]
        by_cases z : i = n
        · subst z
          rw [List.getElem?_set_self hlt, List.getElem?_eq_getElem hlt]; rfl
        · rw [List.getElem?_set_ne (Ne.symm z)]
      · by_cases z : j = n
        · subst z
          exact ⟨_, List.getElem?_set_self hlt⟩
        · rw [List.getElem?_set_ne (Ne.symm z)]
          exact f1 j (by omega)
  obtain ⟨G1, κ1, S1, l1, m1, e1, f1⟩ := key κ.length (Nat.le_refl _)
  obtain ⟨p, vs, a, b, c, e, f, g⟩ := S1.ls
  have rl : ∀ {vs : List V} {κ : List Kid}, vs.length = κ.length → (∀ j, j < κ.length → ∃ d v, κ[j]? = some (Kid.fr d) ∧ vs[j]? = some v ∧ Rep K G1 v d) → RepL K G1 vs (κ.map Kid.d) := fun {vs} => by
    induction vs with
    | nil => intro κ h _; cases κ with
      | nil => exact .nil
      | cons _ _ => cases h
    | cons v vs ih => intro κ h k; cases κ with
      | nil => cases h
      | cons x κ =>
        obtain ⟨d, w, h1, h2, h3⟩ := k 0 (by simp)
        simp only [List.getElem?_cons_zero, Option.some.injEq] at h1 h2
        subst h1; subst h2
        refine .cons h3 (ih (by simpa using h) fun j hj => ?_)
        obtain ⟨d', w', a1, a2, a3⟩ := k (j + 1) (by simpa using hj)
        exact ⟨d', w', by simpa using a1, by simpa using a2, a3⟩
  have rvs := rl g.len fun j hj => by
    obtain ⟨d, hd⟩ := f1 j (by omega)
    obtain ⟨v, h1, h2⟩ := g.fr j d hd
    exact ⟨d, v, hd, h1, h2⟩
  refine ⟨upd G1 p (.lst vs), p, S1.sim.freeze c b e f, l1.trans (sub_upd c).le, a, ?_⟩
  rw [← m1]
  exact .lst (.inl upd_same) (rvs.mono (sub_upd c).le)
end

/-! ### the judgements -/
abbrev FsN := Dl → List Kid → Option (Fl × Dl × List Kid)
def tStN (K : PySem.W.Frag) (r : Nat) (f : FsN) : TS := fun D σ H => ∃ F G δ κ fl δ' κ', SimN K F G H σ δ r κ ∧ f δ κ = some (fl, δ', κ') ∧ match fl with
  | .next => ∀ σ' H' G', SimN K F G' H' σ' δ' r κ' → Le G G' → D.nx σ' H'
  | .brk => ∀ σ' H' G', SimN K F G' H' σ' δ' r κ' → Le G G' → D.bk σ' H'
  | .cnt => ∀ σ' H' G', SimN K F G' H' σ' δ' r κ' → Le G G' → D.ct σ' H'
  | .ret _ => False
def SmN (X : Cx) (r : Nat) (st : Stmt) (f : FsN) : Prop := PS X st (tStN X.K r f)
def SsN (X : Cx) (r : Nat) (st : List Stmt) (f : FsN) : Prop := PSs X st (tStN X.K r f)
def nNext : FsN := fun δ κ => some (.next, δ, κ)
def nSeq (f g : FsN) : FsN := fun δ κ => (f δ κ).bind fun p => match p.1 with
  | .next => g p.2.1 p.2.2
  | _ => some p
def nIf (c : Ft) (r : Nat) (a b : FsN) : FsN := fun δ κ => (c δ).bind fun p => if noAt r p.2 = true then (if p.1 = true then a p.2 κ else b p.2 κ) else none
/-- x = e, a, b = e -/
def nAsg (r : Nat) (t : Tg) (f : Fe) : FsN := fun δ κ => (f δ).bind fun p => (esc p.1 p.2).bind fun q => if noAt r q.2 = true then (tgSet t q.1 q.2).bind fun δ' => if noAt r δ' = true then some (.next, δ', κ) else none else none
/-- x = rows[e] -/
def nLoad (r i : Nat) (f : Fe) : FsN := fun δ κ => (f δ).bind fun p => if noAt r p.2 = true then (peek p.1 p.2).bind fun z => match z with
  | .int z => (ixN κ.length z).bind fun j => (κ[j]?).map fun kid => (.next, p.2.set i (some (.fz kid.d)), κ.set j (.fr kid.d))
  | _ => none
  else none
/-- rows[e1][e2] = e3 -/
def nSto2 (r : Nat) (f1 f2 f3 : Fe) : FsN := fun δ κ => (f3 δ).bind fun p => (esc p.1 p.2).bind fun q => if noAt r q.2 = true then (f1 q.2).bind fun p1 => if noAt r p1.2 = true then (peek p1.1 p1.2).bind fun z => match z with
    | .int z => (ixN κ.length z).bind fun j => match κ[j]? with
      | some (.ex _) => (f2 p1.2).bind fun p2 => if noAt r p2.2 = true then (peek p2.1 p2.2).bind fun y => match κ[j]? with
        | some (.ex d) => (dSto d y q.1).map fun d' => (.next, p2.2, κ.set j (.ex d'))
        | _ => none
        else none
      | _ => none
    | _ => none
    else none
  else none
/-- rows[e1] = e2 -/
def nSto1 (r : Nat) (f1 f2 : Fe) : FsN := fun δ κ => (f2 δ).bind fun p => (esc p.1 p.2).bind fun q => if noAt r q.2 = true then (f1 q.2).bind fun p1 => if noAt r p1.2 = true then (peek p1.1 p1.2).bind fun z => match z with
    | .int z => (ixN κ.length z).map fun j => (.next, p1.2, κ.set j (.fr q.1))
    | _ => none
    else none
  else none
def loopN (r : Nat) (t : Tg) (body : FsN) : List D → Dl → List Kid → Option (Fl × Dl × List Kid)
  | [], δ, κ => some (.next, δ, κ)
  | d :: ds, δ, κ => (tgSet t d δ).bind fun δ1 => if noAt r δ1 = true then (body δ1 κ).bind fun p => match p.1 with
    | .next => loopN r t body ds p.2.1 p.2.2
    | .cnt => loopN r t body ds p.2.1 p.2.2
    | .brk => some (.next, p.2)
    | .ret o => none
    else none
def nFor (r : Nat) (t : Tg) (fi : Fi) (body : FsN) : FsN := fun δ κ => (fi δ).bind fun p => if noAt r p.2 = true then loopN r t body p.1 p.2 κ else none
section
variable {X : Cx} {r i : Nat} {pos pos' npos : Pos} {x y : Str} {e ix : Expr}
theorem ssN_nil : SsN X r [] nNext := PSs.imp pss_nil fun D σ H ⟨F, G, δ, κ, fl, δ', κ', S, e, k⟩ => by
  cases e
  exact k σ H G S (.refl _)
theorem ssN_one {st : Stmt} {f : FsN} (h : SmN X r st f) : SsN X r [st] f := pss_one h
theorem ssN_cons {st : Stmt} {rest : List Stmt} {f g : FsN} (h : SmN X r st f) (hr : SsN X r rest g) : SsN X r (st :: rest) (nSeq f g) := PSs.imp (pss_cons h hr) fun D σ H ⟨F, G, δ, κ, fl, δ', κ', S, e, k⟩ => by
  obtain ⟨⟨fl1, δ1, κ1⟩, e1, e2⟩ := Option.bind_eq_some_iff.mp e
  refine ⟨F, G, δ, κ, fl1, δ1, κ1, S, e1, ?_⟩
  cases fl1 with
  | next =>
    dsimp only at e2
    intro σ1 H1 G1 S1 l1
    refine ⟨F, G1, δ1, κ1, fl, δ', κ', S1, e2, ?_⟩
    cases fl with
    | next => exact fun σ2 H2 G2 S2 l2 => k σ2 H2 G2 S2 (l1.trans l2)
    | brk => exact fun σ2 H2 G2 S2 l2 => k σ2 H2 G2 S2 (l1.trans l2)
    | cnt => exact fun σ2 H2 G2 S2 l2 => k σ2 H2 G2 S2 (l1.trans l2)
    | ret o => exact k
  | brk => cases e2; exact k
  | cnt => cases e2; exact k
  | ret o => cases e2; exact k
theorem smN_if {c : Expr} {a b : List Stmt} {fc : Ft} {fa fb : FsN} (hc : Ts X c fc) (ha : SsN X r a fa) (hb : SsN X r b fb) : SmN X r (.If c a b pos) (nIf fc r fa fb) := PS.imp (ps_if hc ha hb) fun D σ H ⟨F, G, δ, κ, fl, δ', κ', S, e, k⟩ => by
  obtain ⟨⟨b0, δ1⟩, e1, e2⟩ := Option.bind_eq_some_iff.mp e
  dsimp only at e2
  split at e2
  case isFalse => cases e2
  rename_i hn
  refine ⟨F, G, δ, b0, δ1, S.sim, e1, fun H1 G1 S1 m1 => ?_⟩
  have S2 := S.mv S1 m1 hn
  split at e2
  · rename_i hb
    subst hb
    show if true = true then _ else _
    rw [if_pos rfl]
    refine ⟨F, G1, δ1, κ, fl, δ', κ', S2, e2, ?_⟩
    cases fl with
    | next => exact fun σ2 H2 G2 S2 l2 => k σ2 H2 G2 S2 (m1.le.trans l2)
    | brk => exact fun σ2 H2 G2 S2 l2 => k σ2 H2 G2 S2 (m1.le.trans l2)
    | cnt => exact fun σ2 H2 G2 S2 l2 => k σ2 H2 G2 S2 (m1.le.trans l2)
    | ret o => exact k
  · rename_i hb
    have hb := Bool.eq_false_iff.mpr hb
    subst hb
    show if false = true then _ else _
    rw [if_neg Bool.false_ne_true]
    refine ⟨F, G1, δ1, κ, fl, δ', κ', S2, e2, ?_⟩
    cases fl with
    | next => exact fun σ2 H2 G2 S2 l2 => k σ2 H2 G2 S2 (m1.le.trans l2)
    | brk => exact fun σ2 H2 G2 S2 l2 => k σ2 H2 G2 S2 (m1.le.trans l2)
    | cnt => exact fun σ2 H2 G2 S2 l2 => k σ2 H2 G2 S2 (m1.le.trans l2)
    | ret o => exact k
theorem smN_asg {st : Stmt} {t : Tg} {f : Fe} (h : PS X st (tAsg (tEv X.K f) (tgG X.K t))) (hr : r ∉ t.ix := by decide) : SmN X r st (nAsg r t f) := PS.imp h fun D σ H ⟨F, G, δ, κ, fl, δ', κ', S, e, k⟩ => by
  obtain ⟨⟨ra, δ1⟩, e1, e⟩ := Option.bind_eq_some_iff.mp e
  obtain ⟨⟨d, δ2⟩, e2, e⟩ := Option.bind_eq_some_iff.mp e
  dsimp only at e
  split at e
  case isFalse => cases e
  rename_i hn
  obtain ⟨δ3, e3, e⟩ := Option.bind_eq_some_iff.mp e
  split at e
  case isFalse => cases e
  rename_i hn3
  cases e
  refine ⟨F, G, δ, ra, δ1, S.sim, e1, fun v H1 G1 S1 m1 r1 => ?_⟩
  obtain ⟨G2, S2, m2, r2⟩ := S1.esc r1 e2
  have S3 := S.mv S2 (m1.trans m2) hn
  exact S3.tg r2 e3 hr hn3 fun σ' S4 => k σ' H1 G2 S4 (m1.le.trans m2.le)
theorem smN_for {tg iter : Expr} {body : List Stmt} {t : Tg} {fi : Fi} {fb : FsN} (hp : PassesOwn (model X.prog X.w) X.A X.env X.xe) (hc : X.calm = true) (hi : Ii X tg iter fi) (hg : PG X tg (tgG X.K t)) (hb : SsN X r body fb) (hr : r ∉ t.ix := by decide)
    (hs : ∀ x, foldedSetIterable iter X.env x = pure x := by intro _; rfl) : SmN X r (.For tg iter body [] pos) (nFor r t fi fb) := PS.imp (ps_for hp hc hi hg hb hs) fun Z σ H ⟨F, G, δ, κ, fl, δ', κ', S, e, k⟩ => by
  obtain ⟨⟨ds, δ1⟩, e1, e2⟩ := Option.bind_eq_some_iff.mp e
  dsimp only at e2
  split at e2
  case isFalse => cases e2
  rename_i hn
  refine ⟨F, G, δ, ds, δ1, S.sim, e1, fun J H1 G1 S1 m1 Y => ?_⟩
  have S1' := S.mv S1 m1 hn
  have hfl : ∀ {ds : List D} {δ : Dl} {κ : List Kid}, loopN r t fb ds δ κ = some (fl, δ', κ') → fl = .next := fun {ds} => by
    induction ds with
    | nil => intro δ κ h; cases h; rfl
    | cons d ds ih =>
      intro δ κ h
      obtain ⟨δ1, _, h⟩ := Option.bind_eq_some_iff.mp h
      split at h
      case isFalse => cases h
      obtain ⟨⟨f1, δ2, κ2⟩, _, h⟩ := Option.bind_eq_some_iff.mp h
      cases f1 with
      | next => exact ih h
      | cnt => exact ih h
      | brk => cases h; rfl
      | ret o => cases h
  have hfl' := hfl e2
  subst hfl'
  refine ⟨fun i m σ H => m = ds.length - i ∧ i ≤ ds.length ∧ ∃ G2 δ2 κ2, SimN X.K F G2 H σ δ2 r κ2 ∧ Le G1 G2 ∧ loopN r t fb (ds.drop i) δ2 κ2 = some (.next, δ', κ'), ⟨ds.length, rfl, Nat.zero_le _, G1, δ1, κ, S1', .refl _, e2⟩, ?_⟩
  rintro i m σ2 H2 ⟨rfl, hi, G2, δ2, κ2, S2, l2, e3⟩
  by_cases hlt : i < ds.length
  · refine .inr ⟨Y.goes i G2 H2 hlt l2 S2.sim.sub, fun σ' H' => ∃ G3 δ3 κ3, SimN X.K F G3 H' σ' δ3 r κ3 ∧ Le G1 G3 ∧ loopN r t fb (ds.drop (i + 1)) δ3 κ3 = some (.next, δ', κ'), fun σ' H' ⟨G3, δ3, κ3, q⟩ => ⟨ds.length - (i + 1), by omega, rfl, hlt, G3, δ3, κ3, q⟩, fun x H3 y => ?_⟩
    obtain ⟨d, G3, hd, E, rx⟩ := Y.ylds i G2 H2 x H3 hlt l2 S2.sim.sub y
    rw [List.drop_eq_getElem_cons hlt] at e3
    rw [List.getElem?_eq_getElem hlt] at hd
    rw [Option.some.inj hd] at e3
    obtain ⟨δ3, e4, e5⟩ := Option.bind_eq_some_iff.mp e3
    split at e5
    case isFalse => cases e5
    rename_i hn3
    obtain ⟨⟨fl1, δ4, κ4⟩, e6, e7⟩ := Option.bind_eq_some_iff.mp e5
    have S3 : SimN X.K F G3 H3 σ2 δ2 r κ2 := S2.mv (S2.sim.ext E) E.mv (by unfold noAt; rw [S2.no])
    have l3 : Le G1 G3 := l2.trans E.gg.le
    refine S3.tg rx e4 hr hn3 fun σ4 S4 => ⟨F, G3, δ3, κ2, fl1, δ4, κ4, S4, e6, ?_⟩
    cases fl1 with
    | next => exact fun σ5 H5 G5 S5 l5 => ⟨G5, δ4, κ4, S5, l3.trans l5, e7⟩
    | cnt => exact fun σ5 H5 G5 S5 l5 => ⟨G5, δ4, κ4, S5, l3.trans l5, e7⟩
    | brk =>
      cases e7
      exact fun σ5 H5 G5 S5 l5 => k σ5 H5 G5 S5 (m1.le.trans (l3.trans l5))
    | ret o => cases e7
  · have ei : i = ds.length := by omega
    subst ei
    rw [List.drop_length] at e3
    cases e3
    exact .inl ⟨Y.stops G2 H2 l2 S2.sim.sub, k σ2 H2 G2 S2 (m1.le.trans l2)⟩
/-- the list's place -/
theorem SimN.at {K : PySem.W.Frag} {F : Fr} {G H : Hp} {σ : St} {δ : Dl} {κ : List Kid} (S : SimN K F G H σ δ r κ) : ∃ p vs, σ[r]? = some (some (V.ref p)) ∧ H p = some (.lst vs) ∧ vs.length = κ.length := by
  obtain ⟨p, vs, a, b, _, _, _, g⟩ := S.ls
  exact ⟨p, vs, a, b, g.len⟩
/-- y = rows[e] -/
theorem smN_load {f : Fe} {p1 : Pos} (hN : X.N.Nodup) (hy : X.N[i]? = some y) (hl : Loc X.env.scope y) (hx : X.N[r]? = some x) (hv : Vis X.env.scope x) (hne : r ≠ i) (h : Ev X e f) (hpx : PlainIx e := by exact fun _ _ => rfl)
    (hs : swapsWith (.Subscript (.Name x npos) e p1) (some (.Name y pos')) pos.line X.env = pure false := by rfl) (hf : X.fn y = true ∨ X.env.scope.names.lookup y = some .local := by first | exact .inl rfl | exact .inr rfl | assumption)
    (hd : (x == ("__debug__" : Str)) = false := by decide) (hcd : (x == ("__classdict__" : Str)) = false := by decide) :
    SmN X r (.Assign [.Name y pos'] (.Subscript (.Name x npos) e p1) pos) (nLoad r i f) := PS.imp (ps_set hN hy hl (pe_ix ix_list (pe_var hx hv hd hcd) h hpx) hs hf) fun D σ H ⟨F, G, δ, κ, fl, δ', κ', S, e, k⟩ => by
  obtain ⟨⟨ra, δ1⟩, e1, e⟩ := Option.bind_eq_some_iff.mp e
  dsimp only at e
  split at e
  case isFalse => cases e
  rename_i hn
  obtain ⟨z, e2, e⟩ := Option.bind_eq_some_iff.mp e
  split at e
  case h_2 => cases e
  rename_i zi
  obtain ⟨j, e3, e⟩ := Option.bind_eq_some_iff.mp e
  obtain ⟨kid, e4, e5⟩ := Option.map_eq_some_iff.mp e
  cases e5
  obtain ⟨p, vs, a, b, hlen⟩ := S.at
  refine ⟨.ref p, a, F, G, δ, ra, δ1, S.sim, e1, fun v H1 G1 S1 m1 r1 => ?_⟩
  have hz := (S1.peek r1 e2).int
  subst hz
  have S2 := S.mv S1 m1 hn
  obtain ⟨p', vs', a', b', hlen'⟩ := S2.at
  rw [a] at a'; cases a'
  have hj : j < vs'.length := by rw [hlen']; exact (List.getElem?_eq_some_iff.mp e4).1
  obtain ⟨G2, S3, l3, hrep⟩ := S2.give e4
  have rv := hrep p vs' _ a b' (List.getElem?_eq_getElem hj)
  refine ⟨p, vs', _, _, rfl, rfl, .inl (.inl b'), (by unfold atI; rw [hlen', e3]; exact List.getElem?_eq_getElem hj), ?_⟩
  obtain ⟨q1, q2, q3, q4, q5, q6, q7, q8⟩ := S3.ls
  refine k _ H1 G2 ⟨S3.sim.set rv i, ?_, q1, q2, ?_, q4, q5, q6, (q7.set (x := .fz kid.d) i S3.sim.len fun _ z => nomatch z), (q8.re fun q ap => ap.set (x := .fz kid.d) i S3.sim.len fun _ z => nomatch z)⟩ (m1.le.trans l3)
  · rw [List.getElem?_set_ne (Ne.symm hne)]; exact S3.no
  · rw [List.getElem?_set_ne (Ne.symm hne)]; exact q3
/-- rows[e1][e2] = e3 -/
theorem smN_sto2 (hu : X.A.units + 64 < cLine) {e1 e2 e3 : Expr} {f1 f2 f3 : Fe} {p1 p2 : Pos} (hx : X.N[r]? = some x) (hv : Vis X.env.scope x) (h1 : Ev X e1 f1) (h2 : Ev X e2 f2) (h3 : Ev X e3 f3) (hpx : PlainIx e1 := by exact fun _ _ => rfl)
    (hd : (x == ("__debug__" : Str)) = false := by decide) (hcd : (x == ("__classdict__" : Str)) = false := by decide)
    (ha : ∀ v, assign (.Subscript (.Subscript (.Name x npos) e1 p1) e2 p2) X.env v = (do
      let ov ← holding [v] (eval (.Subscript (.Name x npos) e1 p1) X.env)
      let iv ← holding [v, ov] (eval e2 X.env)
      standAt p2
      holding [v, ov, iv] (setItem ov iv v)
      release [v, ov, iv] []) := by intro _; rfl)
    (hs : swapsWithSole [.Subscript (.Subscript (.Name x npos) e1 p1) e2 p2] e3 pos.line X.env = pure false := by rfl) (hw : swappedStores [.Subscript (.Subscript (.Name x npos) e1 p1) e2 p2] e3 X.env = pure none := by rfl)
    (hal : (assignEach [.Subscript (.Subscript (.Name x npos) e1 p1) e2 p2] X.env).map (·.2) = [assign (.Subscript (.Subscript (.Name x npos) e1 p1) e2 p2) X.env] := by rfl) :
    SmN X r (.Assign [.Subscript (.Subscript (.Name x npos) e1 p1) e2 p2] e3 pos) (nSto2 r f1 f2 f3) := PS.imp (ps_asg h3 (pg_sub (pe_ix ix_list (pe_var hx hv hd hcd) h1 hpx) h2 (stoT hu) ha) hs hw hal) fun D σ H ⟨F, G, δ, κ, fl, δ', κ', S, e, k⟩ => by
  obtain ⟨⟨r3, δ1⟩, e1, e⟩ := Option.bind_eq_some_iff.mp e
  obtain ⟨⟨w, δ2⟩, e2, e⟩ := Option.bind_eq_some_iff.mp e
  dsimp only at e
  split at e
  case isFalse => cases e
  rename_i hn2
  obtain ⟨⟨r1, δ3⟩, e3, e⟩ := Option.bind_eq_some_iff.mp e
  dsimp only at e
  split at e
  case isFalse => cases e
  rename_i hn3
  obtain ⟨z, e4, e⟩ := Option.bind_eq_some_iff.mp e
  split at e
  case h_2 => cases e
  rename_i zi
  obtain ⟨j, e5, e⟩ := Option.bind_eq_some_iff.mp e
  split at e
  case h_2 => cases e
  rename_i d0 hk0
  obtain ⟨⟨r2, δ4⟩, e6, e⟩ := Option.bind_eq_some_iff.mp e
  dsimp only at e
  split at e
  case isFalse => cases e
  rename_i hn4
  obtain ⟨y, e7, e⟩ := Option.bind_eq_some_iff.mp e
  obtain ⟨d', e8, e9⟩ := Option.map_eq_some_iff.mp e
  cases e9
  refine ⟨F, G, δ, r3, δ1, S.sim, e1, fun v3 H1 G1 S1 m1 q3 => ?_⟩
  obtain ⟨G2, S2, m2, q3'⟩ := S1.esc q3 e2
  have N2 := S.mv S2 (m1.trans m2) hn2
  obtain ⟨p, vs, a, b, hlen⟩ := N2.at
  refine ⟨.ref p, a, F, G2, δ2, r1, δ3, S2, e3, fun v1 H3 G3 S3 m3 q1 => ?_⟩
  have hz := (S3.peek q1 e4).int
  subst hz
  have N3 := N2.mv S3 m3 hn3
  obtain ⟨p', vs', a', b', hlen'⟩ := N3.at
  rw [a] at a'; cases a'
  obtain ⟨p'', vs'', a'', b'', c3, h03, ap3, kids3⟩ := N3.ls
  rw [a] at a''; cases a''
  rw [b'] at b''; cases b''
  obtain ⟨q, hq, gq, rq, hq0, apq, nqp⟩ := kids3.ex j d0 hk0
  have hj : j < vs'.length := by rw [hlen']; exact (List.getElem?_eq_some_iff.mp hk0).1
  refine ⟨p, vs', _, .ref q, rfl, rfl, .inl (.inl b'), (by unfold atI; rw [hlen', e5]; exact hq), F, G3, δ3, r2, _, S3, e6, fun v2 H4 G4 S4 m4 q2 => ?_⟩
  have N4 := N3.mv S4 m4 hn4
  obtain ⟨p4, vs4, a4, b4, c4, h04, ap4, kids4⟩ := N4.ls
  rw [a] at a4; cases a4
  obtain ⟨hb4, _, _⟩ := m4.stay p _ b' c3 ap3
  rw [hb4] at b4; cases b4
  obtain ⟨q', hq', gq', rq', hq0', apq', nqp'⟩ := kids4.ex j d0 hk0
  rw [hq] at hq'; cases hq'
  refine ⟨G4, q, d0, y, w, d', rfl, S4.sub, gq', rq', S4.peek q2 e7, (q3'.mono m3.le).mono m4.le, e8, fun u ru => ?_⟩
  have hlk : j < κ.length := (List.getElem?_eq_some_iff.mp hk0).1
  have same : ∀ {i : Nat} {x : Kid}, (κ.set j (.ex d'))[i]? = some x → (i = j ∧ x = .ex d') ∨ (i ≠ j ∧ κ[i]? = some x) := fun {i x} h => by
    by_cases n : i = j
    · subst n
      rw [List.getElem?_set_self hlk] at h
      exact .inl ⟨rfl, (Option.some.inj h).symm⟩
    · rw [List.getElem?_set_ne (Ne.symm n)] at h
      exact .inr ⟨n, h⟩
  have back : ∀ {i : Nat} {x : Tl.D}, (κ.set j (.ex d'))[i]? = some (.ex x) → ∃ x', κ[i]? = some (.ex x') := fun {i x} h => by
    rcases same h with ⟨rfl, _⟩ | ⟨_, h⟩
    · exact ⟨d0, hk0⟩
    · exact ⟨x, h⟩
  refine k σ _ G4 ⟨S4.away gq' apq' hq0', noAt_of hn4, p, vs', a, (upd_ne (Ne.symm nqp')).trans hb4, c4, h04, ap4, by rw [List.length_set]; exact kids4.len, fun i x h => ?_, fun i x h => ?_, fun i i' x y' q1 h h' hv hv' => ?_⟩ (m1.le.trans (m2.le.trans (m3.le.trans m4.le)))
  · rcases same h with ⟨_, hx⟩ | ⟨_, h⟩
    · cases hx
    · exact kids4.fr i x h
  · rcases same h with ⟨rfl, hx⟩ | ⟨n, h⟩
    · cases hx
      exact ⟨q, hq, gq', ru, hq0', apq', nqp'⟩
    · obtain ⟨q1, a1, b1, c1, d1, f1, g1⟩ := kids4.ex i x h
      have nq : q1 ≠ q := fun z => n (kids4.inj i j x d0 q h hk0 (z ▸ a1) hq)
      exact ⟨q1, a1, b1, c1.mono (.refl _) (upd_ne nq), d1, f1, g1⟩
  · obtain ⟨x1, h1⟩ := back h
    obtain ⟨x2, h2⟩ := back h'
    exact kids4.inj i i' x1 x2 q1 h1 h2 hv hv'
/-- rows[e1] = e2 -/
theorem smN_sto1 (hu : X.A.units + 64 < cLine) {e1 e2 : Expr} {f1 f2 : Fe} {p2 : Pos} (hx : X.N[r]? = some x) (hv : Vis X.env.scope x) (h1 : Ev X e1 f1) (h2 : Ev X e2 f2)
    (hd : (x == ("__debug__" : Str)) = false := by decide) (hcd : (x == ("__classdict__" : Str)) = false := by decide)
    (ha : ∀ v, assign (.Subscript (.Name x npos) e1 p2) X.env v = (do
      let ov ← holding [v] (eval (.Name x npos) X.env)
      let iv ← holding [v, ov] (eval e1 X.env)
      standAt p2
      holding [v, ov, iv] (setItem ov iv v)
      release [v, ov, iv] []) := by intro _; rfl)
    (hs : swapsWithSole [.Subscript (.Name x npos) e1 p2] e2 pos.line X.env = pure false := by rfl) (hw : swappedStores [.Subscript (.Name x npos) e1 p2] e2 X.env = pure none := by rfl)
    (hal : (assignEach [.Subscript (.Name x npos) e1 p2] X.env).map (·.2) = [assign (.Subscript (.Name x npos) e1 p2) X.env] := by rfl) :
    SmN X r (.Assign [.Subscript (.Name x npos) e1 p2] e2 pos) (nSto1 r f1 f2) := PS.imp (ps_asg h2 (pg_sub (pe_var hx hv hd hcd) h1 set_list ha) hs hw hal) fun D σ H ⟨F, G, δ, κ, fl, δ', κ', S, e, k⟩ => by
  obtain ⟨⟨r3, δ1⟩, e1, e⟩ := Option.bind_eq_some_iff.mp e
  obtain ⟨⟨w, δ2⟩, e2, e⟩ := Option.bind_eq_some_iff.mp e
  dsimp only at e
  split at e
  case isFalse => cases e
  rename_i hn2
  obtain ⟨⟨r1, δ3⟩, e3, e⟩ := Option.bind_eq_some_iff.mp e
  dsimp only at e
  split at e
  case isFalse => cases e
  rename_i hn3
  obtain ⟨z, e4, e⟩ := Option.bind_eq_some_iff.mp e
  split at e
  case h_2 => cases e
  rename_i zi
  obtain ⟨j, e5, e6⟩ := Option.map_eq_some_iff.mp e
  cases e6
  refine ⟨F, G, δ, r3, δ1, S.sim, e1, fun v3 H1 G1 S1 m1 q3 => ?_⟩
  obtain ⟨G2, S2, m2, q3'⟩ := S1.esc q3 e2
  have N2 := S.mv S2 (m1.trans m2) hn2
  obtain ⟨p, vs, a, b, hlen⟩ := N2.at
  refine ⟨.ref p, a, F, G2, δ2, r1, _, S2, e3, fun v1 H3 G3 S3 m3 q1 => ?_⟩
  have hz := (S3.peek q1 e4).int
  subst hz
  have N3 := N2.mv S3 m3 hn3
  obtain ⟨p', vs', a', b', c3, h03, ap3, kids3⟩ := N3.ls
  rw [a] at a'; cases a'
  have rw3 := q3'.mono m3.le
  refine ⟨p, vs', _, j, rfl, rfl, b', (by rw [kids3.len]; exact e5), ?_⟩
  have hlj : j < κ.length := by
    exact (ixN_seq e5).2.1
  have same : ∀ {i : Nat} {x : Kid}, (κ.set j (.fr w))[i]? = some x → (i = j ∧ x = .fr w) ∨ (i ≠ j ∧ κ[i]? = some x) := fun {i x} h => by
    by_cases n : i = j
    · subst n
      rw [List.getElem?_set_self hlj] at h
      exact .inl ⟨rfl, (Option.some.inj h).symm⟩
    · rw [List.getElem?_set_ne (Ne.symm n)] at h
      exact .inr ⟨n, h⟩
  have kk := kids3.upd (.lst (vs'.set j v3))
  refine k σ _ G3 ⟨S3.away c3 ap3 h03, noAt_of hn3, p, vs'.set j v3, a, upd_same, c3, h03, ap3, by rw [List.length_set, List.length_set]; exact kids3.len, fun i x h => ?_, fun i x h => ?_, fun i i' x y' q1 h h' hv hv' => ?_⟩ (m1.le.trans (m2.le.trans m3.le))
  · rcases same h with ⟨rfl, hx⟩ | ⟨n, h⟩
    · cases hx
      exact ⟨v3, List.getElem?_set_self (by rw [kids3.len]; exact hlj), rw3⟩
    · rw [List.getElem?_set_ne (Ne.symm n)]
      exact kk.fr i x h
  · rcases same h with ⟨_, hx⟩ | ⟨n, h⟩
    · cases hx
    · rw [List.getElem?_set_ne (Ne.symm n)]
      exact kk.ex i x h
  · rcases same h with ⟨_, hx⟩ | ⟨n, h⟩
    · cases hx
    · rcases same h' with ⟨_, hx⟩ | ⟨n', h'⟩
      · cases hx
      · rw [List.getElem?_set_ne (Ne.symm n)] at hv
        rw [List.getElem?_set_ne (Ne.symm n')] at hv'
        exact kids3.inj i i' x y' q1 h h' hv hv'
end
end L2.Tl

set_option Elab.async false
set_option linter.all false
set_option autoImplicit false
set_option maxRecDepth 100000
namespace L2.Tl
open PySem PySem.Spec PyProof.Rows

/-! ### rows = [e for t in ..], each e a new object that the frame may change; return rows -/
def kidOf : OV → Kid
  | .val d => .fr d
  | .new d => .ex d
def lcN (vs : List Nat) (t : Tg) (f : Fn) : List D → Dl → Option (List Kid × Dl)
  | [], δ => some ([], δ)
  | d :: ds, δ => (tgSet t d δ).bind fun δ1 => (f δ1).bind fun q => (lcN vs t f ds (wipeD vs q.2)).map fun s => (kidOf q.1 :: s.1, s.2)
def nLc (vs : List Nat) (fi : Fi) (t : Tg) (f : Fn) : Dl → Option (List Kid × Dl) := fun δ => (fi δ).bind fun p => if p.1.length ≤ sizeLine ∧ plainAt vs p.2 = true then
    (lcN vs t f p.1 (wipeD vs p.2)).map fun q => (q.1, mixD vs p.2 q.2) else none
section
variable {K : PySem.W.Frag} {F : Fr} {G H : Hp} {σ : St} {δ : Dl} {p : Addr} {vs : List V} {κ : List Kid}
theorem Kids.snoc (k : Kids K F G H σ δ p vs κ) {v : V} {o : OV} {Z : Hp} (r : RepO K Z G H σ δ v o) (hz : ∀ a, Z a = none → F.H0 a = none) (np : ∀ q, v = .ref q → Z q = none → q ≠ p) (old : ∀ (j : Nat) (d : Tl.D) (q : Addr), κ[j]? = some (Kid.ex d) → vs[j]? = some (V.ref q) → Z q ≠ none) : Kids K F G H σ δ p (vs ++ [v]) (κ ++ [kidOf o]) := by
  have at' : ∀ {j : Nat} {x : Kid}, (κ ++ [kidOf o])[j]? = some x → (j < κ.length ∧ κ[j]? = some x ∧ (vs ++ [v])[j]? = vs[j]?) ∨ (j = κ.length ∧ x = kidOf o ∧ (vs ++ [v])[j]? = some v) := fun {j x} h => by
    by_cases hj : j < κ.length
    · rw [List.getElem?_append_left hj] at h
      exact .inl ⟨hj, h, List.getElem?_append_left (by rw [k.len]; exact hj)⟩
    · rw [List.getElem?_append_right (by omega)] at h
      have e : j = κ.length := by
        have := (List.getElem?_eq_some_iff.mp h).1
        simp at this
        omega
      subst e
      simp at h
      refine .inr ⟨rfl, h.symm, ?_⟩
      rw [List.getElem?_append_right (by rw [k.len]; exact Nat.le_refl _), k.len]
      simp
  refine ⟨by simp [k.len], fun j d h => ?_, fun j d h => ?_, fun i j d e q h h' hv hv' => ?_⟩
  · rcases at' h with ⟨_, h, ev⟩ | ⟨_, hx, ev⟩
    · rw [ev]; exact k.fr j d h
    · cases o with
      | val d' => cases hx; exact ⟨v, ev, r⟩
      | new d' => cases hx
  · rcases at' h with ⟨_, h, ev⟩ | ⟨_, hx, ev⟩
    · rw [ev]; exact k.ex j d h
    · cases o with
      | val d' => cases hx
      | new d' =>
        cases hx
        obtain ⟨q, rfl, a, b, c, e⟩ := r
        exact ⟨q, ev, a, b, hz q c, e, np q rfl c⟩
  · have fresh : ∀ {d' : D}, Kid.ex d' = kidOf o → (vs ++ [v])[κ.length]? = some v → ∀ (i : Nat) (d : D) (q : Addr), i < κ.length → κ[i]? = some (Kid.ex d) → vs[i]? = some (V.ref q) → v = .ref q → False := fun {d'} ho ev i d q hi hk hq hvq => by
      cases o with
      | val _ => cases ho
      | new d'' =>
        obtain ⟨q', rfl, a, b, c, e⟩ := r
        cases hvq
        exact old i d _ hk hq c
    rcases at' h with ⟨hi, h, ev⟩ | ⟨hi, hx, ev⟩
    · rcases at' h' with ⟨hj, h', ev'⟩ | ⟨hj, hx', ev'⟩
      · rw [ev] at hv
        rw [ev'] at hv'
        exact k.inj i j d e q h h' hv hv'
      · subst hj
        rw [ev] at hv
        rw [ev'] at hv'
        exact (fresh hx' ev' i d q hi h hv (Option.some.inj hv')).elim
    · subst hi
      rcases at' h' with ⟨hj, h', ev'⟩ | ⟨hj, hx', ev'⟩
      · rw [ev] at hv
        rw [ev'] at hv'
        exact (fresh hx ev j e q hj h' hv' (Option.some.inj hv)).elim
      · exact hj.symm
end
/-- a slot of which nothing is known is set -/
theorem Sim.setNo {K : PySem.W.Frag} {F : Fr} {G H : Hp} {σ : St} {δ : Dl} (S : Sim K F G H σ δ) {r : Nat} (h : δ[r]? = some none) (v : Option V) : Sim K F G H (σ.set r v) δ := by
  have ne : ∀ {j : Nat} {x : SV}, δ[j]? = some (some x) → (σ.set r v)[j]? = σ[j]? := fun {j x} hj => List.getElem?_set_ne (fun z => by subst z; rw [h] at hj; cases hj)
  refine ⟨by simpa using S.len, fun i d hd => ?_, fun i d hd => ?_, fun i d hd => ?_, fun i j x y d e p h1 r1 h2 r2 h3 h4 => ?_, S.sub, S.new, S.fr, S.ioh, S.g0⟩
  · rw [ne hd]; exact S.fz i d hd
  · rw [ne hd]; exact S.own i d hd
  · rw [ne hd]; exact S.inp i d hd
  · rw [ne h1] at h3
    rw [ne h2] at h4
    exact S.inj i j x y d e p h1 r1 h2 r2 h3 h4
theorem Apart.setNo {σ : St} {δ : Dl} {p : Addr} {r : Nat} (a : Apart σ δ p) (h : δ[r]? = some none) (v : Option V) : Apart (σ.set r v) δ p := fun i x d hx hr hs => by
  rw [List.getElem?_set_ne (fun z => by subst z; rw [h] at hx; cases hx)] at hs
  exact a i x d hx hr hs
theorem Apart.drop {σ : St} {δ : Dl} {p : Addr} (a : Apart σ δ p) (r : Nat) : Apart σ (δ.set r none) p := fun i x d hx hr hs => by
  by_cases n : i = r
  · subst n
    by_cases hl : i < δ.length
    · rw [List.getElem?_set_self hl] at hx; cases hx
    · rw [List.getElem?_eq_none (by simpa using hl)] at hx; cases hx
  · rw [List.getElem?_set_ne (Ne.symm n)] at hx
    exact a i x d hx hr hs
def tNewN (K : PySem.W.Frag) (r : Nat) (g : Dl → Option (List Kid × Dl)) : TS := fun D σ H => ∃ F G δ κ δ', Sim K F G H σ δ ∧ g δ = some (κ, δ') ∧ r < δ'.length ∧ ∀ σ' H' G', SimN K F G' H' σ' (δ'.set r none) r κ → Le G G' → D.nx σ' H'
theorem lcN_imp {K : PySem.W.Frag} {vs : List Nat} {r : Nat} {fi : Fi} {t : Tg} {f : Fn} {σ : St} {H : Hp} {D : Ends} (ht : ∀ i ∈ t.ix, i ∈ vs) (h : tNewN K r (nLc vs fi t f) D σ H) : tAsg (tLc (tIt K fi) (tgG K t) (tTs K fYes) (tEn K f) vs) (gName r) D σ H := by
  obtain ⟨F, G, δ, κ, δ', S, e, hr, k⟩ := h
  obtain ⟨⟨ds, δ1⟩, e1, e⟩ := Option.bind_eq_some_iff.mp e
  dsimp only at e
  split at e
  case isFalse => cases e
  rename_i hz
  obtain ⟨hz, hpl⟩ := hz
  obtain ⟨⟨κ', δ2⟩, e2, e3⟩ := Option.map_eq_some_iff.mp e
  cases e3
  refine ⟨F, G, δ, ds, δ1, S, e1, fun J H1 G1 S1 m1 Y D0 hD => ?_⟩
  have hg1 : G1 D0 = none := none_of_sub S1.sub hD
  have apD := apart_new S1 hD
  have E1 : Tl.Ext G1 H1 G1 (upd H1 D0 (.lst [])) := .own S1.sub hD
  let St (i : Nat) (H : Hp) : Prop := ∃ G2 δ3 acc κa rest, Sim K F G2 H (wipe σ vs) δ3 ∧ Le G1 G2 ∧ H D0 = some (.lst acc) ∧ Kids K F G2 H (wipe σ vs) δ3 D0 acc κa ∧ G2 D0 = none ∧ Apart (wipe σ vs) δ3 D0 ∧ κ' = κa ++ rest ∧ κa.length ≤ i ∧
    lcN vs t f (ds.drop i) δ3 = some (rest, δ2)
  have st0 : St 0 (upd H1 D0 (.lst [])) := ⟨G1, wipeD vs δ1, [], [], κ', (S1.ext E1).wipe vs, .refl _, upd_same, ⟨rfl, fun j d h => by simp at h, fun j d h => by simp at h, fun i j d e q h => by simp at h⟩, hg1, apart_wipe vs apD, rfl, Nat.le_refl _, e2⟩
  refine ⟨fun i m H => m = ds.length - i ∧ i ≤ ds.length ∧ St i H, ⟨ds.length, rfl, Nat.zero_le _, st0⟩, ?_⟩
  rintro i m H2 ⟨rfl, hi, G2, δ3, acc, κa, rest, S2, l2, hacc, kids, gD, aD, exs, hla, e4⟩
  by_cases hlt : i < ds.length
  · refine .inr ⟨Y.goes i G2 H2 hlt l2 S2.sub, St (i + 1), fun H' q => ⟨ds.length - (i + 1), by omega, rfl, hlt, q⟩, fun x H3 y => ?_⟩
    obtain ⟨d, G3, hd, E, rx⟩ := Y.ylds i G2 H2 x H3 hlt l2 S2.sub y
    rw [List.drop_eq_getElem_cons hlt] at e4
    rw [List.getElem?_eq_getElem hlt] at hd
    rw [Option.some.inj hd] at e4
    obtain ⟨δ4, e5, e6⟩ := Option.bind_eq_some_iff.mp e4
    obtain ⟨⟨o, δ5⟩, e7, e8⟩ := Option.bind_eq_some_iff.mp e6
    obtain ⟨⟨rest', δ6⟩, e9, e10⟩ := Option.map_eq_some_iff.mp e8
    cases e10
    have S3 := S2.ext E
    have mE : Mv (wipe σ vs) δ3 G2 H2 δ3 G3 H3 := E.mv
    obtain ⟨hD3, gD3, aD3⟩ := mE.stay D0 _ hacc gD aD
    refine tg_of S3 rx e5 fun σ4 S4 hw hap => ⟨(hw vs ht).trans (wipe_wipe σ vs), ?_⟩
    have hw' : wipe σ4 vs = wipe σ vs := (hw vs ht).trans (wipe_wipe σ vs)
    refine ⟨F, G3, δ4, true, δ4, S4, rfl, fun H5 G5 S5 m5 => ?_⟩
    show if true = true then _ else _
    rw [if_pos rfl]
    refine ⟨F, G5, δ4, o, δ5, S5, e7, fun v H6 G6 S6 m6 r6 => ?_⟩
    have k3 := (((kids.mv mE).re hap).mv m5)
    obtain ⟨hD5, gD5, aD5⟩ := m5.stay D0 _ hD3 gD3 (hap D0 aD3)
    obtain ⟨hD6, gD6, aD6⟩ := m6.stay D0 _ hD5 gD5 aD5
    have k6 := k3.mv m6
    have k7 := k6.snoc r6 (fun a h => S5.fresh h) (fun q _ hq z => by rw [z, hD5] at hq; cases hq) (fun j d q hk hv hq => by
      obtain ⟨q', a1, _, c1, _⟩ := k3.ex j d hk
      rw [hv] at a1; cases a1
      obtain ⟨u, hu⟩ := c1.there
      rw [hq] at hu; cases hu)
    have S7 := S6.wipe vs
    rw [hw'] at S7
    have ap7 : ∀ q, Apart σ4 δ5 q → Apart (wipe σ vs) (wipeD vs δ5) q := fun q h => hw' ▸ apart_wipe vs h
    refine ⟨acc, hD6, by rw [kids.len]; omega, G6, wipeD vs δ5, acc ++ [v], κa ++ [kidOf o], rest', S7.away gD6 (ap7 _ aD6) (S1.fresh hD), l2.trans (E.gg.le.trans (m5.le.trans m6.le)), upd_same, (k7.re ap7).upd _, gD6, ap7 _ aD6, by rw [exs]; simp, by simp; exact hla, e9⟩
  · have ei : i = ds.length := by omega
    subst ei
    rw [List.drop_length] at e4
    cases e4
    rw [List.append_nil] at exs
    subst exs
    have lw : δ1.length = δ2.length := by rw [← S1.len, ← S2.len, wipe_length]
    have S9 := (S1.mix S2 l2 hpl).drop r
    have hno : ((mixD vs δ1 δ2).set r none)[r]? = some none := List.getElem?_set_self hr
    have apx : ∀ q, Apart (wipe σ vs) δ2 q → Apart (σ.set r (some (V.ref D0))) ((mixD vs δ1 δ2).set r none) q := fun q h => ((apart_mix lw h hpl).drop r).setNo hno _
    refine .inl ⟨Y.stops G2 H2 l2 S2.sub, k _ H2 G2 ⟨S9.setNo hno _, hno, D0, acc, List.getElem?_set_self ?_, hacc, gD, S1.fresh hD, apx _ aD, kids.re apx⟩ (m1.le.trans l2)⟩
    rw [S1.len, lw, ← mixD_length δ1 vs δ2]
    exact hr
def tRetN (K : PySem.W.Frag) (r : Nat) (f : Dl → List Kid → Option (D × Dl)) : TS := fun Z σ H => ∃ F G δ κ d δ', SimN K F G H σ δ r κ ∧ f δ κ = some (d, δ') ∧ ∀ v σ' H' G', Sim K F G' H' σ' δ' → Le G G' → Rep K G' v d → Z.rt v H'
/-- a block that ends by the list's return -/
def SsR (X : Cx) (r : Nat) (st : List Stmt) (f : Dl → List Kid → Option (D × Dl)) : Prop := PSs X st (tRetN X.K r f)
def rRet : Dl → List Kid → Option (D × Dl) := fun δ κ => some (.lst (κ.map Kid.d), δ)
def rSeq (f : FsN) (g : Dl → List Kid → Option (D × Dl)) : Dl → List Kid → Option (D × Dl) := fun δ κ => (f δ κ).bind fun p => match p.1 with
  | .next => g p.2.1 p.2.2
  | _ => none
def sNew (r : Nat) (g : Dl → Option (List Kid × Dl)) (f : Dl → List Kid → Option (D × Dl)) : Fs := fun δ => (g δ).bind fun p => if r < p.2.length then (f (p.2.set r none) p.1).map fun q => (.ret (.val q.1), q.2) else none
section
variable {X : Cx} {r i : Nat} {pos pos' npos : Pos} {x y : Str} {e ix : Expr}
theorem ssR_ret (hx : X.N[r]? = some x) (hv : Vis X.env.scope x) (hd : (x == ("__debug__" : Str)) = false := by decide) (hcd : (x == ("__classdict__" : Str)) = false := by decide) : SsR X r [.Return (some (.Name x npos)) pos] rRet := PSs.imp (pss_one (ps_ret (pe_var hx hv hd hcd))) fun D σ H ⟨F, G, δ, κ, d, δ', S, e, k⟩ => by
  cases e
  obtain ⟨G', p, S', l, a, rr⟩ := S.all
  exact ⟨_, a, k _ σ H G' S' l rr⟩
theorem ssR_cons {st : Stmt} {rest : List Stmt} {f : FsN} {g : Dl → List Kid → Option (D × Dl)} (h : SmN X r st f) (hr : SsR X r rest g) : SsR X r (st :: rest) (rSeq f g) := PSs.imp (pss_cons h hr) fun D σ H ⟨F, G, δ, κ, d, δ', S, e, k⟩ => by
  obtain ⟨⟨fl1, δ1, κ1⟩, e1, e2⟩ := Option.bind_eq_some_iff.mp e
  refine ⟨F, G, δ, κ, fl1, δ1, κ1, S, e1, ?_⟩
  cases fl1 with
  | next =>
    dsimp only at e2
    intro σ1 H1 G1 S1 l1
    exact ⟨F, G1, δ1, κ1, d, δ', S1, e2, fun v σ2 H2 G2 S2 l2 rv => k v σ2 H2 G2 S2 (l1.trans l2) rv⟩
  | brk => cases e2
  | cnt => cases e2
  | ret o => cases e2
theorem ss_new {st : Stmt} {rest : List Stmt} {g : Dl → Option (List Kid × Dl)} {f : Dl → List Kid → Option (D × Dl)} (h : PS X st (tNewN X.K r g)) (hr : SsR X r rest f) : Ss X (st :: rest) (sNew r g f) := PSs.imp (pss_cons h hr) fun D σ H ⟨F, G, δ, fl, δ', S, e, k⟩ => by
  obtain ⟨⟨κ, δ1⟩, e1, e2⟩ := Option.bind_eq_some_iff.mp e
  dsimp only at e2
  split at e2
  case isFalse => cases e2
  rename_i hl
  obtain ⟨⟨d, δ2⟩, e3, e4⟩ := Option.map_eq_some_iff.mp e2
  cases e4
  exact ⟨F, G, δ, κ, δ1, S, e1, hl, fun σ1 H1 G1 S1 l1 => ⟨F, G1, _, κ, d, _, S1, e3, fun v σ2 H2 G2 S2 l2 rv => k v σ2 H2 G2 S2 (l1.trans l2) rv⟩⟩
theorem new_lc {elt tg iter : Expr} {scope : Scope} {own : List (Str × Nat)} {fi : Fi} {t : Tg} {f : Fn} {py spos : Pos} (hc : X.calm = true) (hN : X.N.Nodup) (hy : X.N[r]? = some y) (hyl : X.env.scope.names.lookup y = some .local)
    (hsw : swapsWith (.ListComp elt [⟨tg, iter, [], 0⟩] scope pos) (some (.Name y py)) spos.line X.env = pure true) (hi : Ii X tg iter fi) (ok : BlkOk X.N X.env.scope scope own)
    (hg : ∀ (s : Shared) (H : Hp) (C : Addr) (cl : List (Str × Addr)) (fp : List Addr), PG (X.blk s H scope (compEnvC scope cl C X.env) fp) tg (tgG X.K t))
    (he : ∀ (s : Shared) (H : Hp) (C : Addr) (cl : List (Str × Addr)) (fp : List Addr), En (X.blk s H scope (compEnvC scope cl C X.env) fp) elt f)
    (hix : ∀ i ∈ t.ix, i ∈ own.map (·.2) := by decide) (hs : ∀ x, foldedSetIterable iter X.env x = pure x := by intro _; rfl) :
    PS X (.Assign [.Name y py] (.ListComp elt [⟨tg, iter, [], 0⟩] scope pos) spos) (tNewN X.K r (nLc (own.map (·.2)) fi t f)) := PS.imp (ps_setLc (tt := tTs X.K fYes) (te := tEn X.K f) hc hN hy hyl hsw hi ok hg (fun _ _ _ _ _ => ptsT_nil) he hs) fun D σ H h => lcN_imp hix h
end
end L2.Tl

set_option Elab.async false
set_option linter.all false
set_option autoImplicit false
set_option maxRecDepth 100000
namespace L2.Tl
open PySem PySem.Spec PyProof.Rows
/-! ### the mirrors' equations, for simp -/
section
variable {δ : Dl} {f g h : Fs} {fe ge he : Fe} {fn gn : Fn} {c d : Ft} {i j : Nat}
@[simp] theorem runP_eq (p n : Nat) (args : List SV) : runP p f n args = if args.length = p then runF f n args else none := rfl
@[simp] theorem runF_eq (n : Nat) (args : List SV) : runF f n args = (f (args.map some ++ List.replicate n none)).bind fun p => match p.1 with
  | .ret o => (outsOf args p.2).map fun os => (o, os)
  | .next => (outsOf args p.2).map fun os => (.val .non, os)
  | _ => none := rfl
@[simp] theorem outsOf_nil (δ : Dl) : outsOf [] δ = some [] := by cases δ <;> rfl
@[simp] theorem outsOf_fz (x : D) (as : List SV) (y : Option SV) : outsOf (.fz x :: as) (y :: δ) = outsOf as δ := rfl
@[simp] theorem outsOf_inp (x z : D) (as : List SV) : outsOf (.inp x :: as) (some (.inp z) :: δ) = (outsOf as δ).map (z :: ·) := rfl
@[simp] theorem sSeq_eq : sSeq f g δ = (f δ).bind fun p => match p.1 with
  | .next => g p.2
  | _ => some p := rfl
@[simp] theorem sSet_eq : sSet i fe δ = (fe δ).bind fun p => (esc p.1 p.2).map fun q => (.next, q.2.set i (some (.fz q.1))) := rfl
@[simp] theorem sOwn_eq : sOwn i fn δ = (fn δ).map fun p => (.next, setO i p.1 p.2) := rfl
@[simp] theorem setO_val (x : D) : setO i (.val x) δ = δ.set i (some (.fz x)) := rfl
@[simp] theorem setO_new (x : D) : setO i (.new x) δ = δ.set i (some (.own x)) := rfl
@[simp] theorem sRet_eq : sRet fn δ = (fn δ).map fun p => (.ret p.1, p.2) := rfl
@[simp] theorem sRetN_eq : sRetN δ = some (.ret (.val .non), δ) := rfl
@[simp] theorem sNext_eq : sNext δ = some (.next, δ) := rfl
@[simp] theorem sBrk_eq : sBrk δ = some (.brk, δ) := rfl
@[simp] theorem sCnt_eq : sCnt δ = some (.cnt, δ) := rfl
@[simp] theorem sNever_eq : sNever δ = none := rfl
@[simp] theorem sEx_eq : sEx fn δ = (fn δ).map fun p => (.next, p.2) := rfl
@[simp] theorem sIf_eq : sIf c f g δ = (c δ).bind fun p => if p.1 = true then f p.2 else g p.2 := rfl
@[simp] theorem sPar_eq (is : List Nat) (f : Fp) : sPar is f δ = (f δ).bind fun p => (setAll is p.1 p.2).map fun δ' => (.next, δ') := rfl
@[simp] theorem sUnp_eq (is : List Nat) : sUnp is fe δ = (fe δ).bind fun p => (esc p.1 p.2).bind fun q => match q.1 with
  | .tup ds => (setAll is (ds.map .val) q.2).map fun δ' => (.next, δ')
  | _ => none := rfl
@[simp] theorem setAll_nil : setAll [] [] δ = some δ := rfl
@[simp] theorem setAll_cons (is : List Nat) (o : OV) (os : List OV) : setAll (i :: is) (o :: os) δ = setAll is os (setO i o δ) := rfl
@[simp] theorem fP0_eq : fP0 δ = some ([], δ) := rfl
@[simp] theorem fP_eq (r : Fp) : fP fn r δ = (fn δ).bind fun p => (r p.2).map fun q => (p.1 :: q.1, q.2) := rfl
@[simp] theorem fV_eq : fV fn δ = (fn δ).map fun p => (.val p.1.d, p.2) := rfl
@[simp] theorem fO_eq : fO fe δ = match fe δ with
  | some (r, δ1) => match esc r δ1 with
    | some (d, δ2) => some (.val d, δ2)
    | none => none
  | none => none := rfl
@[simp] theorem OVd_val (x : D) : (OV.val x).d = x := rfl
@[simp] theorem OVd_new (x : D) : (OV.new x).d = x := rfl
@[simp] theorem peek_val (x : D) : peek (.val x) δ = some x := rfl
@[simp] theorem esc_val (x : D) : esc (.val x) δ = some (x, δ) := rfl
@[simp] theorem peek_slot : peek (.slot i) δ = match δ[i]? with
  | some (some x) => some (svD x)
  | _ => none := rfl
@[simp] theorem esc_slot : esc (.slot i) δ = match δ[i]? with
  | some (some (SV.fz d)) => some (d, δ)
  | some (some (SV.own d)) => some (d, δ.set i (some (SV.fz d)))
  | _ => none := rfl
@[simp] theorem svD_fz (x : D) : svD (.fz x) = x := rfl
@[simp] theorem svD_own (x : D) : svD (.own x) = x := rfl
@[simp] theorem svD_inp (x : D) : svD (.inp x) = x := rfl
@[simp] theorem fOp2_eq (g : D → D → Option OV) : fOp2 g fe ge δ = (fe δ).bind fun p => (ge p.2).bind fun q => (peek p.1 q.2).bind fun x => (peek q.1 q.2).bind fun y => (g x y).map fun o => (o, q.2) := rfl
@[simp] theorem fVar_eq : fVar i δ = match δ[i]? with
  | some (some (.fz d)) => some (.val d, δ)
  | some (some (.own _)) => some (.slot i, δ)
  | some (some (.inp _)) => some (.slot i, δ)
  | _ => none := rfl
@[simp] theorem fC_eq (x : D) : fC x δ = some (.val x, δ) := rfl
@[simp] theorem fAnd_eq : fAnd fe ge δ = (fe δ).bind fun p => match p.1 with
  | .val (.bl true) => ge p.2
  | .val (.bl false) => some (.val (.bl false), p.2)
  | _ => none := rfl
@[simp] theorem fOr_eq : fOr fe ge δ = (fe δ).bind fun p => match p.1 with
  | .val (.bl false) => ge p.2
  | .val (.bl true) => some (.val (.bl true), p.2)
  | _ => none := rfl
@[simp] theorem fNot_eq : fNot fe δ = (fe δ).bind fun p => match p.1 with
  | .val (.bl b) => some (.val (.bl (!b)), p.2)
  | _ => none := rfl
@[simp] theorem fNeg_eq : fNeg fe δ = (fe δ).bind fun p => match p.1 with
  | .val (.int i) => some (.val (.int (-i)), p.2)
  | _ => none := rfl
@[simp] theorem fT_eq : fT fe δ = (fe δ).bind fun p => match p.1 with
  | .val (.bl b) => some (b, p.2)
  | _ => none := rfl
@[simp] theorem fTN_eq : fTN c δ = (c δ).map fun p => (!p.1, p.2) := rfl
@[simp] theorem fTA_eq : fTA c d δ = (c δ).bind fun p => if p.1 = true then d p.2 else some (false, p.2) := rfl
@[simp] theorem fTO_eq : fTO c d δ = (c δ).bind fun p => if p.1 = true then some (true, p.2) else d p.2 := rfl
@[simp] theorem fIf_eq : fIf c fe ge δ = (c δ).bind fun p => if p.1 = true then fe p.2 else ge p.2 := rfl
@[simp] theorem fIfN_eq : fIfN c fn gn δ = (c δ).bind fun p => if p.1 = true then fn p.2 else gn p.2 := rfl
@[simp] theorem fA0_eq : fA0 δ = some ([], δ) := rfl
@[simp] theorem fA_eq (r : Fa) : fA fe r δ = (fe δ).bind fun p => (esc p.1 p.2).bind fun q => (r q.2).map fun s => (q.1 :: s.1, s.2) := rfl
@[simp] theorem fLst_eq (f : Fa) : fLst f δ = (f δ).bind fun p => if p.1.length ≤ sizeLine then some (.new (.lst p.1), p.2) else none := rfl
@[simp] theorem fTup_eq (f : Fa) : fTup f δ = (f δ).bind fun p => if p.1.length ≤ sizeLine then some (.val (.tup p.1), p.2) else none := rfl
@[simp] theorem fDct0_eq (t : Bool) : fDct0 t δ = some (.new (.dct t []), δ) := rfl
@[simp] theorem fBl_eq (g : Gb) (q : Fq) : fBl g q δ = (q δ).bind fun p => (peeks p.1 p.2).bind fun ds => (g ds).map fun o => (o, p.2) := rfl
@[simp] theorem fQ0_eq : fQ0 δ = some ([], δ) := rfl
@[simp] theorem fQ_eq (r : Fq) : fQ fe r δ = (fe δ).bind fun p => (r p.2).map fun q => (p.1 :: q.1, q.2) := rfl
@[simp] theorem peeks_nil : peeks [] δ = some [] := rfl
@[simp] theorem peeks_cons (r : RV) (rs : List RV) : peeks (r :: rs) δ = (peek r δ).bind fun d => (peeks rs δ).map (d :: ·) := rfl
@[simp] theorem fCall_eq (F : Fm) (fa : Fr2) (ds : List D) : fCall F fa ds δ = (fa δ).bind fun p => callRs F p.1 ds p.2 := rfl
@[simp] theorem fM0_eq : fM0 δ = some ([], δ) := rfl
@[simp] theorem fMv_eq (r : Fr2) : fMv fe r δ = (fe δ).bind fun p => (esc p.1 p.2).bind fun q => (r q.2).map fun s => (.val q.1 :: s.1, s.2) := rfl
@[simp] theorem fMi_eq (r : Fr2) : fMi fe r δ = (fe δ).bind fun p => (r p.2).map fun s => (p.1 :: s.1, s.2) := rfl
@[simp] theorem callRs_eq (F : Fm) (rs : List RV) (ds : List D) : callRs F rs ds δ = (toArgs rs δ).bind fun as => if nodupB (slotsOf rs) = true then (F (as ++ ds.map .fz)).bind fun r => (putBack (slotsOf rs) r.2 δ).map fun δ' => (r.1, δ') else none := rfl
@[simp] theorem toArgs_nil : toArgs [] δ = some [] := rfl
@[simp] theorem toArgs_val (x : D) (rs : List RV) : toArgs (.val x :: rs) δ = (toArgs rs δ).map (.fz x :: ·) := rfl
@[simp] theorem toArgs_slot (rs : List RV) : toArgs (.slot i :: rs) δ = match δ[i]? with
    | some (some (.own d)) => (toArgs rs δ).map (.inp d :: ·)
    | some (some (.inp d)) => (toArgs rs δ).map (.inp d :: ·)
    | _ => none := rfl
@[simp] theorem slotsOf_nil : slotsOf [] = [] := rfl
@[simp] theorem slotsOf_val (x : D) (rs : List RV) : slotsOf (.val x :: rs) = slotsOf rs := rfl
@[simp] theorem slotsOf_slot (rs : List RV) : slotsOf (.slot i :: rs) = i :: slotsOf rs := rfl
@[simp] theorem putBack_nil : putBack [] [] δ = some δ := rfl
@[simp] theorem putBack_cons (is : List Nat) (x : D) (ds : List D) : putBack (i :: is) (x :: ds) δ = match δ[i]? with
    | some (some (.own _)) => putBack is ds (δ.set i (some (.own x)))
    | some (some (.inp _)) => putBack is ds (δ.set i (some (.inp x)))
    | _ => none := rfl
@[simp] theorem nodupB_nil : nodupB [] = true := rfl
@[simp] theorem nodupB_cons (is : List Nat) : nodupB (i :: is) = (!is.contains i && nodupB is) := rfl
@[simp] theorem fMove_eq : fMove i δ = match δ[i]? with
  | some (some (.own d)) => some (.new d, δ.set i none)
  | some (some (.fz d)) => some (.val d, δ)
  | _ => none := rfl
@[simp] theorem fPart0_eq : fPart0 δ = some (none, δ) := rfl
@[simp] theorem fPart_eq : fPart fe δ = (fe δ).bind fun p => match p.1 with
  | .val (.int i) => some (some i, p.2)
  | _ => none := rfl
@[simp] theorem fCut_eq (fl fh : Dl → Option (Option Int × Dl)) : fCut fe fl fh δ = (fe δ).bind fun p => (fl p.2).bind fun q => (fh q.2).bind fun r => (peek p.1 r.2).bind fun x => (dCut x q.1 r.1).map fun o => (o, r.2) := rfl
@[simp] theorem fIsi_eq (T : String) : fIsi T fe δ = (fe δ).bind fun p => (peek p.1 p.2).bind fun d => (isiD T d).map fun b => (.val (.bl b), p.2) := rfl
@[simp] theorem fIsi2_eq (Ts : List String) : fIsi2 Ts fe δ = (fe δ).bind fun p => (peek p.1 p.2).bind fun d => (tyN d).map fun n => (.val (.bl (Ts.any fun T => kitTab T n)), p.2) := rfl
@[simp] theorem fBits_eq : fBits fe δ = (fe δ).bind fun p => (peek p.1 p.2).bind fun d => match d with
  | .int i => some (.val (.int (Builtin.Int.intBits i : Nat)), p.2)
  | _ => none := rfl
@[simp] theorem fRevL_eq : fRevL fe δ = (fe δ).bind fun p => (peek p.1 p.2).bind fun d => match d with
  | .lst ds => some (.new (.lst ds.reverse), p.2)
  | _ => none := rfl
@[simp] theorem fGet2_eq (fo fk fx : Fe) : fGet2 fo fk fx δ = (fo δ).bind fun p => (peek p.1 p.2).bind fun x0 => match x0 with
  | .dct _ _ => (fk p.2).bind fun q => (fx q.2).bind fun r => (esc r.1 r.2).bind fun s => (peek p.1 s.2).bind fun x => (peek q.1 s.2).bind fun y => (dGetD x y s.1).map fun d => (.val d, s.2)
  | _ => none := rfl
@[simp] theorem fDisp_eq (f : Fd) : fDisp f δ = (f δ).bind fun p => if p.1.length ≤ 15 then some (.new (.dct false (kvMerge [] p.1)), p.2) else none := rfl
@[simp] theorem fD0_eq : fD0 δ = some ([], δ) := rfl
@[simp] theorem fDk_eq (r : Fd) : fDk fe ge r δ = (fe δ).bind fun p => (esc p.1 p.2).bind fun q => if isKey1 q.1 = true then (ge q.2).bind fun p2 => (esc p2.1 p2.2).bind fun q2 => (r q2.2).map fun s => ((q.1, q2.1) :: s.1, s.2) else none := rfl
@[simp] theorem sFor_eq (t : Tg) (fi : Fi) : sFor t fi f δ = (fi δ).bind fun p => loopM t f p.1 p.2 := rfl
@[simp] theorem fiA_eq (g : List D → Option (List D)) (fa : Fa) : fiA g fa δ = (fa δ).bind fun p => (g p.1).map fun ds => (ds, p.2) := rfl
@[simp] theorem fiOf_eq (g : D → Option (List D)) : fiOf g fe δ = (fe δ).bind fun p => (esc p.1 p.2).bind fun q => (g q.1).map fun ds => (ds, q.2) := rfl
@[simp] theorem fLc_eq (vs : List Nat) (fi : Fi) (t : Tg) : fLc vs fi t c fe δ = (fi δ).bind fun p => if p.1.length ≤ sizeLine ∧ plainAt vs p.2 = true then
    (lcM vs t c fe p.1 (wipeD vs p.2)).map fun q => (.new (.lst q.1), mixD vs p.2 q.2) else none := rfl
@[simp] theorem fDc_eq (vs : List Nat) (fi : Fi) (t : Tg) : fDc vs fi t c fe ge δ = (fi δ).bind fun p => if p.1.length ≤ sizeLine ∧ plainAt vs p.2 = true then
    (dcM vs t c fe ge p.1 [] (wipeD vs p.2)).map fun q => (.new (.dct false q.1), mixD vs p.2 q.2) else none := rfl
@[simp] theorem fYes_eq : fYes δ = some (true, δ) := rfl
@[simp] theorem sSto_eq : sSto i fe ge δ = (ge δ).bind fun p => (esc p.1 p.2).bind fun q => (rootAt i q.2).bind fun _ => (fe q.2).bind fun r => (peek r.1 r.2).bind fun y => (rootAt i r.2).bind fun d => (dSto d y q.1).map fun d' => (.next, setRoot i d' r.2) := rfl
@[simp] theorem rootAt_eq : rootAt i δ = match δ[i]? with
  | some (some (.own d)) => some d
  | some (some (.inp d)) => some d
  | _ => none := rfl
@[simp] theorem setRoot_eq (e : D) : setRoot i e δ = match δ[i]? with
  | some (some (.own _)) => δ.set i (some (.own e))
  | some (some (.inp _)) => δ.set i (some (.inp e))
  | _ => δ := rfl
@[simp] theorem fMut_eq (ty : D → Bool) (g : D → List D → Option (D × D)) (fa : Fa) : fMut ty i g fa δ = (rootAt i δ).bind fun d0 => if ty d0 = true then (fa δ).bind fun p => (rootAt i p.2).bind fun d => (g d p.1).map fun q => (.val q.1, setRoot i q.2 p.2) else none := rfl
@[simp] theorem tgSet_nm (x : D) : tgSet (.nm i) x δ = some (δ.set i (some (.fz x))) := rfl
@[simp] theorem tgSet_tp (is : List Nat) (ds : List D) : tgSet (.tp is) (.tup ds) δ = setAll is (ds.map .val) δ := rfl
@[simp] theorem wipeD_nil : wipeD [] δ = δ := rfl
@[simp] theorem wipeD_cons (vs : List Nat) : wipeD (i :: vs) δ = wipeD vs (δ.set i none) := rfl
@[simp] theorem mixD_nil (δ1 : Dl) : mixD [] δ1 δ = δ := rfl
@[simp] theorem mixD_cons (vs : List Nat) (δ1 : Dl) : mixD (i :: vs) δ1 δ = mixD vs δ1 (δ.set i (δ1[i]?.getD none)) := rfl
@[simp] theorem plainAt_nil : plainAt [] δ = true := rfl
@[simp] theorem plainAt_cons (vs : List Nat) : plainAt (i :: vs) δ = ((match δ[i]? with
  | some (some (.own _)) => false
  | some (some (.inp _)) => false
  | _ => true) && plainAt vs δ) := rfl
end
/-! ### operators -/
section
variable (i j : Int) (xs ys : List D)
@[simp] theorem dAdd_int : dAdd (.int i) (.int j) = some (.val (.int (i + j))) := rfl
@[simp] theorem dAddI_int : dAddI (.int i) (.int j) = some (.val (.int (i + j))) := rfl
@[simp] theorem dSub_int : dSub (.int i) (.int j) = some (.val (.int (i - j))) := rfl
@[simp] theorem dMul_int : dMul (.int i) (.int j) = if mulOk i j = true then some (.val (.int (i * j))) else none := rfl
@[simp] theorem dMod_int : dMod (.int i) (.int j) = if 0 < j then some (.val (.int (i % j))) else none := rfl
@[simp] theorem gInt_int : gInt [.int i] = some (.val (.int i)) := rfl
@[simp] theorem gInt_bl (b : Bool) : gInt [.bl b] = some (.val (.int (if b then 1 else 0))) := rfl
@[simp] theorem gAbs_int : gAbs [.int i] = some (.val (.int (if i < 0 then -i else i))) := rfl
@[simp] theorem gMax_int : gMax [.int i, .int j] = some (.val (.int (max i j))) := rfl
@[simp] theorem gMin_int : gMin [.int i, .int j] = some (.val (.int (min i j))) := rfl
@[simp] theorem gMax_lst : gMax [.lst xs] = (intsOf xs).bind fun is => is.max?.map fun m => .val (.int m) := rfl
@[simp] theorem gMin_lst : gMin [.lst xs] = (intsOf xs).bind fun is => is.min?.map fun m => .val (.int m) := rfl
@[simp] theorem gSum_lst : gSum [.lst xs] = (intsOf xs).map fun is => .val (.int is.sum) := rfl
@[simp] theorem gAll_lst : gAll [.lst xs] = (blsOf xs).map fun bs => .val (.bl (bs.all id)) := rfl
@[simp] theorem gAny_lst : gAny [.lst xs] = (blsOf xs).map fun bs => .val (.bl (bs.any id)) := rfl
@[simp] theorem gLen_lst : gLen [.lst xs] = some (.val (.int xs.length)) := rfl
@[simp] theorem gLen_kl (ns : List Int) : gLen [.kl ns] = some (.val (.int ns.length)) := rfl
@[simp] theorem gLen_dct (kvs : List (D × D)) : gLen [.dct false kvs] = some (.val (.int kvs.length)) := rfl
@[simp] theorem seqOf_lst : seqOf (.lst xs) = some xs := rfl
@[simp] theorem seqOf_tup : seqOf (.tup xs) = some xs := rfl
@[simp] theorem seqOf_dct (kvs : List (D × D)) : seqOf (.dct false kvs) = some (kvs.map (·.1)) := rfl
end
theorem mulOk_of {i j : Int} (h : (-(2 ^ 64) < i ∧ i < 2 ^ 64) ∨ (-(2 ^ 64) < j ∧ j < 2 ^ 64)) : mulOk i j = true := by unfold mulOk; exact decide_eq_true h

/-! ### comprehensions and loops -/
/-- one turn -/
def lcTurn (vs : List Nat) (t : Tg) (c : Ft) (f : Fe) (d : D) (δ : Dl) : Option (Option D × Dl) := (tgSet t d δ).bind fun δ1 => (c δ1).bind fun p => if p.1 = true then (f p.2).bind fun q => (esc q.1 q.2).map fun r => (some r.1, wipeD vs r.2) else some (none, wipeD vs p.2)
theorem lcM_turn (vs : List Nat) (t : Tg) (c : Ft) (f : Fe) (d : D) (ds : List D) (δ : Dl) : lcM vs t c f (d :: ds) δ = (lcTurn vs t c f d δ).bind fun p => (lcM vs t c f ds p.2).map fun s => (match p.1 with
    | some x => x :: s.1
    | none => s.1, s.2) := by
  unfold lcTurn
  simp only [lcM]
  cases tgSet t d δ with
  | none => rfl
  | some δ1 =>
    simp only [Option.bind_some]
    cases c δ1 with
    | none => rfl
    | some p =>
      simp only [Option.bind_some]
      split
      · cases f p.2 with
        | none => rfl
        | some q =>
          simp only [Option.bind_some]
          cases esc q.1 q.2 with
          | none => rfl
          | some r => simp
      · simp
/-- each turn leaves the slots as they are -/
theorem lcM_filter {vs : List Nat} {t : Tg} {c : Ft} {f : Fe} {δ : Dl} (p : D → Bool) (g : D → D) : ∀ {ds : List D}, (∀ d ∈ ds, lcTurn vs t c f d δ = some (if p d = true then some (g d) else none, δ)) → lcM vs t c f ds δ = some ((ds.filter p).map g, δ)
  | [], _ => rfl
  | d :: ds, h => by
    rw [lcM_turn, h d (by simp)]
    simp only [Option.bind_some]
    rw [lcM_filter p g fun d' hd => h d' (List.mem_cons_of_mem _ hd)]
    by_cases hp : p d = true
    · simp [hp]
    · simp [hp]
theorem lcM_map {vs : List Nat} {t : Tg} {c : Ft} {f : Fe} {δ : Dl} (g : D → D) {ds : List D} (h : ∀ d ∈ ds, lcTurn vs t c f d δ = some (some (g d), δ)) : lcM vs t c f ds δ = some (ds.map g, δ) := by
  have := lcM_filter (p := fun _ => true) g (ds := ds) (fun d hd => by simpa using h d hd)
  rw [List.filter_eq_self.mpr (fun _ _ => rfl)] at this
  exact this
/-- by an invariant of what is left and the slots -/
theorem loopM_inv {t : Tg} {b : Fs} (R : List D → Dl → Prop) : ∀ {ds : List D} {δ : Dl}, R ds δ → (∀ d ds δ, R (d :: ds) δ → ∃ fl δ', ((tgSet t d δ).bind b) = some (fl, δ') ∧ (fl = .next ∨ fl = .cnt) ∧ R ds δ') → ∃ δ', loopM t b ds δ = some (.next, δ') ∧ R [] δ'
  | [], δ, h, _ => ⟨δ, rfl, h⟩
  | d :: ds, δ, h, hs => by
    obtain ⟨fl, δ1, e, hf, h1⟩ := hs d ds δ h
    obtain ⟨δ2, e2, h2⟩ := loopM_inv R h1 hs
    refine ⟨δ2, ?_, h2⟩
    obtain ⟨δ0, e3, e4⟩ := Option.bind_eq_some_iff.mp e
    show (tgSet t d δ).bind _ = _
    rw [e3]
    simp only [Option.bind_some]
    rw [e4]
    rcases hf with rfl | rfl
    · exact e2
    · exact e2
end L2.Tl
namespace L2.Tl
theorem mulOk_l {i j : Int} (h1 : -18446744073709551616 < i) (h2 : i < 18446744073709551616) : mulOk i j = true := mulOk_of (.inl ⟨by omega, by omega⟩)
theorem mulOk_r {i j : Int} (h1 : -18446744073709551616 < j) (h2 : j < 18446744073709551616) : mulOk i j = true := mulOk_of (.inr ⟨by omega, by omega⟩)
end L2.Tl
namespace L2.Tl
theorem mulOk_m {a n j : Int} (h1 : 0 < n) (h2 : n < 18446744073709551616) : mulOk (a % n) j = true := mulOk_l (by have := Int.emod_nonneg a (b := n) (by omega); omega) (by have := Int.emod_lt_of_pos a h1; omega)
end L2.Tl
namespace L2.Tl
section
variable {α : Type} {vs : List Nat} {t : Tg} {c : Ft} {f : Fe} {δ : Dl}
theorem lcM_filterF (enc : α → D) (p : α → Bool) (g : α → D) : ∀ {xs : List α}, (∀ x ∈ xs, lcTurn vs t c f (enc x) δ = some (if p x = true then some (g x) else none, δ)) → lcM vs t c f (xs.map enc) δ = some ((xs.filter p).map g, δ)
  | [], _ => rfl
  | x :: xs, h => by
    rw [List.map_cons, lcM_turn, h x (by simp)]
    simp only [Option.bind_some]
    rw [lcM_filterF enc p g fun x' hx => h x' (List.mem_cons_of_mem _ hx)]
    by_cases hp : p x = true
    · simp [hp]
    · simp [hp]
theorem lcM_mapF (enc : α → D) (g : α → D) : ∀ {xs : List α}, (∀ x ∈ xs, lcTurn vs t c f (enc x) δ = some (some (g x), δ)) → lcM vs t c f (xs.map enc) δ = some (xs.map g, δ)
  | [], _ => rfl
  | x :: xs, h => by
    rw [List.map_cons, lcM_turn, h x (by simp)]
    simp only [Option.bind_some]
    rw [lcM_mapF enc g fun x' hx => h x' (List.mem_cons_of_mem _ hx)]
    rfl
/-- a turn of {k: v for ..} -/
def dcTurn (vs : List Nat) (t : Tg) (c : Ft) (fk fv : Fe) (d : D) (δ : Dl) : Option (Option (D × D) × Dl) := (tgSet t d δ).bind fun δ1 => (c δ1).bind fun p => if p.1 = true then
    (fk p.2).bind fun q => (esc q.1 q.2).bind fun r => if isKey1 r.1 = true then (fv r.2).bind fun q2 => (esc q2.1 q2.2).map fun r2 => (some (r.1, r2.1), wipeD vs r2.2) else none
    else some (none, wipeD vs p.2)
theorem dcM_turn {fk fv : Fe} (d : D) (ds : List D) (acc : List (D × D)) : dcM vs t c fk fv (d :: ds) acc δ = (dcTurn vs t c fk fv d δ).bind fun p => dcM vs t c fk fv ds (match p.1 with
    | some kv => kvPut acc kv.1 kv.2
    | none => acc) p.2 := by
  unfold dcTurn
  simp only [dcM]
  cases tgSet t d δ with
  | none => rfl
  | some δ1 =>
    simp only [Option.bind_some]
    cases c δ1 with
    | none => rfl
    | some p =>
      simp only [Option.bind_some]
      split
      · cases fk p.2 with
        | none => rfl
        | some q =>
          simp only [Option.bind_some]
          cases esc q.1 q.2 with
          | none => rfl
          | some r =>
            simp only [Option.bind_some]
            split
            · cases fv r.2 with
              | none => rfl
              | some q2 =>
                simp only [Option.bind_some]
                cases esc q2.1 q2.2 with
                | none => rfl
                | some r2 => simp
            · rfl
      · simp
theorem dcM_mapF {fk fv : Fe} (enc : α → D) (g : α → D × D) : ∀ {xs : List α} {acc : List (D × D)}, (∀ x ∈ xs, dcTurn vs t c fk fv (enc x) δ = some (some (g x), δ)) → dcM vs t c fk fv (xs.map enc) acc δ = some (kvMerge acc (xs.map g), δ)
  | [], _, _ => rfl
  | x :: xs, acc, h => by
    rw [List.map_cons, dcM_turn, h x (by simp)]
    simp only [Option.bind_some]
    rw [dcM_mapF enc g fun x' hx => h x' (List.mem_cons_of_mem _ hx)]
    rfl
/-- by an invariant of what is left and the slots -/
theorem loopM_invF {b : Fs} (enc : α → D) (R : List α → Dl → Prop) : ∀ {xs : List α} {δ : Dl}, R xs δ → (∀ x xs δ, R (x :: xs) δ → ∃ fl δ', ((tgSet t (enc x) δ).bind b) = some (fl, δ') ∧ (fl = .next ∨ fl = .cnt) ∧ R xs δ') → ∃ δ', loopM t b (xs.map enc) δ = some (.next, δ') ∧ R [] δ'
  | [], δ, h, _ => ⟨δ, rfl, h⟩
  | d :: ds, δ, h, hs => by
    obtain ⟨fl, δ1, e, hf, h1⟩ := hs d ds δ h
    obtain ⟨δ2, e2, h2⟩ := loopM_invF enc R h1 hs
    refine ⟨δ2, ?_, h2⟩
    obtain ⟨δ0, e3, e4⟩ := Option.bind_eq_some_iff.mp e
    show (tgSet t (enc d) δ).bind _ = _
    rw [e3]
    simp only [Option.bind_some]
    rw [e4]
    rcases hf with rfl | rfl
    · exact e2
    · exact e2
end
end L2.Tl
namespace L2.Tl
section
variable (i j : Int) (xs ys : List D)
@[simp] theorem dEq_int : dEq (.int i) (.int j) = some (.val (.bl (decide (i = j)))) := by
  by_cases h : i = j <;> simp [dEq, eqOk, D.plain, D.dep, D.eqv, h]
@[simp] theorem dNe_int : dNe (.int i) (.int j) = some (.val (.bl (!decide (i = j)))) := by
  by_cases h : i = j <;> simp [dNe, eqOk, D.plain, D.dep, D.eqv, h]
@[simp] theorem dLt_int : dLt (.int i) (.int j) = some (.val (.bl (decide (i < j)))) := by
  rfl
@[simp] theorem dGt_int : dGt (.int i) (.int j) = some (.val (.bl (decide (j < i)))) := by
  rfl
@[simp] theorem dLe_int : dLe (.int i) (.int j) = some (.val (.bl (decide (i ≤ j)))) := by
  rfl
@[simp] theorem dGe_int : dGe (.int i) (.int j) = some (.val (.bl (decide (j ≤ i)))) := by
  rfl
@[simp] theorem dIx_lst : dIx (.lst xs) (.int i) = (atI xs i).map .val := rfl
@[simp] theorem dIx_tup : dIx (.tup xs) (.int i) = (atI xs i).map .val := rfl
theorem atK {α : Type} {xs : List α} {k : Nat} {x : α} (h : xs[k]? = some x) : atI xs (k : Int) = some x := by
  have hl : k < xs.length := (List.getElem?_eq_some_iff.mp h).1
  have h1 : (k : Int) < (xs.length : Int) := by omega
  unfold atI ixN
  rw [if_pos (Int.natCast_nonneg k), if_pos h1]
  simpa using h
/-- the item at a place, 0 if there is none -/
def ig (l : List Int) (i : Int) : Int := (l[i.toNat]?).getD 0
theorem atI_ig {l : List Int} {i : Int} (h0 : 0 ≤ i) (h1 : i < l.length) : atI (l.map D.int) i = some (.int (ig l i)) := by
  obtain ⟨k, rfl⟩ := Int.eq_ofNat_of_zero_le h0
  have hk : k < l.length := by omega
  refine atK ?_
  simp [ig, hk]
theorem atI_last {α : Type} {xs : List α} {x : α} (h : xs.getLast? = some x) : atI xs (-1) = some x := by
  have hne : xs ≠ [] := fun z => by subst z; simp at h
  have hl : 0 < xs.length := List.length_pos_iff.mpr hne
  unfold atI ixN
  rw [if_neg (by omega), if_pos (by omega)]
  simp only [Option.bind_some]
  rw [List.getLast?_eq_getElem?] at h
  rw [show (-1 + (xs.length : Int)).toNat = xs.length - 1 by omega]
  exact h
end
end L2.Tl
namespace L2.Tl
section
variable {xs ys : List D} {i j : Int}
@[simp] theorem dCut_lst (lo hi : Option Int) : dCut (.lst xs) lo hi = some (.new (.lst (cutD xs lo hi))) := rfl
@[simp] theorem dCut_kl (ns : List Int) (lo hi : Option Int) : dCut (.kl ns) lo hi = some (.new (.lst (cutD (ns.map .int) lo hi))) := rfl
theorem sIx_pos (n d : Nat) (h : 0 ≤ i) : HT.sIx n d (some i) = min i.toNat n := by
  obtain ⟨k, rfl⟩ := Int.eq_ofNat_of_zero_le h
  exact HT.sIx_nat n d k
theorem cutD_from (h : 0 ≤ i) : cutD xs (some i) none = xs.drop i.toNat := by
  unfold cutD
  rw [sIx_pos _ _ h, HT.sIx_none]
  by_cases hl : i.toNat ≤ xs.length
  · rw [Nat.min_eq_left hl]
    exact List.take_of_length_le (by simp)
  · rw [Nat.min_eq_right (by omega), List.drop_eq_nil_of_le (Nat.le_refl _), List.drop_eq_nil_of_le (by omega)]
    simp
theorem cutD_to (h : 0 ≤ i) : cutD xs none (some i) = xs.take i.toNat := by
  unfold cutD
  rw [sIx_pos _ _ h, HT.sIx_none]
  simp only [List.drop_zero, Nat.sub_zero]
  by_cases hl : i.toNat ≤ xs.length
  · rw [Nat.min_eq_left hl]
  · rw [Nat.min_eq_right (by omega), List.take_of_length_le (Nat.le_refl _), List.take_of_length_le (by omega)]
theorem cutD_both (h : 0 ≤ i) (h2 : i ≤ j) : cutD xs (some i) (some j) = (xs.drop i.toNat).take (j.toNat - i.toNat) := by
  unfold cutD
  rw [sIx_pos _ _ h, sIx_pos _ _ (by omega)]
  by_cases hl : i.toNat ≤ xs.length
  · rw [Nat.min_eq_left hl]
    by_cases hj : j.toNat ≤ xs.length
    · rw [Nat.min_eq_left hj]
    · rw [Nat.min_eq_right (by omega), List.take_of_length_le (by simp), List.take_of_length_le (by simp; omega)]
  · rw [List.drop_eq_nil_of_le (show xs.length ≤ min i.toNat xs.length by omega), List.drop_eq_nil_of_le (show xs.length ≤ i.toNat by omega)]
    simp
@[simp] theorem gZip_lst : gZip [.lst xs, .lst ys] = some (zipD xs ys) := rfl
theorem zipD_ints : ∀ (a b : List Int), zipD (a.map .int) (b.map .int) = (a.zip b).map fun p => .tup [.int p.1, .int p.2]
  | [], _ => rfl
  | _ :: _, [] => rfl
  | x :: a, y :: b => by simp [zipD, zipD_ints a b]
end
end L2.Tl
namespace L2.Tl
open PySem PySem.Spec PyProof.Rows
@[simp] theorem dAdd_lst (xs ys : List D) : dAdd (.lst xs) (.lst ys) = if xs.length + ys.length ≤ sizeLine then some (.new (.lst (xs ++ ys))) else none := rfl
@[simp] theorem isKey1_int (i : Int) : isKey1 (.int i) = true := rfl
@[simp] theorem gRng1_int (j : Int) : gRng1 [.int j] = if b62 j = true then some (rngD 0 1 j.toNat) else none := rfl
@[simp] theorem gRng2_int (i j : Int) : gRng2 [.int i, .int j] = if b62 i = true ∧ b62 j = true then some (rngD i 1 (j - i).toNat) else none := rfl
@[simp] theorem gRng3_int (i j : Int) : gRng3 [.int i, .int j, .int (-1)] = if b62 i = true ∧ b62 j = true then some (rngD i (-1) (i - j).toNat) else none := rfl
theorem b62_of {i : Int} (h1 : -4611686018427387904 ≤ i) (h2 : i < 4611686018427387904) : b62 i = true := by
  unfold b62
  exact decide_eq_true ⟨by omega, by omega⟩
@[simp] theorem gApp_lst (xs : List D) (y : D) : gApp (.lst xs) [y] = if xs.length < sizeLine then some (.non, .lst (xs ++ [y])) else none := rfl
@[simp] theorem isL_lst (xs : List D) : isL (.lst xs) = true := rfl
@[simp] theorem isD_dct (t : Bool) (kvs : List (D × D)) : isD (.dct t kvs) = true := rfl
end L2.Tl

set_option Elab.async false
set_option linter.all false
set_option autoImplicit false
set_option maxRecDepth 100000
namespace L2.Tl
open PySem PySem.Spec PyProof.Rows
/-! ### equations: lists whose items are changed -/
section
variable {δ : Dl} {κ : List Kid} {r i : Nat} {f g h : FsN} {c : Ft} {fe ge he : Fe}
@[simp] theorem noAt_eq : noAt r δ = match δ[r]? with
  | some none => true
  | _ => false := rfl
@[simp] theorem nNext_eq : nNext δ κ = some (.next, δ, κ) := rfl
@[simp] theorem nSeq_eq : nSeq f g δ κ = (f δ κ).bind fun p => match p.1 with
  | .next => g p.2.1 p.2.2
  | _ => some p := rfl
@[simp] theorem nIf_eq : nIf c r f g δ κ = (c δ).bind fun p => if noAt r p.2 = true then (if p.1 = true then f p.2 κ else g p.2 κ) else none := rfl
@[simp] theorem nAsg_eq (t : Tg) : nAsg r t fe δ κ = (fe δ).bind fun p => (esc p.1 p.2).bind fun q => if noAt r q.2 = true then (tgSet t q.1 q.2).bind fun δ' => if noAt r δ' = true then some (.next, δ', κ) else none else none := rfl
@[simp] theorem nLoad_eq : nLoad r i fe δ κ = (fe δ).bind fun p => if noAt r p.2 = true then (peek p.1 p.2).bind fun z => match z with
  | .int z => (ixN κ.length z).bind fun j => (κ[j]?).map fun kid => (.next, p.2.set i (some (.fz kid.d)), κ.set j (.fr kid.d))
  | _ => none
  else none := rfl
@[simp] theorem nSto2_eq : nSto2 r fe ge he δ κ = (he δ).bind fun p => (esc p.1 p.2).bind fun q => if noAt r q.2 = true then (fe q.2).bind fun p1 => if noAt r p1.2 = true then (peek p1.1 p1.2).bind fun z => match z with
    | .int z => (ixN κ.length z).bind fun j => match κ[j]? with
      | some (.ex _) => (ge p1.2).bind fun p2 => if noAt r p2.2 = true then (peek p2.1 p2.2).bind fun y => match κ[j]? with
        | some (.ex d) => (dSto d y q.1).map fun d' => (.next, p2.2, κ.set j (.ex d'))
        | _ => none
        else none
      | _ => none
    | _ => none
    else none
  else none := rfl
@[simp] theorem nSto1_eq : nSto1 r fe ge δ κ = (ge δ).bind fun p => (esc p.1 p.2).bind fun q => if noAt r q.2 = true then (fe q.2).bind fun p1 => if noAt r p1.2 = true then (peek p1.1 p1.2).bind fun z => match z with
    | .int z => (ixN κ.length z).map fun j => (.next, p1.2, κ.set j (.fr q.1))
    | _ => none
    else none
  else none := rfl
@[simp] theorem nFor_eq (t : Tg) (fi : Fi) : nFor r t fi f δ κ = (fi δ).bind fun p => if noAt r p.2 = true then loopN r t f p.1 p.2 κ else none := rfl
@[simp] theorem rRet_eq : rRet δ κ = some (.lst (κ.map Kid.d), δ) := rfl
@[simp] theorem rSeq_eq (g : Dl → List Kid → Option (D × Dl)) : rSeq f g δ κ = (f δ κ).bind fun p => match p.1 with
  | .next => g p.2.1 p.2.2
  | _ => none := rfl
@[simp] theorem sNew_eq (g : Dl → Option (List Kid × Dl)) (k : Dl → List Kid → Option (D × Dl)) : sNew r g k δ = (g δ).bind fun p => if r < p.2.length then (k (p.2.set r none) p.1).map fun q => (.ret (.val q.1), q.2) else none := rfl
@[simp] theorem nLc_eq (vs : List Nat) (fi : Fi) (t : Tg) (fn : Fn) : nLc vs fi t fn δ = (fi δ).bind fun p => if p.1.length ≤ sizeLine ∧ plainAt vs p.2 = true then
    (lcN vs t fn p.1 (wipeD vs p.2)).map fun q => (q.1, mixD vs p.2 q.2) else none := rfl
theorem lcN_mapF {α : Type} {vs : List Nat} {t : Tg} {fn : Fn} (enc : α → D) (o : α → OV) : ∀ {xs : List α}, (∀ x ∈ xs, ((tgSet t (enc x) δ).bind fun δ1 => (fn δ1).map fun q => (q.1, wipeD vs q.2)) = some (o x, δ)) → lcN vs t fn (xs.map enc) δ = some (xs.map fun x => kidOf (o x), δ)
  | [], _ => rfl
  | x :: xs, h => by
    have h1 := h x (by simp)
    obtain ⟨δ1, e1, e2⟩ := Option.bind_eq_some_iff.mp h1
    obtain ⟨q, e3, e4⟩ := Option.map_eq_some_iff.mp e2
    rw [List.map_cons]
    show (tgSet t (enc x) δ).bind _ = _
    rw [e1]
    simp only [Option.bind_some]
    rw [e3]
    simp only [Prod.mk.injEq] at e4
    obtain ⟨e4, e5⟩ := e4
    simp only [Option.bind_some]
    rw [e5, lcN_mapF enc o fun x' hx => h x' (List.mem_cons_of_mem _ hx), e4]
    rfl
@[simp] theorem kidOf_val (x : D) : kidOf (.val x) = .fr x := rfl
@[simp] theorem kidOf_new (x : D) : kidOf (.new x) = .ex x := rfl
@[simp] theorem kid_fr (x : D) : (Kid.fr x).d = x := rfl
@[simp] theorem kid_ex (x : D) : (Kid.ex x).d = x := rfl
@[simp] theorem f1Call_eq (F : List SV → Option D) (fa : Fa) : f1Call F fa δ = (fa δ).bind fun p => (F (p.1.map .fz)).map fun d => (d, p.2) := rfl
@[simp] theorem sFor1_eq (f : F1) (fb : Fs) : sFor1 i f fb δ = (f δ).bind fun p => (fb (p.2.set i (some (.own p.1)))).bind fun q => match q.1 with
  | .ret o => some (.ret o, q.2)
  | _ => some (.next, q.2) := rfl
theorem loopM_next {t : Tg} {b : Fs} {d : D} {ds : List D} {δ δ' : Dl} (h : (tgSet t d δ).bind b = some (.next, δ')) : loopM t b (d :: ds) δ = loopM t b ds δ' := by
  obtain ⟨δ0, e3, e4⟩ := Option.bind_eq_some_iff.mp h
  show (tgSet t d δ).bind _ = _
  rw [e3]
  simp only [Option.bind_some]
  rw [e4]
  rfl
theorem loopN_next {t : Tg} {d : D} {ds : List D} {δ' : Dl} {κ' : List Kid} (h : ((tgSet t d δ).bind fun δ1 => if noAt r δ1 = true then f δ1 κ else none) = some (.next, δ', κ')) : loopN r t f (d :: ds) δ κ = loopN r t f ds δ' κ' := by
  obtain ⟨δ0, e3, e4⟩ := Option.bind_eq_some_iff.mp h
  show (tgSet t d δ).bind _ = _
  rw [e3]
  simp only [Option.bind_some]
  split at e4
  case isFalse => cases e4
  rename_i hn
  rw [if_pos hn, e4]
  rfl
theorem loopW_next {b : Fs} {n : Nat} {δ' δ1 : Dl} (hc : c δ = some (true, δ1)) (hb : b δ1 = some (.next, δ')) : loopW c b (n + 1) δ = loopW c b n δ' := by
  show (c δ).bind _ = _
  rw [hc]
  simp only [Option.bind_some, if_true]
  rw [hb]
  rfl
theorem loopW_end {b : Fs} {n : Nat} {δ1 : Dl} (hc : c δ = some (false, δ1)) : loopW c b (n + 1) δ = some (.next, δ1) := by
  show (c δ).bind _ = _
  rw [hc]
  rfl
end
/-! ### plain things -/
theorem plainL_of {xs : List D} (h : ∀ x ∈ xs, x.plain = true) : plainL xs = true := by
  induction xs with
  | nil => rfl
  | cons x xs ih =>
    simp only [plainL, Bool.and_eq_true]
    exact ⟨h x (by simp), ih fun y hy => h y (List.mem_cons_of_mem _ hy)⟩
theorem depL_of {xs : List D} {n : Nat} (h : ∀ x ∈ xs, x.dep ≤ n) : depL xs ≤ n := by
  induction xs with
  | nil => exact Nat.zero_le _
  | cons x xs ih =>
    simp only [depL]
    exact Nat.max_le.mpr ⟨h x (by simp), ih fun y hy => h y (List.mem_cons_of_mem _ hy)⟩
@[simp] theorem plain_lst (xs : List D) : (D.lst xs).plain = plainL xs := rfl
@[simp] theorem plain_tup (xs : List D) : (D.tup xs).plain = plainL xs := rfl
@[simp] theorem plain_int (i : Int) : (D.int i).plain = true := rfl
@[simp] theorem dep_int (i : Int) : (D.int i).dep = 0 := rfl
@[simp] theorem dep_lst (xs : List D) : (D.lst xs).dep = depL xs + 1 := rfl
@[simp] theorem dep_tup (xs : List D) : (D.tup xs).dep = depL xs + 1 := rfl
@[simp] theorem plainL_ints (is : List Int) : plainL (is.map .int) = true := plainL_of fun x hx => by
  obtain ⟨i, _, rfl⟩ := List.mem_map.mp hx
  rfl
@[simp] theorem depL_ints (is : List Int) : depL (is.map .int) = 0 := Nat.le_zero.mp (depL_of fun x hx => by
  obtain ⟨i, _, rfl⟩ := List.mem_map.mp hx
  exact Nat.le_refl _)
@[simp] theorem eqvL_ints : ∀ a b : List Int, eqvL (a.map .int) (b.map .int) = decide (a = b)
  | [], [] => rfl
  | [], _ :: _ => by simp [eqvL]
  | _ :: _, [] => by simp [eqvL]
  | x :: a, y :: b => by
    show (D.eqv (.int x) (.int y) && eqvL (a.map .int) (b.map .int)) = _
    rw [eqvL_ints a b]
    show ((x == y) && _) = _
    by_cases h : x = y
    · subst h; simp
    · simp [h]
theorem dNe_nil {xs : List D} (h : plainL xs = true) : dNe (.lst xs) (.lst []) = some (.val (.bl (!xs.isEmpty))) := by
  have h1 : eqOk (.lst xs) (.lst []) = true := by
    simp only [eqOk, Bool.and_eq_true, decide_eq_true_eq]
    exact ⟨h, rfl, Nat.le_trans (Nat.min_le_right _ _) (by decide)⟩
  unfold dNe
  rw [if_pos h1]
  cases xs <;> rfl
theorem dEq_nil {xs : List D} (h : plainL xs = true) : dEq (.lst xs) (.lst []) = some (.val (.bl xs.isEmpty)) := by
  have h1 : eqOk (.lst xs) (.lst []) = true := by
    simp only [eqOk, Bool.and_eq_true, decide_eq_true_eq]
    exact ⟨h, rfl, Nat.le_trans (Nat.min_le_right _ _) (by decide)⟩
  unfold dEq
  rw [if_pos h1]
  cases xs <;> rfl
theorem dEq_ints (a b : List Int) : dEq (.lst (a.map .int)) (.lst (b.map .int)) = some (.val (.bl (decide (a = b)))) := by
  have h1 : eqOk (.lst (a.map .int)) (.lst (b.map .int)) = true := by
    simp [eqOk]
  unfold dEq
  rw [if_pos h1]
  show some (OV.val (.bl (eqvL _ _))) = _
  rw [eqvL_ints]
theorem dNe_ints (a b : List Int) : dNe (.lst (a.map .int)) (.lst (b.map .int)) = some (.val (.bl (!decide (a = b)))) := by
  have h1 : eqOk (.lst (a.map .int)) (.lst (b.map .int)) = true := by
    simp [eqOk]
  unfold dNe
  rw [if_pos h1]
  show some (OV.val (.bl (!eqvL _ _))) = _
  rw [eqvL_ints]
@[simp] theorem gPop_snoc (xs : List D) (y : D) : gPop (.lst (xs ++ [y])) [] = some (y, .lst xs) := by
  show ((xs ++ [y])[(xs ++ [y]).length - 1]?).map _ = _
  simp
theorem gMax2_ii (a b c d : Int) : gMax2 [.tup [.int a, .int b], .tup [.int c, .int d]] = some (.val (if a < c ∨ (a = c ∧ b < d) then .tup [.int c, .int d] else .tup [.int a, .int b])) := by
  have h : ∀ a b : Int, pdL [.int a, .int b] = some [.int a, .int b] := fun a b => by simp [pdL, D.pd]
  have al : ∀ a b c d : Int, PySem.W.alike (.tuple [.int a, .int b]) (.tuple [.int c, .int d]) = true := fun a b c d => by simp [PySem.W.alike, PySem.W.alikeAll]
  simp only [gMax2, h, Option.bind_some, al, true_and, PySem.W.dataLt_ii, decide_eq_true_eq]
  have hd : PySem.PyData.depthAll [PyData.tuple [.int a, .int b], .tuple [.int c, .int d]] ≤ 60 := by
    simp [PySem.PyData.depthAll, PySem.PyData.depth]
  rw [if_pos hd]
end L2.Tl

set_option Elab.async false
set_option linter.all false
set_option autoImplicit false
set_option maxRecDepth 100000
namespace L2.TlV
open PySem
open Sem (wp)
section
variable {prog : Program} {w : World} {K : Type} [DecidableEq K] {knd : KeyKind prog w K} {A : Around} {E : Value → Shared → Prop} {s : Shared}
theorem put_rule {p : Addr} {old : List (K × Value)} {k : K} {kv x : Value} {R : Unit → Shared → Prop} (hk : knd.is k kv = true) (there : s.heap.DictOf knd p old) (small : old.length ≤ sizeLine)
    (then' : ∀ g, g.DictOf knd p (stored old k x) → Heap.SameBut p s.heap g → R () { s with heap := g }) : wpAny (model prog w) A (dictPut p (knd.hash k) kv x) R E s := by
  obtain ⟨ob, ents, eph, h1, h2, h3, h4, h5, h6⟩ := there
  have hsmall : ents.size ≤ sizeLine := by
    have e1 := h5.length
    have e2 : ents.toList.length = ents.size := by simp
    omega
  unfold dictPut
  refine wpAny_bind (wpAny_dictFind_of hk h1 h3 h4 ?_)
  have same : (ents.findIdx? fun e => knd.is k e.key) = old.findIdx? fun q => decide (q.1 = k) := by
    rw [← h5.findIdx k]
    obtain ⟨l⟩ := ents
    simp
  cases found : ents.findIdx? fun e => knd.is k e.key with
  | some j =>
    refine wpAny_updateDict h1 h3 (then' _ ⟨_, _, eph, Heap.get?_update_self _ h1 (Obj.isFreed_of_dict (Obj.data_mapDict h3 _)), h2.mapDict _, Obj.data_mapDict h3 _, h4.modify _ _, ?_, ?_⟩ (Heap.SameBut.update ..))
    · rw [stored, if_pos (any_of_findIdx_some (same ▸ found))]
      have at' : (ents.toList.findIdx? fun e => knd.is k e.key) = some j := by
        rw [← found]
        obtain ⟨l⟩ := ents
        simp
      have r := h5.modify h6 at' x
      obtain ⟨l⟩ := ents
      simpa using r
    · rw [stored, if_pos (any_of_findIdx_some (same ▸ found)), keys_map_store]
      exact h6
  | none =>
    have new : k ∉ old.map (·.1) := not_mem_of_findIdx_none (same ▸ found)
    have none' : ¬ (old.any fun q => decide (q.1 = k)) = true := by
      rw [List.any_eq_true]
      rintro ⟨q, hq, he⟩
      exact new (List.mem_map.mpr ⟨q, hq, of_decide_eq_true he⟩)
    refine wpAny_updateDictKeys (hz := hsmall) h1 h3 (then' _ ⟨_, _, eph + 1, Heap.get?_update_self _ h1 (Obj.isFreed_of_dict (Obj.data_mapDictKeys h3 _)), h2.mapDictKeys _, Obj.data_mapDictKeys h3 _, h4.push hk _, ?_, ?_⟩ (Heap.SameBut.update ..))
    · rw [stored, if_neg none']
      have r := h5.append hk (knd.hash k) x
      obtain ⟨l⟩ := ents
      simpa using r
    · rw [stored, if_neg none', List.map_append, List.nodup_append]
      refine ⟨h6, by simp, fun a ha b hb e => ?_⟩
      simp only [List.map_cons, List.map_nil, List.mem_singleton] at hb
      subst hb
      exact new (e ▸ ha)
/-- a plain dict put into another one -/
theorem merge_rule {p q : Addr} {old more : List (K × Value)} {R : Unit → Shared → Prop} (byV : ∀ k v, knd.is k v = true → ∀ a, v ≠ .ref a) (ne : p ≠ q) (big : (q == sysModules) = false) (h1 : s.heap.DictOf knd p old) (h2 : s.heap.DictOf knd q more) (small : old.length + more.length ≤ sizeLine)
    (then' : ∀ g, g.DictOf knd p (merged old more) → Heap.SameBut p s.heap g → R () { s with heap := g }) : wpAny (model prog w) A (mergeMapping p (.ref q) false) R E s := by
  obtain ⟨op, ep, np, a1, a2, a3, a4, a5, a6⟩ := id h1
  obtain ⟨oq, eq, nq, b1, b2, b3, b4, b5, b6⟩ := id h2
  have hlen : more.length = eq.size := by
    have e1 := b5.length
    have e2 : eq.toList.length = eq.size := by simp
    omega
  unfold mergeMapping
  refine wpAny_bind (wpAny_isInstance h2.typeIs isSubtype_dict_dict ?_)
  simp only [if_true]
  refine wpAny_bind (wpAny_specialOf h2.typeIs F.slot_dict_iter.lookup (wpAny_bind (wpAny_pure ?_)))
  simp only [beq_self_eq_true]
  rw [if_neg (by rw [big]; exact Bool.false_ne_true)]
  refine wpAny_bind (wpAny_dictEntries a1 a3 ?_)
  have walk : wpAny (model prog w) A (do
      let l ← dictEntries q
      let epoch ← dictEpoch q
      forIn (List.range l.size) PUnit.unit fun i (_ : PUnit) => (do
        let l' ← dictEntries q
        match l'[i]? with
          | some e => do
            holding [e.key, e.val] (dictPut p e.hash e.key e.val)
            let ep' ← dictEpoch q
            if (ep' != epoch) = true then do
                (unsupported "dict.changed-during-merge" : Sem PUnit)
                pure (ForInStep.yield PUnit.unit)
              else pure (ForInStep.yield PUnit.unit)
          | _ => do
            (unsupported "dict.changed-during-merge" : Sem PUnit)
            pure (ForInStep.yield PUnit.unit) : Sem (ForInStep PUnit))
      pure ()) R E s := by
    refine wpAny_bind (wpAny_dictEntries b1 b3 ?_)
    refine wpAny_bind (wpAny_dictEpoch b1 b3 ?_)
    refine wpAny_bind ?_
    rw [List.range_eq_range']
    refine wpAny_forIn_list _ (fun rest _ s' => ∃ g i, s' = { s with heap := g } ∧ rest = List.range' i (eq.size - i) ∧ i ≤ eq.size ∧ g.DictOf knd p (merged old (more.take i)) ∧ g.get? q = some oq ∧ Heap.SameBut p s.heap g)
      _ ?_ ?_ _ _ ⟨s.heap, 0, rfl, by simp, Nat.zero_le _, by simpa [merged] using h1, b1, Heap.SameBut.refl _ _⟩
    · rintro x rest b s' ⟨g, i, rfl, hr, hi, hd, hq, hs⟩
      have lt : i < eq.size := by
        rcases Nat.lt_or_ge i eq.size with h | h
        · exact h
        · rw [Nat.sub_eq_zero_of_le h] at hr
          simp at hr
      have e0 : eq.size - i = (eq.size - (i + 1)) + 1 := by omega
      rw [e0, List.range'_succ] at hr
      injection hr with hx hrest
      subst hx
      refine wpAny_bind (wpAny_dictEntries hq b3 ?_)
      rw [Array.getElem?_eq_getElem lt]
      obtain ⟨⟨k, v⟩, hkv⟩ : ∃ kv, more[x]? = some kv := ⟨more[x]'(by rw [hlen]; exact lt), List.getElem?_eq_getElem _⟩
      obtain ⟨hkey, hval⟩ := b5.get? (e := eq[x]) (by simp [lt]) hkv
      obtain ⟨k', hk', hash⟩ := b4 eq[x] (Array.getElem_mem lt)
      obtain rfl : k' = k := knd.inj _ _ _ hk' hkey
      have room : (merged old (more.take x)).length ≤ sizeLine := by
        have r1 := merged_length_le old (more.take x)
        have r2 : (more.take x).length ≤ more.length := by rw [List.length_take]; omega
        omega
      dsimp only
      rw [hash, hval]
      refine wpAny_bind (wpAny_holding (put_rule hkey hd room fun g2 hd2 hs2 => ?_))
      have hq2 : g2.get? q = some oq := (hs2.2 q (Ne.symm ne)).trans hq
      refine wpAny_bind (wpAny_dictEpoch hq2 b3 ?_)
      rw [if_neg (by simp)]
      exact wpAny_pure ⟨g2, x + 1, rfl, hrest, lt, by rw [merged_take_succ old more x (k', v) hkv]; exact hd2, hq2, hs.trans hs2⟩
    · rintro b s' ⟨g, i, rfl, hr, hi, hd, hq, hs⟩
      have all : i = eq.size := by
        rcases Nat.lt_or_ge i eq.size with h | h
        · have e : eq.size - i = (eq.size - (i + 1)) + 1 := by omega
          rw [e, List.range'_succ] at hr
          exact nomatch hr
        · exact Nat.le_antisymm hi h
      refine wpAny_pure (then' g ?_ hs)
      rw [all, ← hlen, List.take_length] at hd
      exact hd
  split
  · refine wpAny_bind (wpAny_dictEntries b1 b3 (wpAny_bind ?_))
    refine wpAny_forIn_array' _ (fun rest _ s' => s' = s ∧ ∀ e ∈ rest, e ∈ eq.toList) _ ?_ ?_ _ _ ⟨rfl, fun e h => h⟩
    · rintro e rest b s' ⟨rfl, hm⟩
      obtain ⟨k, hk, _⟩ := b4 e (by have := hm e (by simp); simpa using this)
      have hv := byV k e.key hk
      split
      · rename_i a' ha
        exact absurd ha (hv a')
      · exact wpAny_pure ⟨rfl, fun e' h => hm e' (List.mem_cons_of_mem _ h)⟩
    · rintro b s' ⟨rfl, _⟩
      exact walk
  · exact walk
theorem gather (d : Addr) (f : (Option (Sem Value) × Sem Value) → (Option Addr × List (Sem Value × Sem Value)) → Sem (ForInStep (Option Addr × List (Sem Value × Sem Value))))
    (hf : ∀ (p : Sem Value × Sem Value) (run : List (Sem Value × Sem Value)), run.length + 1 < 17 → f (some p.1, p.2) (some d, run) = pure (.yield (some d, run ++ [p]))) :
    ∀ (l run : List (Sem Value × Sem Value)), run.length + l.length < 17 → forIn (l.map fun p => (some p.1, p.2)) (some d, run) f = pure (some d, run ++ l)
  | [], run, _ => by simp
  | p :: l, run, h => by
    simp only [List.length_cons] at h
    rw [List.map_cons, List.forIn_cons, hf p run (by omega), pure_bind]
    have r := gather d f hf l (run ++ [p]) (by rw [List.length_append, List.length_singleton]; omega)
    simpa using r
theorem star_wp {ve : Sem Value} {pairs : List (Sem Value × Sem Value)} {Q : Value → Shared → Prop} (h0 : pairs ≠ []) (hlen : pairs.length ≤ 15)
    (h : wpAny (model prog w) A ve (fun m s1 => wpAny (model prog w) A (mergeMapping s.heap.objs.size m false) (fun _ s2 => wpAny (model prog w) A (subDict pairs) (fun q s3 => wpAny (model prog w) A (mergeMapping s.heap.objs.size (.ref q) false) (fun _ s4 => Q (.ref s.heap.objs.size) s4) (fun _ _ => False) s3) E s2) (fun _ _ => False) s1) E { s with heap := s.heap.push { cls := .type "dict", data := .dict #[] } }) :
    wpAny (model prog w) A (dictDisplay ((none, ve) :: pairs.map fun p => (some p.1, p.2))) Q E s := by
  unfold dictDisplay
  dsimp only
  rw [List.forIn_cons]
  dsimp only
  refine wpAny_bind (wpAny_bind (wpAny_bind ?_))
  rw [if_pos (by rfl)]
  refine wpAny_pure ?_
  dsimp only
  refine wpAny_bind (wpAny_alloc ?_)
  refine wpAny_bind (wpAny_holding (wpAny_mono h (fun m s1 h1 => ?_) fun _ _ e => e))
  refine wpAny_bind (wpAny_onRaise (wpAny_tryCatch (wpAny_onRaise (wpAny_holding (wpAny_mono h1 (fun _ s2 h2 => ?_) fun _ _ e => e.elim)))))
  refine wpAny_pure ?_
  dsimp only
  rw [gather _ _ (fun p run hr => by
    have hne : ((run ++ [(p.1, p.2)]).length == 17) = false := by simp; omega
    simp only [hne, Bool.false_eq_true, if_false]) pairs [] (by simp; omega)]
  refine wpAny_bind (wpAny_pure (wpAny_pure ?_))
  have hp : ([] ++ pairs).isEmpty = false := by cases pairs with
    | nil => exact absurd rfl h0
    | cons _ _ => rfl
  dsimp only
  rw [hp]
  refine wpAny_bind ?_
  rw [if_neg (by exact Bool.false_ne_true)]
  refine wpAny_bind (wpAny_holding (wpAny_mono h2 (fun q s3 h3 => ?_) fun _ _ e => e))
  refine wpAny_bind (wpAny_onRaise (wpAny_holding (wpAny_mono h3 (fun _ s4 h4 => ?_) fun _ _ e => e.elim)))
  exact wpAny_pure (wpAny_pure h4)
end
end L2.TlV

set_option Elab.async false
set_option linter.all false
set_option autoImplicit false
set_option maxRecDepth 100000
namespace L2.TlV
open PySem PySem.Spec PyProof.Rows
open Sem (wp)
theorem mix_val {P : Program} {w : World} : ∀ (k : Key) (v : Value), (mixKind P w).is k v = true → ∀ a, v ≠ .ref a := fun k v h a e => by
  rcases keyIs_shape (show keyIs k v = true from h) with ⟨i, t, _, ev⟩ | ⟨z, t, _, ev⟩
  · rw [ev] at e; cases e
  · rw [ev] at e; cases e
/-- {**e, k: v, ..} -/
def tDispS (te : TE) (trs : List (TE × TE)) : TE := fun σ H Q => ∀ p, H p = none → te σ (upd H p (.dK [])) fun x H1 => H1 p = some (.dK []) ∧ ∃ (a : Addr) (old : List (Key × V)), x = V.ref a ∧ a ≠ p ∧ Rd H1 a (.dK old) ∧ old.length ≤ 1000 ∧
  ∀ q, upd H1 p (.dK (mergeK [] old)) q = none → tPairs trs σ (upd (upd H1 p (.dK (mergeK [] old))) q (.dK [])) fun ps H2 => H2 p = some (.dK (mergeK [] old)) ∧ H2 q = some (.dK []) ∧
    ∃ kvs : List (Key × V), ps = kvs.map (fun kv => (kV kv.1, kv.2)) ∧ kvs.length ≤ 15 ∧ Q (.ref p) (upd (upd H2 q (.dK (mergeK [] kvs))) p (.dK (mergeK (mergeK [] old) (mergeK [] kvs))))
theorem pe_dispS {X : Cx} {pos : Pos} {e : Expr} {te : TE} {keys : List (Option Expr)} {values : List Expr} {trs : List (TE × TE)} (he : PE X e te) (h : PPs X pos keys values trs) (hall : keys.all (·.isSome) = true) (hl : keys.length = values.length) (h0 : keys ≠ [])
    (h15 : keys.length ≤ 15) : PE X (.Dict (none :: keys) (e :: values) pos) (tDispS te trs) := by
  refine ⟨fun pins s σ H Q I q => ?_⟩
  have hn := I.hok.fresh (Nat.le_refl s.heap.objs.size)
  have I1 := I.laid (a := s.heap.objs.size) (o := .dK []) (h' := s.heap.push { cls := .type "dict", data := .dict #[] }) (t' := s.toks) (fun _ _ q => Heap.get?_push_of_some _ q) (Nat.le_refl _) (dk_empty s.heap I.big)
  have hlen := pairTrees_length keys values X.env pos hall hl
  have hne : pairTrees keys values X.env pos ≠ [] := fun z => by
    rw [z] at hlen
    exact h0 (List.length_eq_zero_iff.mp hlen.symm)
  rw [arm_eval_Dict]
  refine wpAny_bind (wpAny_standAt ?_)
  have hz : (evalEachOpt (none :: keys) X.env).zip ((evalEach (e :: values) X.env).map fun v => do let x ← v; standAt pos; pure x) = (none, do let x ← eval e X.env; standAt pos; pure x) :: (pairTrees keys values X.env pos).map fun p => (some p.1, p.2) := by
    rw [← zip_pairTrees keys values X.env pos hall hl]
    rfl
  rw [hz]
  refine star_wp hne (by rw [hlen]; exact h15) ?_
  refine wpAny_bind (thn (he.run pins _ σ _ _ I1 (q _ hn)) fun u s1 ⟨x, H1, I2, rx, e1, a, old, ex, ap, ra, hold, q1⟩ => ?_)
  subst ex
  cases rx
  refine wpAny_bind (wpAny_standAt (wpAny_pure ?_))
  obtain ⟨z1, d1, vs1, rel1, dd1⟩ := dk_of I2.hok e1
  cases rel1
  obtain ⟨z2, d2, vs2, rel2, dd2⟩ := dk_rd I2.hok ra
  have l2 : vs2.length = old.length := rel2.length.symm
  refine merge_rule (knd := mixKind X.prog X.w) mix_val (Ne.symm ap) d2 dd1 dd2 (by rw [sizeLine_eq, l2]; simp; omega) fun g dg sg => ?_
  have hz1 : (mergeK [] old).length ≤ sizeLine := by
    have r := length_mergeK old []
    rw [List.length_nil] at r
    rw [sizeLine_eq]; omega
  have I3 : Inv X pins σ (upd H1 s.heap.objs.size (.dK (mergeK [] old))) { s1 with heap := g } := d_write I2 (by rw [e1]; exact True.intro) sg (let ⟨q, _, _, hq, _⟩ := dg; ⟨q, hq⟩) (dk_new hz1 d1 (rel2.merge .nil) dg)
  have hn2 := I3.hok.fresh (Nat.le_refl _)
  have I4 := I3.laid (a := g.objs.size) (o := .dK []) (h' := g.push { cls := .type "dict", data := .dict #[] }) (t' := s1.toks) (fun _ _ q => Heap.get?_push_of_some _ q) (Nat.le_refl _) (dk_empty g I3.big)
  refine wpAny_subDict (knd := mixKind X.prog X.w) (by rw [hlen]; exact h15) (thn (h.run pins _ σ _ _ I4 (q1 _ hn2)) fun ws s2 ⟨ps, H2, I5, rel, e2, e3, kvs, ep, lk, q2⟩ => ?_)
  subst ep
  obtain ⟨rs, c, rk⟩ := carries_of (P := X.prog) (w := X.w) rel
  obtain ⟨z3, d3, vs3, r3, dd3⟩ := dk_of I5.hok e3
  cases r3
  refine ⟨rs, c, dd3, fun g2 dg2 sg2 => ?_⟩
  have hz2 : (mergeK [] kvs).length ≤ sizeLine := by
    have r := length_mergeK kvs []
    rw [List.length_nil] at r
    rw [sizeLine_eq]; omega
  have nepq : s.heap.objs.size ≠ g.objs.size := fun z => by
    rw [← z] at hn2
    rw [upd_same] at hn2
    cases hn2
  have I6 := d_write (t' := s2.toks + ws.length) I5 (by rw [e3]; exact True.intro) sg2 (let ⟨q, _, _, hq, _⟩ := dg2; ⟨q, hq⟩) (dk_new hz2 d3 (rk.merge .nil) dg2)
  have e4 : upd H2 g.objs.size (.dK (mergeK [] kvs)) s.heap.objs.size = some (.dK (mergeK [] old)) := (upd_ne nepq).trans e2
  obtain ⟨z4, d4, vs4, rel4, dd4⟩ := dk_of I6.hok e4
  obtain ⟨z5, d5, vs5, rel5, dd5⟩ := dk_rd I6.hok (.inl (upd_same (H := H2) (a := g.objs.size) (o := .dK (mergeK [] kvs))))
  have l4 : vs4.length = (mergeK [] old).length := rel4.length.symm
  have l5 : vs5.length = (mergeK [] kvs).length := rel5.length.symm
  have m1 : (mergeK [] old).length ≤ 1000 := by
    have r := length_mergeK old []
    rw [List.length_nil] at r
    omega
  have m2 : (mergeK [] kvs).length ≤ 15 := by
    have r := length_mergeK kvs []
    rw [List.length_nil] at r
    omega
  refine merge_rule (knd := mixKind X.prog X.w) mix_val nepq d5 dd4 dd5 (by rw [sizeLine_eq, l4, l5]; omega) fun g3 dg3 sg3 => ?_
  have hz3 : (mergeK (mergeK [] old) (mergeK [] kvs)).length ≤ sizeLine := by
    have r := length_mergeK (mergeK [] kvs) (mergeK [] old)
    rw [sizeLine_eq]; omega
  have I7 := d_write (t' := s2.toks + ws.length) I6 (by rw [e4]; exact True.intro) sg3 (let ⟨q, _, _, hq, _⟩ := dg3; ⟨q, hq⟩) (dk_new hz3 d4 (rel5.merge rel4) dg3)
  exact ⟨.ref s.heap.objs.size, _, I7, rfl, q2⟩
end L2.TlV
namespace L2.Tl
open PySem PySem.Spec PyProof.Rows L2.TlV
theorem Sim.peek_ne {K : PySem.W.Frag} {F : Fr} {G H : Hp} {σ : St} {δ : Dl} {v : V} {r : RV} {kvs : List (D × D)} {p : Addr} (S : Sim K F G H σ δ) (h : RepR K G σ v r) (e : Tl.peek r δ = some (.dct false kvs)) (g : G p = none) (ap : Apart σ δ p) : v ≠ .ref p := fun ev => by
  have fz : Rep K G v (.dct false kvs) → False := fun R => by
    subst ev
    cases R with
    | dK a _ =>
      rcases a with a | ⟨_, a⟩
      · rw [g] at a; cases a
      · rw [g] at a; cases a
  cases r with
  | val x => cases e; exact fz h
  | slot i =>
    have h' : σ[i]? = some (some v) := h
    simp only [Tl.peek] at e
    split at e
    · rename_i x hx
      cases x with
      | fz y =>
        obtain ⟨w, a, b⟩ := S.fz i y hx
        rw [h'] at a; cases a
        cases e
        exact fz b
      | own y => exact ap i _ y hx rfl (ev ▸ h')
      | inp y => exact ap i _ y hx rfl (ev ▸ h')
    · cases e
def fDispS (fe : Fe) (f : Fd) : Fn := fun δ => (fe δ).bind fun p => (peek p.1 p.2).bind fun x => match x with
  | .dct false old => if old.length ≤ 1000 then (f p.2).bind fun q => if q.1.length ≤ 15 then some (.new (.dct false (kvMerge (kvMerge [] old) (kvMerge [] q.1))), q.2) else none else none
  | _ => none
theorem en_dispS {X : Cx} {pos : Pos} {e : Expr} {fe : Fe} {keys : List (Option Expr)} {values : List Expr} {trs : List (TE × TE)} {f : Fd} (he : Ev X e fe) (h : PPs X pos keys values trs) (ht : tPs X.K f trs) (hall : keys.all (·.isSome) = true := by rfl) (hl : keys.length = values.length := by rfl) (h0 : keys ≠ [] := by exact fun z => nomatch z)
    (h15 : keys.length ≤ 15 := by decide) : En X (.Dict (none :: keys) (e :: values) pos) (fDispS fe f) := PE.imp (pe_dispS he h hall hl h0 h15) fun σ H Q ⟨F, G, δ, o, δ', S, e, k⟩ p hp => by
  obtain ⟨⟨r, δ1⟩, e1, e⟩ := Option.bind_eq_some_iff.mp e
  obtain ⟨x, e2, e⟩ := Option.bind_eq_some_iff.mp e
  dsimp only at e
  split at e
  case h_2 => cases e
  rename_i old
  split at e
  case isFalse => cases e
  rename_i hold
  obtain ⟨⟨ds, δ2⟩, e3, e⟩ := Option.bind_eq_some_iff.mp e
  dsimp only at e
  split at e
  case isFalse => cases e
  rename_i hz
  cases e
  have E : Ext G H G (upd H p (.dK [])) := .own S.sub hp
  have hg := none_of_sub S.sub hp
  have ap : Apart σ δ p := fun i x d hx r hs => by
    obtain ⟨q, a1, _, a3⟩ := S.root hx r
    rw [hs] at a1; cases a1
    obtain ⟨u, hu⟩ := a3.there
    rw [hp] at hu; cases hu
  refine ⟨F, G, δ, r, δ1, S.ext E, e1, fun v H1 G1 S1 m1 r1 => ?_⟩
  obtain ⟨h1, g1, ap1⟩ := m1.stay p _ upd_same hg ap
  have ne := S1.peek_ne r1 e2 g1 ap1
  obtain ⟨a, kvs, rfl, ra, rd⟩ := (S1.peek r1 e2).dK S1.sub
  have rdl := rd.len
  refine ⟨h1, a, kvs, rfl, fun z => ne (by rw [z]), ra, by rw [rdl]; exact hold, fun q hq => ?_⟩
  have S2 := S1.away (o := .dK (mergeK [] kvs)) g1 ap1 (S.fresh hp)
  have npq : p ≠ q := fun z => by rw [z, upd_same] at hq; cases hq
  have hq1 : H1 q = none := (upd_ne (Ne.symm npq)).symm.trans hq
  have E2 : Ext G1 (upd H1 p (.dK (mergeK [] kvs))) G1 (upd (upd H1 p (.dK (mergeK [] kvs))) q (.dK [])) := .own S2.sub hq
  have gq := none_of_sub S2.sub hq
  have apq : Apart σ δ1 q := fun i x d hx r hs => by
    obtain ⟨c, a1, _, a3⟩ := S1.root hx r
    rw [hs] at a1; cases a1
    obtain ⟨u, hu⟩ := a3.there
    rw [hq1] at hu; cases hu
  refine ht σ _ _ F G1 δ1 ds _ (S2.ext E2) e3 fun more H2 G2 S3 m3 r3 => ?_
  obtain ⟨h3, g3, ap3⟩ := m3.stay p _ ((upd_ne npq).trans upd_same) g1 ap1
  obtain ⟨h4, g4, ap4⟩ := m3.stay q _ upd_same gq apq
  refine ⟨h3, h4, more, rfl, by rw [r3.len]; exact hz, ?_⟩
  have hq0 : F.H0 q = none := S1.fresh hq1
  have S4 := S3.away (o := .dK (mergeK [] more)) g4 ap4 hq0
  have S5 := S4.away (o := .dK (mergeK (mergeK [] kvs) (mergeK [] more))) g3 ap3 (S.fresh hp)
  have nea : ∀ {c : Addr} {u : HO}, H c = some u → c ≠ p := fun {c u} hh z => by rw [z, hp] at hh; cases hh
  refine k _ _ G2 S5 ⟨m1.le.trans m3.le, fun c u hc gc apc => ?_, fun c hc => ?_⟩ ⟨p, rfl, g3, .dK upd_same (RepD.merge (RepD.merge .nil (rd.mono m3.le)) (RepD.merge .nil r3)), hp, ap3⟩
  · obtain ⟨q1, q2, q3⟩ := m1.stay c u ((upd_ne (nea hc)).trans hc) gc apc
    have ncq : c ≠ q := fun z => by rw [z, hq1] at q1; cases q1
    obtain ⟨w1, w2, w3⟩ := m3.stay c u ((upd_ne ncq).trans ((upd_ne (nea hc)).trans q1)) q2 q3
    exact ⟨(upd_ne (nea hc)).trans ((upd_ne ncq).trans w1), w2, w3⟩
  · by_cases z : c = p
    · subst z; exact hp
    · rw [upd_ne z] at hc
      by_cases y : c = q
      · subst y; rw [upd_same] at hc; cases hc
      · rw [upd_ne y] at hc
        have := m3.dom c hc
        rw [upd_ne y, upd_ne z] at this
        have := m1.dom c this
        rwa [upd_ne z] at this
end L2.Tl

set_option Elab.async false
set_option linter.all false
set_option autoImplicit false
set_option maxRecDepth 100000
namespace L2.Tl
open PySem PySem.Spec PyProof.Rows
/-! ### texts in order -/
theorem ltCps_eq : ∀ a b : List Nat, ltCps a b = decide (a < b)
  | [], [] => by simp [ltCps]
  | [], _ :: _ => by simp [ltCps]
  | _ :: _, [] => by simp [ltCps]
  | x :: a, y :: b => by
    show (decide (x < y) || (x == y && ltCps a b)) = _
    rw [ltCps_eq a b]
    by_cases h1 : x < y
    · have : x :: a < y :: b := List.cons_lt_cons_iff.mpr (.inl h1)
      simp [h1, this]
    · by_cases h2 : x = y
      · subst h2
        by_cases h3 : a < b
        · have : x :: a < x :: b := List.cons_lt_cons_iff.mpr (.inr ⟨rfl, h3⟩)
          simp [h3, this]
        · have : ¬ x :: a < x :: b := fun z => by
            rcases List.cons_lt_cons_iff.mp z with z | z
            · omega
            · exact h3 z.2
          simp [h3, this]
      · have : ¬ x :: a < y :: b := fun z => by
          rcases List.cons_lt_cons_iff.mp z with z | z
          · exact h1 z
          · exact h2 z.1
        simp [h1, h2, this]
def cpL (x : Str) : List Nat := x.cps.toList
theorem cpL_inj {x y : Str} (h : cpL x = cpL y) : x = y := PySem.W.str_of_cps h
def sLe (a b : Str) : Bool := decide (cpL a ≤ cpL b)
theorem sLe_not (a b : Str) : (!ltCps b.cps.toList a.cps.toList) = sLe a b := by
  rw [ltCps_eq]
  unfold sLe cpL
  by_cases h : b.cps.toList < a.cps.toList
  · have : ¬ a.cps.toList ≤ b.cps.toList := fun z => List.not_lt.mpr z h
    simp [h, this]
  · have : a.cps.toList ≤ b.cps.toList := List.not_lt.mp h
    simp [h, this]
theorem sLe_trans (a b c : Str) (h1 : sLe a b = true) (h2 : sLe b c = true) : sLe a c = true := by
  unfold sLe at *
  exact decide_eq_true (List.le_trans (of_decide_eq_true h1) (of_decide_eq_true h2))
theorem sLe_total (a b : Str) : (sLe a b || sLe b a) = true := by
  unfold sLe
  rcases List.le_total (cpL a) (cpL b) with h | h
  · simp [h]
  · simp [h]
theorem sLe_antisymm {a b : Str} (h1 : sLe a b = true) (h2 : sLe b a = true) : a = b := by
  unfold sLe at *
  exact cpL_inj (List.le_antisymm (of_decide_eq_true h1) (of_decide_eq_true h2))
def sortS (ks : List Str) : List Str := ks.mergeSort sLe
theorem sortS_perm (ks : List Str) : (sortS ks).Perm ks := List.mergeSort_perm _ _
theorem sortS_sorted (ks : List Str) : (sortS ks).Pairwise (fun a b => sLe a b = true) := List.pairwise_mergeSort sLe_trans sLe_total ks
theorem sortS_uniq {is js : List Str} (hp : js.Perm is) (hs : js.Pairwise (fun a b => sLe a b = true)) : js = sortS is :=
  List.Perm.eq_of_pairwise (fun _ _ _ _ h1 h2 => sLe_antisymm h1 h2) hs (sortS_sorted is) (hp.trans (sortS_perm is).symm)
theorem rising_pw : ∀ (r : List Str) (p : Str), risingS p r = true → (p :: r).Pairwise (fun a b => sLe a b = true)
  | [], p, _ => List.pairwise_singleton _ _
  | x :: r, p, h => by
    simp only [risingS, Bool.and_eq_true] at h
    rw [sLe_not] at h
    have ih := rising_pw r x h.2
    refine List.pairwise_cons.mpr ⟨fun y hy => ?_, ih⟩
    rcases List.mem_cons.mp hy with rfl | hy
    · exact h.1
    · exact sLe_trans _ _ _ h.1 ((List.pairwise_cons.mp ih).1 y hy)
theorem sortedS_pw {l : List Str} (h : sortedS l = true) : l.Pairwise (fun a b => sLe a b = true) := by
  cases l with
  | nil => exact .nil
  | cons x r => exact rising_pw r x h
def strsOf : List D → Option (List Str)
  | [] => some []
  | .str x :: ds => (strsOf ds).map (x :: ·)
  | _ => none
theorem strsOf_some : ∀ {ds : List D} {is : List Str}, strsOf ds = some is → ds = is.map D.str
  | [], _, h => by cases h; rfl
  | .str x :: ds, is, h => by
    obtain ⟨js, e1, e2⟩ := Option.map_eq_some_iff.mp h
    subst e2
    rw [strsOf_some e1]
    rfl
theorem strsOf_map : ∀ is : List Str, strsOf (is.map D.str) = some is
  | [] => rfl
  | x :: is => by simp [strsOf, strsOf_map is]
theorem keysS_of {K : PySem.W.Frag} {G : Hp} : ∀ {vs : List (Key × V)} {kvs : List (D × D)} {is : List Str}, RepD K G vs kvs → strsOf (kvs.map (·.1)) = some is → vs.map (·.1) = is.map Sum.inr
  | _, _, _, .nil, h => by cases h; rfl
  | _, _, _, .cons (k := k) _ r, h => by
    cases k with
    | inl i => cases h
    | inr x =>
      obtain ⟨js, e1, e2⟩ := Option.map_eq_some_iff.mp (show (strsOf _).map (x :: ·) = _ from h)
      subst e2
      simp only [List.map_cons]
      rw [keysS_of r e1]
/-- sorted(d), keys all texts -/
def gSortedS : Gb
  | [.dct false kvs] => (strsOf (kvs.map (·.1))).bind fun ks => if ks.length < 64 then some (.new (.lst ((sortS ks).map .str))) else none
  | _ => none
theorem bl_sortedS {X : Cx} (hc : X.calm = true) (hu : X.A.units + 64 < cLine) : CallR X (.builtin "sorted") (rCT X.K gSortedS) := by
  intro pins s σ H xs us Q I r ⟨G, ds, o, sb, rk, e, k⟩
  unfold gSortedS at e
  split at e
  · obtain ⟨ks, e1, e⟩ := Option.bind_eq_some_iff.mp e
    split at e
    · rename_i hz
      cases e
      obtain ⟨v, rfl, rv⟩ := rk.one
      obtain ⟨a, vs, rfl, h1, h2⟩ := rv.dK sb
      refine call_sortedD hc pins s σ H _ us Q I r ⟨a, vs, ks, rfl, h1, keysS_of h2 e1, hz, fun ys p hp hs hn => ?_⟩
      have := sortS_uniq hp (sortedS_pw hs)
      subst this
      exact ext_new sb k hn (.lst upd_same (RepL.of_strs _))
    · cases e
  · cases e
/-! ### min(xs), pairs of ints -/
def prI (p : Int × Int) : D := .tup [.int p.1, .int p.2]
def pdI (p : Int × Int) : PyData := .tuple [.int p.1, .int p.2]
def pairsI : List D → Option (List (Int × Int))
  | [] => some []
  | .tup [.int a, .int b] :: ds => (pairsI ds).map ((a, b) :: ·)
  | _ => none
theorem pairsI_some : ∀ {ds : List D} {ps : List (Int × Int)}, pairsI ds = some ps → ds = ps.map prI
  | [], _, h => by cases h; rfl
  | .tup [.int a, .int b] :: ds, ps, h => by
    obtain ⟨js, e1, e2⟩ := Option.map_eq_some_iff.mp (show (pairsI ds).map ((a, b) :: ·) = some ps from h)
    subst e2
    rw [pairsI_some e1]
    rfl
theorem pairsI_map : ∀ ps : List (Int × Int), pairsI (ps.map prI) = some ps
  | [] => rfl
  | p :: ps => by
    show (pairsI (ps.map prI)).map ((p.1, p.2) :: ·) = _
    rw [pairsI_map ps]
    rfl
def lessP (p q : Int × Int) : Bool := decide (p.1 < q.1 ∨ (p.1 = q.1 ∧ p.2 < q.2))
def minP (p : Int × Int) (ps : List (Int × Int)) : Int × Int := ps.foldl (fun a y => if lessP y a = true then y else a) p
theorem minD_pairs : ∀ (ps : List (Int × Int)) (p : Int × Int), PySem.W.minD (pdI p) (ps.map pdI) = pdI (minP p ps)
  | [], p => rfl
  | q :: ps, p => by
    show PySem.W.minD (if PySem.W.dataLt (pdI q) (pdI p) = true then pdI q else pdI p) (ps.map pdI) = pdI (minP (if lessP q p = true then q else p) ps)
    have : PySem.W.dataLt (pdI q) (pdI p) = lessP q p := PySem.W.dataLt_ii _ _ _ _
    rw [this, ← minD_pairs ps]
    split <;> rfl
def gMinP : Gb
  | [.lst ds] => (pairsI ds).bind fun ps => match ps with
    | p :: ps => some (.val (prI (minP p ps)))
    | [] => none
  | _ => none
theorem pd_prI (p : Int × Int) : (prI p).pd = some (pdI p) := by simp [prI, pdI, D.pd, pdL]
theorem pdL_prI : ∀ ps : List (Int × Int), pdL (ps.map prI) = some (ps.map pdI)
  | [] => rfl
  | p :: ps => by simp only [List.map_cons, pdL, pd_prI, pdL_prI ps]
theorem pdI_inj {p q : Int × Int} (h : pdI p = pdI q) : p = q := by
  unfold pdI at h
  simp only [PyData.tuple.injEq, List.cons.injEq, PyData.int.injEq, and_true] at h
  exact Prod.ext h.1 h.2
theorem bl_minP {X : Cx} (hc : X.calm = true) (hu : X.A.units + 64 < cLine) : CallR X (.builtin "min") (rCT X.K gMinP) := by
  intro pins s σ H xs us Q I r ⟨G, ds, o, sb, rk, e, k⟩
  unfold gMinP at e
  split at e
  · obtain ⟨ps, e1, e⟩ := Option.bind_eq_some_iff.mp e
    split at e
    · rename_i p ps
      cases e
      have ed := pairsI_some e1
      subst ed
      obtain ⟨v, rfl, rv⟩ := rk.one
      obtain ⟨a, vs, rfl, h1, h2⟩ := rv.lst sb
      obtain ⟨its, rv', pl, hz'⟩ := I.list (.inl h1)
      obtain ⟨u, rfl, ru⟩ := vals1 r
      cases ru
      obtain ⟨as, ra⟩ := Dp.readsAll I _ _ _ (RepL.dp _ _ _ (h2.mono sb.le) (pdL_prI (p :: ps))) rv'
      have hd : PyData.depthAll ((p :: ps).map pdI) ≤ 1 := by
        have one : ∀ q : Int × Int, (pdI q).depth ≤ 1 := fun q => by simp [pdI, PyData.depth, PyData.depthAll]
        have : ∀ l : List (Int × Int), PyData.depthAll (l.map pdI) ≤ 1 := fun l => by
          induction l with
          | nil => simp [PyData.depthAll]
          | cons q l ih =>
            simp only [List.map_cons, PyData.depthAll]
            exact Nat.max_le.mpr ⟨one q, ih⟩
        exact this _
      refine PySem.W.min_list_data (I.ok.hd hc) pl.isList ra ⟨fun x hx y hy => ?_, fun x hx => ?_⟩ (by simp only [List.map_cons] at hd; omega) fun i w h' tk bs hi hr hk => ?_
      · obtain ⟨q, _, rfl⟩ := List.mem_map.mp (show x ∈ (p :: ps).map pdI from hx)
        obtain ⟨q', _, rfl⟩ := List.mem_map.mp (show y ∈ (p :: ps).map pdI from hy)
        simp [pdI, PySem.W.alike, PySem.W.alikeAll]
      · obtain ⟨q, _, rfl⟩ := List.mem_map.mp (show x ∈ (p :: ps).map pdI from hx)
        exact fun z => nomatch z
      · have hi' : its[i]? = some w := by simpa using hi
        have hil : i < vs.length := by
          have := (List.getElem?_eq_some_iff.mp hi').1
          rw [rv'.length]
          exact this
        obtain ⟨x, hx⟩ : ∃ x, vs[i]? = some x := ⟨vs[i], List.getElem?_eq_getElem hil⟩
        obtain ⟨w', hw', rx⟩ := rv'.get hx
        rw [hi'] at hw'
        cases hw'
        obtain ⟨d, hd2, rd⟩ := h2.getv hx
        obtain ⟨q, hq, rfl⟩ : ∃ q, (p :: ps)[i]? = some q ∧ d = prI q := by
          rw [List.getElem?_map] at hd2
          obtain ⟨q, a1, a2⟩ := Option.map_eq_some_iff.mp hd2
          exact ⟨q, a1, a2.symm⟩
        obtain ⟨cs, r2⟩ := Dp.reads I (pdI q) x w (Rep.dp _ _ _ (rd.mono sb.le) (pd_prI q)) rx
        have r3 := PySem.W.reads_keeps hk r2
        rw [minD_pairs] at hr
        have eq := pdI_inj (PySem.SeqAt.Reads.unique (pdI q) _ _ _ _ (by rfl) r3 hr)
        subst eq
        exact ⟨x, H, I.kept hk, rx, ext_val sb k rd⟩
    · cases e
  · cases e
end L2.Tl

set_option Elab.async false
set_option linter.all false
set_option autoImplicit false
set_option maxRecDepth 100000
namespace L2.Tl
open PySem PySem.Spec PyProof.Rows
/-! ### xs.index(i), ints -/
def gIndex : D → List D → Option D
  | .lst ds, [.int i] => (intsOf ds).bind fun is => if i ∈ is then some (.int (is.idxOf i : Nat)) else none
  | _, _ => none
theorem gIndex_some {x : D} {as : List D} {d : D} (h : gIndex x as = some d) : ∃ ds i is, x = .lst ds ∧ as = [.int i] ∧ intsOf ds = some is ∧ i ∈ is ∧ d = .int (is.idxOf i : Nat) := by
  unfold gIndex at h
  split at h
  · obtain ⟨is, e1, e2⟩ := Option.bind_eq_some_iff.mp h
    split at e2
    · cases e2
      exact ⟨_, _, is, rfl, rfl, e1, by assumption, rfl⟩
    · cases e2
  · cases h
theorem idx_min (i : Int) : ∀ (is : List Int) (m : Nat), m < is.idxOf i → is[m]? ≠ some i
  | [], m, h => by simp at h
  | a :: is, m, h => by
    rw [List.idxOf_cons] at h
    by_cases ha : a = i
    · subst ha; simp at h
    · have hb : (a == i) = false := by simpa using ha
      rw [hb] at h
      cases m with
      | zero => simpa using ha
      | succ m =>
        have := idx_min i is m (by simpa using h)
        simpa using this
def fIndex (fo : Fe) (fa : Fa) : Fn := fun δ => (fo δ).bind fun p => (peek p.1 p.2).bind fun x0 => match x0 with
  | .lst _ => (fa p.2).bind fun q => (peek p.1 q.2).bind fun x => (gIndex x q.1).map fun d => (.val d, q.2)
  | _ => none
theorem en_index {X : Cx} {o e : Expr} {fo : Fe} {fa : Fa} {apos cpos : Pos} (ho : Ev X o fo) (ha : Ar X [e] fa)
    (hbase : attributeBase o "index" X.env (eval o X.env) = eval o X.env := by rfl)
    (hfew : ((backTo cpos (starEach [e] X.env)).all (fun x => !x.1) && (backToKw cpos (keywordEach [] X.env)).all (fun x => x.1.isSome)
      && decide ([e].length + ([] : List Keyword).length + (if ([] : List Keyword).isEmpty then 0 else 1) < 30)) = true := by rfl)
    (hline : (apos.endLine == cpos.line) = true := by rfl) (hs : starEach [e] X.env = (false, eval e X.env) :: starEach [] X.env := by rfl) (hplain : (backTo cpos (starEach [] X.env)).any (·.1) = false := by rfl) :
    En X (.Call (.Attribute o "index" apos) [e] [] cpos) (fIndex fo fa) :=
  PE.imp (pe_bm PySem.F.plainAttrs_list PySem.F.slot_list_index PySem.F.type_list_index mt_index ho ha hbase hfew hline hs hplain) fun σ H Q ⟨F, G, δ, oo, δ', S, e, kk⟩ => by
    obtain ⟨⟨ra, δ1⟩, e1, e⟩ := Option.bind_eq_some_iff.mp e
    obtain ⟨x0, e2, e⟩ := Option.bind_eq_some_iff.mp e
    dsimp only at e
    split at e
    case h_2 => cases e
    obtain ⟨⟨as, δ2⟩, e3, e⟩ := Option.bind_eq_some_iff.mp e
    obtain ⟨x, e4, e⟩ := Option.bind_eq_some_iff.mp e
    obtain ⟨d, e5, e6⟩ := Option.map_eq_some_iff.mp e
    cases e6
    refine ⟨F, G, δ, ra, δ1, S, e1, fun v1 H1 G1 S1 m1 r1 => ?_⟩
    obtain ⟨a, vs, rfl, h1, h2⟩ := (S1.peek r1 e2).lst S1.sub
    refine ⟨.inl ⟨rfl, _, .inl h1⟩, F, G1, δ1, as, δ2, S1, e3, fun xs H2 G2 S2 m2 r2 => ?_⟩
    have r3 := S2.peek (r1.mono m2.le) e4
    obtain ⟨ds, i, is, rfl, ea0, e7, hi, rfl⟩ := gIndex_some e5
    dsimp only at ea0
    subst ea0
    cases r2 with
    | cons q1 q2 =>
      cases q2
      cases q1
      obtain ⟨a', ea, h3⟩ := r3.ints S2.sub e7
      cases ea
      have hlt := List.idxOf_lt_length_of_mem hi
      refine ⟨a, is.map V.int, .int i, is.idxOf i, .int i, rfl, rfl, h3, rfl, ?_, ?_, ?_, fun m z hm hz => ?_, kk _ H2 G2 S2 (m1.trans m2) (.int _)⟩
      · rw [List.all_eq_true]
        intro v hv
        obtain ⟨j, _, rfl⟩ := List.mem_map.mp hv
        rfl
      · rw [List.getElem?_map, List.getElem?_eq_getElem hlt]
        simp
      · simp [eqV]
      · rw [List.getElem?_map] at hz
        obtain ⟨j, hj, rfl⟩ := Option.map_eq_some_iff.mp hz
        have : j ≠ i := fun z => by
          subst z
          exact idx_min _ _ _ hm hj
        simp [eqV, this]
end L2.Tl
namespace L2.Tl
open PySem PySem.Spec PyProof.Rows
/-! ### x = e if c else x, x the frame's own -/
def sOwnIf (i : Nat) (c : Ft) (f : Fn) : Fs := fun δ => (c δ).bind fun p => if p.1 = true then (f p.2).map fun q => (.next, setO i q.1 q.2) else match p.2[i]? with
  | some (some (.own _)) => some (.next, p.2)
  | _ => none
theorem sm_ownIf {X : Cx} {pos pos' p2 p3 : Pos} {i : Nat} {x : Str} {c e : Expr} {fc : Ft} {f : Fn} (hN : X.N.Nodup) (hi : X.N[i]? = some x) (hx : Loc X.env.scope x) (hc : Ts X c fc) (h : En X e f) (hv : Vis X.env.scope x := by first | exact Or.inl rfl | exact Or.inr (Or.inl rfl) | exact Or.inr (Or.inr rfl))
    (hd : (x == ("__debug__" : Str)) = false := by decide) (hcd : (x == ("__classdict__" : Str)) = false := by decide)
    (hs : swapsWith (.IfExp c e (.Name x p2) p3) (some (.Name x pos')) pos.line X.env = pure false := by rfl) (hf : X.fn x = true ∨ X.env.scope.names.lookup x = some .local := by first | exact .inl rfl | exact .inr rfl | assumption) :
    Sm X (.Assign [.Name x pos'] (.IfExp c e (.Name x p2) p3) pos) (sOwnIf i fc f) := PS.imp (ps_set hN hi hx (pe_ifExp hc h (pe_var hi hv hd hcd)) hs hf) fun D σ H ⟨F, G, δ, fl, δ', S, e, k⟩ => by
  obtain ⟨⟨b, δ1⟩, e1, e2⟩ := Option.bind_eq_some_iff.mp e
  refine ⟨F, G, δ, b, δ1, S, e1, fun H1 G1 S1 m1 => ?_⟩
  dsimp only at e2
  split at e2
  · rename_i hb
    rw [if_pos hb]
    obtain ⟨⟨o, δ2⟩, e3, e4⟩ := Option.map_eq_some_iff.mp e2
    cases e4
    exact ⟨F, G1, δ1, o, δ2, S1, e3, fun v H2 G2 S2 m r => k _ H2 G2 (S2.setO r (fun a h => S1.fresh h) i) (m1.le.trans m.le)⟩
  · rename_i hb
    rw [if_neg hb]
    split at e2
    · rename_i d hd
      cases e2
      obtain ⟨p, a1, a2, a3, a4⟩ := S1.own i d hd
      refine ⟨_, a1, ?_⟩
      have es : σ.set i (some (V.ref p)) = σ := List.ext_getElem? fun j => by
        by_cases n : j = i
        · subst n
          rw [List.getElem?_set_self (List.getElem?_eq_some_iff.mp a1).1]; exact a1.symm
        · rw [List.getElem?_set_ne (Ne.symm n)]
      show D.nx (σ.set i (some (V.ref p))) H1
      rw [es]
      exact k σ H1 G1 S1 m1.le
    · cases e2
end L2.Tl

set_option Elab.async false
set_option linter.all false
set_option autoImplicit false
set_option maxRecDepth 100000
namespace L2.Tl
open PySem PySem.Spec PyProof.Rows
/-! ### d = {}; for ..: d.setdefault(k, []).append(y) -/
section
variable {K : PySem.W.Frag} {F : Fr} {G H G' H' : Hp} {σ σ' : St} {δ δ' : Dl} {p : Addr} {vs : List V} {κ : List Kid} {r : Nat}
theorem kids_give1 (S : Sim K F G H σ δ) (g : Kids K F G H σ δ p vs κ) (c : G p = none) {j : Nat} {kid : Kid} (hj : κ[j]? = some kid) : ∃ G', Sim K F G' H σ δ ∧ Kids K F G' H σ δ p vs (κ.set j (.fr kid.d)) ∧ Le G G' ∧ G' p = none := by
  have hl : j < κ.length := (List.getElem?_eq_some_iff.mp hj).1
  have same : ∀ {i : Nat} {x : Kid}, (κ.set j (.fr kid.d))[i]? = some x → (i = j ∧ x = .fr kid.d) ∨ (i ≠ j ∧ κ[i]? = some x) := fun {i x} h => by
    by_cases n : i = j
    · subst n
      rw [List.getElem?_set_self hl] at h
      exact .inl ⟨rfl, (Option.some.inj h).symm⟩
    · rw [List.getElem?_set_ne (Ne.symm n)] at h
      exact .inr ⟨n, h⟩
  cases kid with
  | fr d =>
    refine ⟨G, S, ?_, .refl _, c⟩
    have : κ.set j (.fr d) = κ := List.ext_getElem? fun i => by
      by_cases n : i = j
      · subst n; rw [List.getElem?_set_self hl, hj]
      · rw [List.getElem?_set_ne (Ne.symm n)]
    rw [show (Kid.fr d).d = d from rfl, this]
    exact g
  | ex d =>
    obtain ⟨q, a1, b1, c1, e1, f1, g1⟩ := g.ex j d hj
    obtain ⟨o, ho⟩ := c1.there
    have sg : Sub G (upd G q o) := sub_upd b1
    refine ⟨upd G q o, S.freeze b1 ho e1 f1, ⟨by rw [List.length_set]; exact g.len, fun i x h => ?_, fun i x h => ?_, fun i i' x y q' h h' hv hv' => ?_⟩, sg.le, (upd_ne (Ne.symm g1)).trans c⟩
    · rcases same h with ⟨rfl, hx⟩ | ⟨n, h⟩
      · cases hx
        exact ⟨_, a1, c1.rep sg.le ho upd_same⟩
      · obtain ⟨v, h1, h2⟩ := g.fr i x h
        exact ⟨v, h1, h2.mono sg.le⟩
    · rcases same h with ⟨rfl, hx⟩ | ⟨n, h⟩
      · cases hx
      · obtain ⟨q', a2, b2, c2, e2, f2, g2⟩ := g.ex i x h
        have nq : q' ≠ q := fun z => n (g.inj i j x d q h hj (z ▸ a2) a1)
        exact ⟨q', a2, (upd_ne nq).trans b2, c2.mono sg.le rfl, e2, f2, g2⟩
    · rcases same h with ⟨_, hx⟩ | ⟨_, h⟩
      · cases hx
      · rcases same h' with ⟨_, hx⟩ | ⟨_, h'⟩
        · cases hx
        · exact g.inj i i' x y q' h h' hv hv'
theorem kids_giveAll (S : Sim K F G H σ δ) (g : Kids K F G H σ δ p vs κ) (c : G p = none) : ∃ G', Sim K F G' H σ δ ∧ Le G G' ∧ G' p = none ∧ RepL K G' vs (κ.map Kid.d) := by
  have key : ∀ n, n ≤ κ.length → ∃ G' κ', Sim K F G' H σ δ ∧ Kids K F G' H σ δ p vs κ' ∧ Le G G' ∧ G' p = none ∧ κ'.map Kid.d = κ.map Kid.d ∧ κ'.length = κ.length ∧ ∀ j, j < n → ∃ d, κ'[j]? = some (.fr d) := fun n => by
    induction n with
    | zero => exact fun _ => ⟨G, κ, S, g, .refl _, c, rfl, rfl, fun j h => absurd h (Nat.not_lt_zero _)⟩
    | succ n ih =>
      intro hn
      obtain ⟨G1, κ1, S1, g1, l1, c1, m1, e1, f1⟩ := ih (Nat.le_of_succ_le hn)
      have hlt : n < κ1.length := by omega
      obtain ⟨G2, S2, g2, l2, c2⟩ := kids_give1 S1 g1 c1 (List.getElem?_eq_getElem hlt)
      refine ⟨G2, _, S2, g2, l1.trans l2, c2, ?_, by rw [List.length_set]; exact e1, fun j hj => ?_⟩
      · rw [← m1]
        refine List.ext_getElem? fun i => ?_
        rw [List.getElem?_map, List.getElem?_map]
        by_cases z : i = n
        · subst z
          rw [List.getElem?_set_self hlt, List.getElem?_eq_getElem hlt]; rfl
        · rw [List.getElem?_set_ne (Ne.symm z)]
      · by_cases z : j = n
        · subst z
          exact ⟨_, List.getElem?_set_self hlt⟩
        · rw [List.getElem?_set_ne (Ne.symm z)]
          exact f1 j (by omega)
  obtain ⟨G1, κ1, S1, g1, l1, c1, m1, e1, f1⟩ := key κ.length (Nat.le_refl _)
  refine ⟨G1, S1, l1, c1, ?_⟩
  rw [← m1]
  have rl : ∀ {vs : List V} {κ : List Kid}, vs.length = κ.length → (∀ j, j < κ.length → ∃ d v, κ[j]? = some (Kid.fr d) ∧ vs[j]? = some v ∧ Rep K G1 v d) → RepL K G1 vs (κ.map Kid.d) := fun {vs} => by
    induction vs with
    | nil => intro κ h _; cases κ with
      | nil => exact .nil
      | cons _ _ => cases h
    | cons v vs ih => intro κ h k; cases κ with
      | nil => cases h
      | cons x κ =>
        obtain ⟨d, w, h1, h2, h3⟩ := k 0 (by simp)
        simp only [List.getElem?_cons_zero, Option.some.injEq] at h1 h2
        subst h1; subst h2
        refine .cons h3 (ih (by simpa using h) fun j hj => ?_)
        obtain ⟨d', w', a1, a2, a3⟩ := k (j + 1) (by simpa using hj)
        exact ⟨d', w', by simpa using a1, by simpa using a2, a3⟩
  refine rl g1.len fun j hj => ?_
  obtain ⟨d, hd⟩ := f1 j (by omega)
  obtain ⟨v, h1, h2⟩ := g1.fr j d hd
  exact ⟨d, v, hd, h1, h2⟩
/-- the slot holds a dict of own lists -/
structure SimG (K : PySem.W.Frag) (F : Fr) (G H : Hp) (σ : St) (δ : Dl) (r : Nat) (ks : List Key) (ls : List (List D)) : Prop where
  sim : Sim K F G H σ δ
  no : δ[r]? = some none
  dc : ∃ p kvs, σ[r]? = some (some (V.ref p)) ∧ H p = some (.dK kvs) ∧ kvs.map (·.1) = ks ∧ G p = none ∧ F.H0 p = none ∧ Apart σ δ p ∧ Kids K F G H σ δ p (kvs.map (·.2)) (ls.map fun l => Kid.ex (.lst l))
theorem SimG.mv {ks : List Key} {ls : List (List D)} (S : SimG K F G H σ δ r ks ls) (S' : Sim K F G' H' σ δ') (m : Mv σ δ G H δ' G' H') (h : noAt r δ' = true) : SimG K F G' H' σ δ' r ks ls := by
  obtain ⟨p, vs, a, b, e0, c, e, f, g⟩ := S.dc
  obtain ⟨h1, h2, h3⟩ := m.stay p _ b c f
  exact ⟨S', noAt_of h, p, vs, a, h1, e0, h2, e, h3, g.mv m⟩
theorem SimG.tg {ks : List Key} {ls : List (List D)} {t : Tg} {x : V} {d : D} {Q : St → Hp → Prop} (S : SimG K F G H σ δ r ks ls) (rx : Rep K G x d) (e : tgSet t d δ = some δ') (hr : r ∉ t.ix) (h : noAt r δ' = true) (k : ∀ σ', SimG K F G H σ' δ' r ks ls → Q σ' H) : tgG K t x σ H Q :=
  tg_of S.sim rx e fun σ' S' hw hap => by
    obtain ⟨p, vs, a, b, e0, c, e, f, g⟩ := S.dc
    refine k σ' ⟨S', noAt_of h, p, vs, ?_, b, e0, c, e, hap p f, g.re hap⟩
    rw [← a, ← wipe_out (σ := σ') hr, ← wipe_out (σ := σ) hr, hw t.ix fun i hi => hi]
end
abbrev Gs := Dl × List Key × List (List D)
def dKey : D → Option Key
  | .int i => some (.inl i)
  | .str x => some (.inr x)
  | _ => none
theorem dKey_some {d : D} {k : Key} (h : dKey d = some k) : d = kD k := by
  unfold dKey at h
  split at h <;> cases h <;> rfl
/-- one more item -/
def keyAt : List Key → Key → Option Nat
  | [], _ => none
  | k' :: ks, k => if k' = k then some 0 else (keyAt ks k).map (· + 1)
theorem keyAt_val : ∀ (kvs : List (Key × V)) (k : Key), (∀ v, valV kvs k = some v → ∃ j, keyAt (kvs.map (·.1)) k = some j ∧ (kvs.map (·.2))[j]? = some v) ∧ (valV kvs k = none → keyAt (kvs.map (·.1)) k = none)
  | [], k => ⟨fun v h => by simp [valV] at h, fun _ => rfl⟩
  | (k', v') :: kvs, k => by
    by_cases e : k' = k
    · subst e
      rw [valV_pos (p := (k', v')) rfl]
      refine ⟨fun v h => ⟨0, by simp [keyAt], ?_⟩, fun h => by cases h⟩
      simpa using h
    · rw [valV_neg (p := (k', v')) e]
      obtain ⟨a, b⟩ := keyAt_val kvs k
      refine ⟨fun v h => ?_, fun h => ?_⟩
      · obtain ⟨j, h1, h2⟩ := a v h
        exact ⟨j + 1, by simp only [List.map_cons, keyAt, if_neg e, h1]; rfl, by simpa using h2⟩
      · simp only [List.map_cons, keyAt, if_neg e, b h]
        rfl
def grpPut (ks : List Key) (ls : List (List D)) (k : Key) (y : D) : Option (List Key × List (List D)) := if ks.length < 1000 then match keyAt ks k with
  | some j => (ls[j]?).bind fun l => if l.length < sizeLine then some (ks, ls.set j (l ++ [y])) else none
  | none => some (ks ++ [k], ls ++ [[y]])
  else none
def grpTurn (r : Nat) (fk fy : Fe) : Gs → Option Gs := fun g => (fk g.1).bind fun p => if noAt r p.2 = true then (peek p.1 p.2).bind fun dk => (dKey dk).bind fun k => (fy p.2).bind fun q => (esc q.1 q.2).bind fun s => if noAt r s.2 = true then (grpPut g.2.1 g.2.2 k s.1).map fun w => (s.2, w.1, w.2) else none else none
def loopG (r : Nat) (t : Tg) (fk fy : Fe) : List D → Gs → Option Gs
  | [], g => some g
  | d :: ds, g => (tgSet t d g.1).bind fun δ1 => if noAt r δ1 = true then (grpTurn r fk fy (δ1, g.2)).bind fun g' => loopG r t fk fy ds g' else none
def sGrp (r : Nat) (t : Tg) (fi : Fi) (fk fy : Fe) : Fs := fun δ => if r < δ.length then (fi (δ.set r none)).bind fun p => if noAt r p.2 = true then (loopG r t fk fy p.1 (p.2, [], [])).map fun g => (.next, g.1.set r (some (.own (.dct false ((g.2.1.zip g.2.2).map fun kv => (kD kv.1, .lst kv.2)))))) else none
  else none

section
variable {X : Cx} {r : Nat} {pos pos' npos np2 : Pos} {x : Str}
def tG1 (K : PySem.W.Frag) (r : Nat) : TS := fun D σ H => ∃ F G δ, Sim K F G H σ δ ∧ r < δ.length ∧ ∀ σ' H' G', SimG K F G' H' σ' (δ.set r none) r [] [] → Le G G' → D.nx σ' H'
theorem sm_grp1 (hN : X.N.Nodup) (hi : X.N[r]? = some x) (hx : Loc X.env.scope x) (hs : swapsWith (.Dict [] [] pos') (some (.Name x npos)) pos.line X.env = pure false := by rfl) (hf : X.fn x = true ∨ X.env.scope.names.lookup x = some .local := by first | exact .inl rfl | exact .inr rfl | assumption) :
    PS X (.Assign [.Name x npos] (.Dict [] [] pos') pos) (tG1 X.K r) := PS.imp (ps_set hN hi hx pe_dnewK hs hf) fun D σ H ⟨F, G, δ, S, hr, k⟩ => by
  intro p hp
  have E : Ext G H G (upd H p (.dK [])) := .own S.sub hp
  have hg := none_of_sub S.sub hp
  have ap : Apart σ δ p := fun i x d hx r hs => by
    obtain ⟨q, a1, _, a3⟩ := S.root hx r
    rw [hs] at a1; cases a1
    obtain ⟨u, hu⟩ := a3.there
    rw [hp] at hu; cases hu
  have hno : (δ.set r none)[r]? = some none := List.getElem?_set_self hr
  have S1 := ((S.ext E).drop r).setNo hno (some (V.ref p))
  refine k _ _ G ⟨S1, hno, p, [], List.getElem?_set_self (by rw [S.len]; exact hr), upd_same, rfl, hg, S.fresh hp, (ap.drop r).setNo hno _, ⟨rfl, fun j d h => by simp at h, fun j d h => by simp at h, fun i j d e q h => by simp at h⟩⟩ (.refl _)
def tG2 (K : PySem.W.Frag) (r : Nat) (fk fy : Fe) : TS := fun D σ H => ∃ F G δ ks ls g', SimG K F G H σ δ r ks ls ∧ grpTurn r fk fy (δ, ks, ls) = some g' ∧ ∀ σ' H' G', SimG K F G' H' σ' g'.1 r g'.2.1 g'.2.2 → Le G G' → D.nx σ' H'
theorem mt_appendR : MtR X "list.append" rAppend := fun pins s σ H x xs v us Q I rx rv h => mt_append pins s σ H x xs v us Q I rx rv h
/-- the lists of a group, changed at one place -/
theorem kids_put {K : PySem.W.Frag} {F : Fr} {G H : Hp} {σ : St} {δ : Dl} {p q : Addr} {vs ws : List V} {ls : List (List D)} {l : List D} {y : V} {d : D} {j : Nat} (g : Kids K F G H σ δ p vs (ls.map fun l => Kid.ex (.lst l))) (hl : ls[j]? = some l) (hv : vs[j]? = some (V.ref q)) (hq : H q = some (.lst ws)) (rl : RepL K G ws l) (ry : Rep K G y d) :
    Kids K F G (upd H q (.lst (ws ++ [y]))) σ δ p vs ((ls.set j (l ++ [d])).map fun l => Kid.ex (.lst l)) := by
  have hj : j < ls.length := (List.getElem?_eq_some_iff.mp hl).1
  have at' : ∀ {i : Nat} {x : D}, ((ls.set j (l ++ [d])).map fun l => Kid.ex (.lst l))[i]? = some (Kid.ex x) → (i = j ∧ x = .lst (l ++ [d])) ∨ (i ≠ j ∧ (ls.map fun l => Kid.ex (.lst l))[i]? = some (Kid.ex x)) := fun {i x} h => by
    rw [List.getElem?_map] at h
    obtain ⟨z, h1, h2⟩ := Option.map_eq_some_iff.mp h
    by_cases n : i = j
    · subst n
      rw [List.getElem?_set_self hj] at h1
      cases h1
      cases h2
      exact .inl ⟨rfl, rfl⟩
    · rw [List.getElem?_set_ne (Ne.symm n)] at h1
      exact .inr ⟨n, by rw [List.getElem?_map, h1]; exact congrArg some h2⟩
  have old : ∀ {i : Nat} {x : D}, ((ls.set j (l ++ [d])).map fun l => Kid.ex (.lst l))[i]? = some (Kid.ex x) → ∃ x', (ls.map fun l => Kid.ex (.lst l))[i]? = some (Kid.ex x') := fun {i x} h => by
    rcases at' h with ⟨rfl, _⟩ | ⟨_, h⟩
    · exact ⟨.lst l, by rw [List.getElem?_map, hl]; rfl⟩
    · exact ⟨x, h⟩
  refine ⟨by rw [g.len]; simp, fun i x h => ?_, fun i x h => ?_, fun i i' x x' q' h h' hv1 hv2 => ?_⟩
  · rw [List.getElem?_map] at h
    obtain ⟨z, _, h2⟩ := Option.map_eq_some_iff.mp h
    cases h2
  · rcases at' h with ⟨rfl, rfl⟩ | ⟨n, h⟩
    · obtain ⟨q', a1, b1, c1, e1, f1, g1⟩ := g.ex i (.lst l) (by rw [List.getElem?_map, hl]; rfl)
      rw [hv] at a1; cases a1
      exact ⟨q, hv, b1, .lst upd_same (rl.append (.cons ry .nil)), e1, f1, g1⟩
    · obtain ⟨q', a1, b1, c1, e1, f1, g1⟩ := g.ex i x h
      have nq : q' ≠ q := fun z => n (g.inj i j x (.lst l) q h (by rw [List.getElem?_map, hl]; rfl) (z ▸ a1) hv)
      exact ⟨q', a1, b1, c1.mono (.refl _) (upd_ne nq), e1, f1, g1⟩
  · obtain ⟨y1, k1⟩ := old h
    obtain ⟨y2, k2⟩ := old h'
    exact g.inj i i' y1 y2 q' k1 k2 hv1 hv2
/-- a group's dict: one more list -/
theorem kids_new {K : PySem.W.Frag} {F : Fr} {G H : Hp} {σ : St} {δ : Dl} {p q : Addr} {vs : List V} {ls : List (List D)} {y : V} {d : D} (g : Kids K F G H σ δ p vs (ls.map fun l => Kid.ex (.lst l))) (hg : G q = none) (h0 : F.H0 q = none) (ap : Apart σ δ q) (np : q ≠ p) (nold : ∀ v ∈ vs, v ≠ .ref q) (hq : H q = some (.lst [y])) (ry : Rep K G y d) :
    Kids K F G H σ δ p (vs ++ [.ref q]) ((ls ++ [[d]]).map fun l => Kid.ex (.lst l)) := by
  have hlen := g.len
  simp only [List.length_map] at hlen
  have at' : ∀ {i : Nat} {x : D}, ((ls ++ [[d]]).map fun l => Kid.ex (.lst l))[i]? = some (Kid.ex x) → (i = ls.length ∧ x = .lst [d] ∧ (vs ++ [V.ref q])[i]? = some (.ref q)) ∨ (i < ls.length ∧ (ls.map fun l => Kid.ex (.lst l))[i]? = some (Kid.ex x) ∧ (vs ++ [V.ref q])[i]? = vs[i]?) := fun {i x} h => by
    rw [List.map_append] at h
    by_cases n : i < ls.length
    · rw [List.getElem?_append_left (by simpa using n)] at h
      exact .inr ⟨n, h, List.getElem?_append_left (by rw [hlen]; exact n)⟩
    · rw [List.getElem?_append_right (by simpa using n)] at h
      have e : i = ls.length := by
        have := (List.getElem?_eq_some_iff.mp h).1
        simp at this
        omega
      subst e
      simp at h
      refine .inl ⟨rfl, h.symm, ?_⟩
      rw [List.getElem?_append_right (by rw [hlen]; exact Nat.le_refl _), hlen]
      simp
  refine ⟨by simp [hlen], fun i x h => ?_, fun i x h => ?_, fun i i' x x' q' h h' hv1 hv2 => ?_⟩
  · rw [List.getElem?_map] at h
    obtain ⟨z, _, h2⟩ := Option.map_eq_some_iff.mp h
    cases h2
  · rcases at' h with ⟨_, rfl, ev⟩ | ⟨_, h, ev⟩
    · exact ⟨q, ev, hg, .lst hq (.cons ry .nil), h0, ap, np⟩
    · rw [ev]
      exact g.ex i x h
  · rcases at' h with ⟨rfl, _, ev⟩ | ⟨_, h, ev⟩
    · rcases at' h' with ⟨rfl, _, ev'⟩ | ⟨_, h', ev'⟩
      · rfl
      · rw [ev] at hv1; cases hv1
        rw [ev'] at hv2
        exact absurd rfl (nold _ (List.mem_of_getElem? hv2))
    · rcases at' h' with ⟨rfl, _, ev'⟩ | ⟨_, h', ev'⟩
      · rw [ev'] at hv2; cases hv2
        rw [ev] at hv1
        exact absurd rfl (nold _ (List.mem_of_getElem? hv1))
      · rw [ev] at hv1
        rw [ev'] at hv2
        exact g.inj i i' x x' q' h h' hv1 hv2
theorem sm_grpB {ke ye : Expr} {fk fy : Fe} {ap1 ap2 cp1 cp2 lp : Pos} (hi : X.N[r]? = some x) (hv : Vis X.env.scope x) (hk : Ev X ke fk) (hy : Ev X ye fy)
    (m : M2 X (.Name x npos) "setdefault" ap1 ke (.List [] lp) cp1) (hd : (x == ("__debug__" : Str)) = false := by decide) (hcd : (x == ("__classdict__" : Str)) = false := by decide)
    (hbase : attributeBase (.Call (.Attribute (.Name x npos) "setdefault" ap1) [ke, .List [] lp] [] cp1) "append" X.env (eval (.Call (.Attribute (.Name x npos) "setdefault" ap1) [ke, .List [] lp] [] cp1) X.env) = eval (.Call (.Attribute (.Name x npos) "setdefault" ap1) [ke, .List [] lp] [] cp1) X.env := by rfl)
    (hfew : ((backTo cp2 (starEach [ye] X.env)).all (fun x => !x.1) && (backToKw cp2 (keywordEach [] X.env)).all (fun x => x.1.isSome)
      && decide ([ye].length + ([] : List Keyword).length + (if ([] : List Keyword).isEmpty then 0 else 1) < 30)) = true := by rfl)
    (hline : (ap2.endLine == cp2.line) = true := by rfl) (hs : starEach [ye] X.env = (false, eval ye X.env) :: starEach [] X.env := by rfl) (hplain : (backTo cp2 (starEach [] X.env)).any (·.1) = false := by rfl)
    (hsw : swapsWith (.Call (.Attribute (.Call (.Attribute (.Name x npos) "setdefault" ap1) [ke, .List [] lp] [] cp1) "append" ap2) [ye] [] cp2) none pos.line X.env = pure false := by rfl) :
    PS X (.Expr (.Call (.Attribute (.Call (.Attribute (.Name x npos) "setdefault" ap1) [ke, .List [] lp] [] cp1) "append" ap2) [ye] [] cp2) pos) (tG2 X.K r fk fy) :=
  PS.imp (ps_expr (pe_bm PySem.F.plainAttrs_list PySem.F.slot_list_append PySem.F.type_list_append mt_appendR (pe_dsetd (pe_var hi hv hd hcd) hk (en_lst ar_nil) m) (ar_cons hy ar_nil hs) hbase hfew hline hs hplain) hsw) fun D σ H ⟨F, G, δ, ks, ls, g', S, e, k⟩ => by
    obtain ⟨⟨rk, δ1⟩, e1, e⟩ := Option.bind_eq_some_iff.mp e
    dsimp only at e
    split at e
    case isFalse => cases e
    rename_i hn
    obtain ⟨dk, e2, e⟩ := Option.bind_eq_some_iff.mp e
    obtain ⟨key, e3, e⟩ := Option.bind_eq_some_iff.mp e
    obtain ⟨⟨ry, δ2⟩, e4, e⟩ := Option.bind_eq_some_iff.mp e
    obtain ⟨⟨y, δ3⟩, e5, e⟩ := Option.bind_eq_some_iff.mp e
    dsimp only at e
    split at e
    case isFalse => cases e
    rename_i hn3
    obtain ⟨⟨ks', ls'⟩, e6, e7⟩ := Option.map_eq_some_iff.mp e
    cases e7
    have edk := dKey_some e3
    subst edk
    have S0 := S
    obtain ⟨p, kvs, a, b, ek, c, f, gap, kids⟩ := S.dc
    refine ⟨.ref p, a, p, rfl, .inl ⟨kvs, .inl b⟩, F, G, δ, rk, δ1, S.sim, e1, fun v1 H1 G1 S1 m1 r1 => ?_⟩
    have SG1 := S.mv S1 m1 hn
    refine ⟨F, G1, δ1, .new (.lst []), δ1, S1, ?_, fun v2 H2 G2 S2 m2 ro => ?_⟩
    · show (fLst fA0 δ1) = _
      unfold fLst fA0
      simp
    have SG2 := SG1.mv S2 m2 hn
    obtain ⟨q0, rfl, g0, root0, h10, ap0⟩ := ro
    -- the dict
    obtain ⟨hp1, gp1, ap1⟩ := m1.stay p _ b c gap
    obtain ⟨hp2, gp2, ap2⟩ := m2.stay p _ hp1 gp1 ap1
    have kids2 := (kids.mv m1).mv m2
    have ev1 : v1 = kV key := RepK.kV (S2.peek (r1.mono m2.le) e2)
    subst ev1
    unfold grpPut at e6
    split at e6
    case isFalse => cases e6
    rename_i hsz
    have hlen : kvs.length < 1000 := by
      have := congrArg List.length ek
      simp at this
      omega
    obtain ⟨kv1, kv2⟩ := keyAt_val kvs key
    rw [ek] at kv1 kv2
    refine ⟨kvs, key, hp2, rfl, by rw [sizeLine_eq]; omega, fun v hval => ?_, fun hval => ?_⟩
    · obtain ⟨j, j1, j2⟩ := kv1 v hval
      rw [j1] at e6
      obtain ⟨l, l1, e8⟩ := Option.bind_eq_some_iff.mp e6
      split at e8
      case isFalse => cases e8
      rename_i hl
      cases e8
      obtain ⟨q, a1, b1, c1, f1, apq, nqp⟩ := kids2.ex j (.lst l) (by rw [List.getElem?_map, l1]; rfl)
      rw [j2] at a1
      cases a1
      cases c1 with
      | lst hq rl =>
        rename_i ws
        refine ⟨.inl ⟨rfl, _, .inl (.inl hq)⟩, F, G2, δ1, [y], δ3, S2, ?_, fun xs H3 G3 S3 m3 r3 => ?_⟩
        · show (fA fy fA0 δ1) = _
          unfold fA fA0
          simp [e4, e5]
        cases r3 with
        | cons ry rn =>
          rename_i w _
          cases rn
          obtain ⟨hp3, gp3, ap3⟩ := m3.stay p _ hp2 gp2 ap2
          obtain ⟨hq3, gq3, apq3⟩ := m3.stay q _ hq b1 apq
          have kids3 := kids2.mv m3
          refine ⟨q, ws, w, rfl, rfl, hq3, by rw [rl.length]; exact hl, ?_⟩
          have S4 := S3.away (o := .lst (ws ++ [w])) gq3 apq3 f1
          refine k σ _ G3 ⟨S4, noAt_of hn3, p, kvs, a, (upd_ne (Ne.symm nqp)).trans hp3, ek, gp3, f, ap3, kids_put kids3 l1 j2 hq3 (rl.mono m3.le) ry⟩ (m1.le.trans (m2.le.trans m3.le))
    · rw [kv2 hval] at e6
      cases e6
      cases root0 with
      | lst hq0 rl0 =>
        cases rl0
        have nqp : q0 ≠ p := fun z => by rw [z, hp1] at h10; cases h10
        have S3' := S2.away (o := .dK (putK kvs key (.ref q0))) gp2 ap2 f
        refine ⟨.inl ⟨rfl, _, .inl (.inl ((upd_ne nqp).trans hq0))⟩, F, G2, δ1, [y], δ3, S3', ?_, fun xs H3 G3 S3 m3 r3 => ?_⟩
        · show (fA fy fA0 δ1) = _
          unfold fA fA0
          simp [e4, e5]
        cases r3 with
        | cons ry rn =>
          rename_i w _
          cases rn
          obtain ⟨hp3, gp3, ap3⟩ := m3.stay p _ upd_same gp2 ap2
          obtain ⟨hq3, gq3, apq3⟩ := m3.stay q0 _ ((upd_ne nqp).trans hq0) g0 ap0
          have nold : ∀ v ∈ kvs.map (·.2), v ≠ V.ref q0 := fun v hv z => by
            obtain ⟨j, hj⟩ := List.getElem?_of_mem hv
            have hjl : j < ls.length := by
              have h1 := (List.getElem?_eq_some_iff.mp hj).1
              have h2 := (kids.mv m1).len
              simp at h1 h2
              omega
            obtain ⟨q, a1, b1, c1, _⟩ := (kids.mv m1).ex j (.lst ls[j]) (by rw [List.getElem?_map, List.getElem?_eq_getElem hjl]; rfl)
            rw [hj, z] at a1
            cases a1
            obtain ⟨o, ho⟩ := c1.there
            rw [h10] at ho; cases ho
          have kids3 : Kids X.K F G3 H3 σ δ3 p (kvs.map (·.2)) (ls.map fun l => Kid.ex (.lst l)) := (kids2.upd _).mv m3
          refine ⟨q0, [], w, rfl, rfl, hq3, by rw [sizeLine_eq]; simp, ?_⟩
          have hq0f : F.H0 q0 = none := S1.fresh h10
          have S4 := S3.away (o := .lst ([] ++ [w])) gq3 apq3 hq0f
          have kids4 : Kids X.K F G3 (upd H3 q0 (.lst ([] ++ [w]))) σ δ3 p (kvs.map (·.2)) (ls.map fun l => Kid.ex (.lst l)) := by
            refine ⟨kids3.len, kids3.fr, fun i x h => ?_, kids3.inj⟩
            obtain ⟨q, a1, b1, c1, f1, g1, h1⟩ := kids3.ex i x h
            have nq : q ≠ q0 := fun z => nold _ (List.mem_of_getElem? a1) (by rw [z])
            exact ⟨q, a1, b1, c1.mono (.refl _) (upd_ne nq), f1, g1, h1⟩
          have hnew := putK_new (kvs := kvs) (k := key) (V.ref q0) hval
          refine k σ _ G3 ⟨S4, noAt_of hn3, p, putK kvs key (.ref q0), a, (upd_ne (Ne.symm nqp)).trans hp3, by rw [hnew]; simp [ek], gp3, f, ap3, ?_⟩ (m1.le.trans (m2.le.trans m3.le))
          rw [hnew, List.map_append]
          exact kids_new kids4 gq3 hq0f apq3 nqp nold upd_same ry
theorem repD_zip {K : PySem.W.Frag} {G : Hp} : ∀ {kvs : List (Key × V)} {ls : List (List D)}, RepL K G (kvs.map (·.2)) ((ls.map fun l => Kid.ex (.lst l)).map Kid.d) → RepD K G kvs (((kvs.map (·.1)).zip ls).map fun kv => (kD kv.1, .lst kv.2))
  | [], ls, h => .nil
  | kv :: kvs, [], h => by cases h
  | kv :: kvs, l :: ls, h => by
    cases h with
    | cons a b => exact .cons a (repD_zip b)
theorem SimG.own {K : PySem.W.Frag} {F : Fr} {G H : Hp} {σ : St} {δ : Dl} {ks : List Key} {ls : List (List D)} (S : SimG K F G H σ δ r ks ls) : ∃ G', Sim K F G' H σ (δ.set r (some (.own (.dct false ((ks.zip ls).map fun kv => (kD kv.1, .lst kv.2)))))) ∧ Le G G' := by
  obtain ⟨p, kvs, a, b, ek, c, f, gap, kids⟩ := S.dc
  obtain ⟨G', S', l', c', rl⟩ := kids_giveAll S.sim kids c
  subst ek
  have S2 := S'.setOwn c' (.dK b (repD_zip rl)) f gap r
  have es : σ.set r (some (V.ref p)) = σ := List.ext_getElem? fun j => by
    by_cases n : j = r
    · subst n
      rw [List.getElem?_set_self (List.getElem?_eq_some_iff.mp a).1]; exact a.symm
    · rw [List.getElem?_set_ne (Ne.symm n)]
  rw [es] at S2
  exact ⟨G', S2, l'⟩
theorem ss_grp {st1 stB : Stmt} {rest : List Stmt} {tg iter : Expr} {t : Tg} {fi : Fi} {fk fy : Fe} {g : Fs} (h1 : PS X st1 (tG1 X.K r)) (hp : PassesOwn (model X.prog X.w) X.A X.env X.xe) (hc : X.calm = true) (hi : Ii X tg iter fi) (hg : PG X tg (tgG X.K t)) (hb : PS X stB (tG2 X.K r fk fy)) (hrest : Ss X rest g) (hr : r ∉ t.ix := by decide)
    (hs : ∀ x, foldedSetIterable iter X.env x = pure x := by intro _; rfl) : Ss X (st1 :: .For tg iter [stB] [] pos :: rest) (sSeq (sGrp r t fi fk fy) g) := PSs.imp (pss_cons h1 (pss_cons (ps_for hp hc hi hg (pss_one hb) hs) hrest)) fun Z σ H ⟨F, G, δ, fl, δ', S, e, k⟩ => by
  obtain ⟨⟨fl1, δ1⟩, e1, e2⟩ := Option.bind_eq_some_iff.mp e
  unfold sGrp at e1
  split at e1
  case isFalse => cases e1
  rename_i hrl
  obtain ⟨⟨ds, δ2⟩, e3, e1⟩ := Option.bind_eq_some_iff.mp e1
  dsimp only at e1
  split at e1
  case isFalse => cases e1
  rename_i hn
  obtain ⟨⟨δ3, ks, ls⟩, e4, e5⟩ := Option.map_eq_some_iff.mp e1
  cases e5
  dsimp only at e2
  refine ⟨F, G, δ, S, hrl, fun σ1 H1 G1 SG l1 => ?_⟩
  refine ⟨F, G1, _, ds, δ2, SG.sim, e3, fun J H2 G2 S2 m2 Y => ?_⟩
  have SG2 := SG.mv S2 m2 hn
  refine ⟨fun i m σ H => m = ds.length - i ∧ i ≤ ds.length ∧ ∃ G3 g3, SimG X.K F G3 H σ g3.1 r g3.2.1 g3.2.2 ∧ Le G2 G3 ∧ loopG r t fk fy (ds.drop i) g3 = some (δ3, ks, ls), ⟨ds.length, rfl, Nat.zero_le _, G2, (δ2, [], []), SG2, .refl _, e4⟩, ?_⟩
  rintro i m σ3 H3 ⟨rfl, hi, G3, g3, S3, l3, e6⟩
  by_cases hlt : i < ds.length
  · refine .inr ⟨Y.goes i G3 H3 hlt l3 S3.sim.sub, fun σ' H' => ∃ G4 g4, SimG X.K F G4 H' σ' g4.1 r g4.2.1 g4.2.2 ∧ Le G2 G4 ∧ loopG r t fk fy (ds.drop (i + 1)) g4 = some (δ3, ks, ls), fun σ' H' ⟨G4, g4, q⟩ => ⟨ds.length - (i + 1), by omega, rfl, hlt, G4, g4, q⟩, fun x H4 y => ?_⟩
    obtain ⟨d, G4, hd, E, rx⟩ := Y.ylds i G3 H3 x H4 hlt l3 S3.sim.sub y
    rw [List.drop_eq_getElem_cons hlt] at e6
    rw [List.getElem?_eq_getElem hlt] at hd
    rw [Option.some.inj hd] at e6
    obtain ⟨δ4, e7, e8⟩ := Option.bind_eq_some_iff.mp e6
    split at e8
    case isFalse => cases e8
    rename_i hn4
    obtain ⟨g5, e9, e10⟩ := Option.bind_eq_some_iff.mp e8
    have S4 : SimG X.K F G4 H4 σ3 g3.1 r g3.2.1 g3.2.2 := S3.mv (S3.sim.ext E) E.mv (by unfold noAt; rw [S3.no])
    have l4 : Le G2 G4 := l3.trans E.gg.le
    exact S4.tg rx e7 hr hn4 fun σ5 S5 => ⟨F, G4, δ4, g3.2.1, g3.2.2, g5, S5, e9, fun σ6 H6 G6 S6 l6 => ⟨G6, g5, S6, l4.trans l6, e10⟩⟩
  · have ei : i = ds.length := by omega
    subst ei
    rw [List.drop_length] at e6
    cases e6
    obtain ⟨G5, S5, l5⟩ := S3.own
    refine .inl ⟨Y.stops G3 H3 l3 S3.sim.sub, F, G5, _, fl, δ', S5, e2, ?_⟩
    have lt := l1.trans (m2.le.trans (l3.trans l5))
    cases fl with
    | next => exact fun σ2 H2 G2 S2 l2 => k σ2 H2 G2 S2 (lt.trans l2)
    | brk => exact fun σ2 H2 G2 S2 l2 => k σ2 H2 G2 S2 (lt.trans l2)
    | cnt => exact fun σ2 H2 G2 S2 l2 => k σ2 H2 G2 S2 (lt.trans l2)
    | ret o => exact fun v σ2 H2 G2 S2 l2 r => k v σ2 H2 G2 S2 (lt.trans l2) r
end
end L2.Tl

set_option Elab.async false
set_option linter.all false
set_option autoImplicit false
set_option maxRecDepth 100000
namespace L2.Tl
open PySem PySem.Spec PyProof.Rows
/-! ### x not in NAMES, a list of texts of the module's -/
def rNI (K : PySem.W.Frag) (zs : List Str) : R2 := fun x y H Q => ∃ (z : Str) (a : Addr), x = .str z ∧ y = .ref a ∧ SqL K H a (zs.map V.str) ∧ Q (.bl (!zs.contains z)) H
theorem any_eqv (z : Str) : ∀ zs : List Str, ((zs.map PyData.str).any fun q => PyData.eqv q (.str z)) = zs.contains z
  | [] => rfl
  | x :: zs => by
    rw [List.map_cons, List.any_cons, any_eqv z zs]
    show ((x == z) || _) = _
    rw [List.contains_cons]
    have : (x == z) = (z == x) := by
      rw [Bool.eq_iff_iff, beq_iff_eq, beq_iff_eq]
      exact eq_comm
    rw [this]
theorem op_notInG {X : Cx} {zs : List Str} (hu : X.A.units + 64 < cLine) : OpR X (compareOp .NotIn) (rNI X.K zs) := by
  intro pins s σ H x y v u Q I rx ry ⟨z, a, ex, ey, hs, q⟩
  subst ex ey
  have dl : ∀ zs : List Str, DpAll X.K H (zs.map V.str) (zs.map PyData.str) := fun zs => by
    induction zs with
    | nil => exact .nil
    | cons x t ih => exact .cons (.str x) ih
  obtain ⟨as, r1⟩ := Dp.reads I (.str z) _ v (.str z) rx
  obtain ⟨bs, r2⟩ := Dp.reads I (.list (zs.map .str)) _ u (.lst hs (dl zs)) ry
  have pl : ∀ zs : List Str, PyData.plainAll (zs.map PyData.str) = true := fun zs => by
    induction zs with
    | nil => rfl
    | cons x t ih => simpa [PyData.plainAll, PyData.plain] using ih
  have dp : ∀ zs : List Str, PyData.depthAll (zs.map PyData.str) = 0 := fun zs => by
    induction zs with
    | nil => rfl
    | cons x t ih => simpa [PyData.depthAll, PyData.depth] using ih
  refine SeqAt.notIn_list_data r2 r1 (pl zs) rfl (by rw [dp]; simp; omega) ⟨.bl _, H, I, rfl, ?_⟩
  rw [any_eqv]
  exact q
def fNIT (zs : List Str) (fa : Fe) : Ft := fun δ => (fa δ).bind fun p => (peek p.1 p.2).bind fun x => match x with
  | .str z => some (!zs.contains z, p.2)
  | _ => none
theorem ts_notInG {X : Cx} {pos np : Pos} {a : Expr} {g : Str} {fa : Fe} {ad : Addr} {zs : List Str} (hu : X.A.units + 64 < cLine) (ha : Ev X a fa) (hg : Gl X g) (hm : X.mg g = some (.ref ad)) (hS : ∀ H, SqL X.K H ad (zs.map V.str))
    (hk : behindInMarks .NotIn (.Name g np) = false := by first | exact nobehind _ (by decide) (by decide) | rfl) (hd : (g == ("__debug__" : Str)) = false := by decide) : Ts X (.Compare a [.NotIn] [.Name g np] pos) (fNIT zs fa) :=
  PT.imp (pt_cmpR (op_notInG (zs := zs) hu) ha (pe_glob (v := .ref ad) hg hm rfl hd) hk) fun σ H Q ⟨F, G, δ, b, δ', S, e, k⟩ => by
    obtain ⟨⟨ra, δ1⟩, e1, e⟩ := Option.bind_eq_some_iff.mp e
    obtain ⟨x, e2, e⟩ := Option.bind_eq_some_iff.mp e
    dsimp only at e
    split at e
    case h_2 => cases e
    rename_i z
    cases e
    refine ⟨F, G, δ, ra, _, S, e1, fun v1 H1 G1 S1 m1 r1 => ?_⟩
    have ev := (S1.peek r1 e2).str
    subst ev
    exact ⟨z, ad, rfl, rfl, hS H1, _, rfl, k H1 G1 S1 m1⟩
end L2.Tl

set_option Elab.async false
set_option linter.all false
set_option autoImplicit false
set_option maxRecDepth 100000
namespace L2.Tl
open PySem PySem.Spec PyProof.Rows
/-! ### isinstance(x, C), C a class of the module's, x one of it -/
/-- what the top says of a class -/
structure ClsI (K : PySem.W.Frag) (C : Addr) : Prop where
  cl : Cls K C
  ha : PySem.W.findIn K (.ref C) "__class__" = some (some (.builtin "object.__class__"))
  hn : PySem.W.specialIn K (.builtin "object.__class__") "__get__" = some (some (.builtin "getset_descriptor.__get__"))
  htk : PySem.W.takesIn K (.builtin "object.__class__") = some true
  hm : PySem.W.mroIn K C (.type "object") = some true
def fIsiC (C : Addr) (f : Fe) : Fe := fun δ => (f δ).bind fun p => match peek p.1 p.2 with
  | some (.obj C' _) => if C' = C then some (.val (.bl true), p.2) else none
  | _ => none
theorem ev_isiC {X : Cx} {C : Addr} {pos p p1 : Pos} {e : Expr} {f : Fe} {t : Str} (c : ClsI X.K C) (hg : Gl X "isinstance") (hm : X.mg "isinstance" = none) (hg' : Gl X t) (hm' : X.mg t = some (.ref C)) (h : Ev X e f) (hd : (t == ("__debug__" : Str)) = false := by decide)
    (he : starEach [e, .Name t p1] X.env = (false, eval e X.env) :: starEach [.Name t p1] X.env := by rfl) (hs : starEach [.Name t p1] X.env = (false, eval (.Name t p1) X.env) :: starEach [] X.env := by rfl) (hpl : (backTo pos (starEach [.Name t p1] X.env)).any (·.1) = false := by rfl) :
    Ev X (.Call (.Name "isinstance" p) [e, .Name t p1] [] pos) (fIsiC C f) :=
  PE.imp (pe_callB call_isi hg hm PyProof.Rows.boot_isinstance (pa_cons h (pa_cons (pe_glob (v := .ref C) hg' hm' rfl hd) pa_nil hs) he) (by decide) (by decide) he hpl) fun σ H Q ⟨F, G, δ, r, δ', S, e, k⟩ => by
    obtain ⟨⟨ra, δ1⟩, e1, e⟩ := Option.bind_eq_some_iff.mp e
    refine ⟨F, G, δ, ra, δ1, S, e1, fun v H1 G1 S1 m1 r1 => ?_⟩
    dsimp only at e
    split at e
    · rename_i C' fs hp
      split at e
      · rename_i hC
        cases e
        cases hC
        obtain ⟨a, dx, vs, rfl, h1, h2⟩ := (S1.peek r1 hp).obj S1.sub
        exact ⟨.ref a, .ref C, .ref C, .ref C, true, rfl, .own C, .base (.ins h1 c.cl c.ha c.hn c.htk c.hm), by simp [PySem.W.kitOne], k _ H1 G1 S1 m1 (.bl _)⟩
      · cases e
    · cases e
/-! ### methods, classes, lists of the top -/
structure MetD (K : PySem.W.Frag) (C : Addr) (m qual : Str) (st : Stmt) (f : Addr) (fd : FuncData) : Prop where
  fn : FunD K m qual (C8.fnArgs st) (C8.fnBody st) (C8.fnScope st) [] [] f fd
  me : Meth K C m f
theorem MetD.c8 {K : PySem.W.Frag} {C : Addr} {m qual : Str} {st : Stmt} {f : Addr} {fd : FuncData} (D : MetD K C m qual st f fd) : C8.Fun K m qual st f fd := by
  obtain ⟨oc, od, dV, kV, doc, pm, an, cdv, ct, osl, h, l, c, _, _⟩ := D.fn.ex
  exact ⟨oc, od, dV, kV, doc, pm, an, cdv, ct, osl, h, l, c⟩
theorem metD_mk {K : PySem.W.Frag} {C : Addr} {m qual : Str} {st : Stmt} {f : Addr} {oc : Value} {od an : Option Addr} {osl : Array (Option Value)} {kV doc pm cdv ct : Value} (a : PySem.W.findIn K (.ref C) m = some (some (.ref f))) (i : PySem.W.isFn K (.ref f) = true)
    (l : K.lookup f = some ⟨oc, od, .func (PySem.W.fnOf m qual (C8.fnArgs st) (C8.fnBody st) (C8.fnScope st) .none kV doc pm an cdv ct), osl⟩) (c : PySem.W.codeIn K cdv qual = true) (k : PySem.W.keepIn K (.ref f) = true) : ∃ f fd, MetD K C m qual st f fd :=
  ⟨f, _, ⟨⟨oc, od, _, kV, doc, pm, an, cdv, ct, osl, rfl, l, c, .inl ⟨rfl, rfl⟩, .inl rfl⟩, k⟩, a, i, k⟩
theorem met_of {P : Program} {w : World} {K : PySem.W.Frag} {mg : Str → Option Value} {base : Heap} {C : Addr} {x qual : Str} {st : Stmt} {ps : List Str} {f : Addr} {fd : FuncData} {k : Nat} {m : Fm} (c : Cls K C) (D : MetD K C x qual st f fd) (b : Binds K fd ps []) (h : FnOk P w K mg base CX0 k f fd ps (spT K m)) : Met P w K mg base k C x m [] :=
  ⟨f, fd, ps, [], [], c, D.me, h, b, .nil, .nil⟩
theorem mak_of {P : Program} {w : World} {K : PySem.W.Frag} {mg : Str → Option Value} {base : Heap} {C : Addr} {x qual : Str} {st : Stmt} {ps : List Str} {f : Addr} {fd : FuncData} {k : Nat} {m : Fm} (hx : mg x = some (.ref C)) (mk : PySem.W.makesIn K C = true) (kc : PySem.W.keepIn K (.ref C) = true) (D : MetD K C "__init__" qual st f fd) (b : Binds K fd ps []) (h : FnOk P w K mg base CX0 k f fd ps (spT K m)) : Mak P w K mg base k x C m [] :=
  ⟨f, fd, ps, [], [], ⟨mk, D.me.at_, D.me.fn, kc⟩, h, hx, b, .nil, .nil⟩
/-- a list of texts of the top's -/
def StrL (K : PySem.W.Frag) (mg : Str → Option Value) (x : Str) (zs : List Str) : Prop := ∃ a, mg x = some (.ref a) ∧ ∀ H, SqL K H a (zs.map V.str)
theorem strL_mk {h : Heap} {K : PySem.W.Frag} {mg : Str → Option Value} {x : Str} {zs : List Str} {a : Addr} {its : Array Value} {n : Nat} {sl : Array (Option Value)} (X : K.In h) (G : h.Ns mainGlobals mg) (e : PySem.W.nsIn K mainGlobals x = some (some (.ref a)))
    (l : K.lookup a = some ⟨.type "list", none, .seq its n, sl⟩) (hz : its.size ≤ 1000) (v : Vals (zs.map V.str) its.toList) : StrL K mg x zs :=
  ⟨a, PySem.W.mg_of X G e, fun H => .inr ⟨_, its, n, l, rfl, rfl, rfl, Nat.le_trans hz (by rw [sizeLine_eq]; decide), v⟩⟩
end L2.Tl

set_option Elab.async false
set_option linter.all false
set_option autoImplicit false
set_option maxRecDepth 100000
namespace L2.Tl
open PySem PySem.Spec PyProof.Rows
/-! ### list(range(n)) -/
def rngI (j : Int) : List Int := (List.range j.toNat).map fun (i : Nat) => (i : Int)
def fListRg (f : Fe) : Fn := fun δ => (f δ).bind fun p => (peek p.1 p.2).bind fun d => match d with
  | .int j => if 0 ≤ j ∧ j ≤ 16777216 then some (.new (.lst ((rngI j).map .int)), p.2) else none
  | _ => none
theorem en_listRg {X : Cx} {e : Expr} {f : Fe} {p pos rp rpos : Pos} (hc : X.calm = true) (hg : Gl X "list") (hm : X.mg "list" = none) (hg2 : Gl X "range") (hm2 : X.mg "range" = none) (h : Ev X e f)
    (na : starEach [Expr.Call (.Name "range" rp) [e] [] rpos] X.env = (false, eval (.Call (.Name "range" rp) [e] [] rpos) X.env) :: starEach [] X.env := by rfl) (na2 : starEach [e] X.env = (false, eval e X.env) :: starEach [] X.env := by rfl) :
    En X (.Call (.Name "list" p) [.Call (.Name "range" rp) [e] [] rpos] [] pos) (fListRg f) :=
  PE.imp (pe_listRg hc hg hm (prg_1 hg2 hm2 h na2) na) fun σ H Q ⟨F, G, δ, oo, δ', S, e, kk⟩ => by
    obtain ⟨⟨ra, δ1⟩, e1, e⟩ := Option.bind_eq_some_iff.mp e
    obtain ⟨x0, e2, e⟩ := Option.bind_eq_some_iff.mp e
    dsimp only at e
    split at e
    · split at e
      · rename_i j hj
        cases e
        refine ⟨F, G, δ, ra, _, S, e1, fun v1 H1 G1 S1 m1 r1 => ?_⟩
        have := (S1.peek r1 e2).int
        refine ⟨_, this, RgOk.of_le (Int.le_refl 0) hj.2 (by decide) hj.1, fun q hq => ?_⟩
        have E : Ext G1 H1 G1 (upd H1 q (.lst (rgV 0 j))) := .own S1.sub hq
        have hr : rgV 0 j = (rngI j).map V.int := by simp [rgV, rngI]
        exact kk _ _ G1 (S1.ext E) (m1.trans E.mv) ((RepP.toO (o := .new (.lst _)) S1 E ⟨q, rfl, hq, none_of_sub S1.sub hq, .lst upd_same (hr ▸ RepL.of_ints _)⟩).old m1.dom)
      · cases e
    · cases e
end L2.Tl

set_option Elab.async false
set_option linter.all false
set_option autoImplicit false
set_option maxRecDepth 100000
namespace L2.Tl
open PySem PySem.Spec PyProof.Rows
/-! ### the equations of what the later texts added -/
section
variable {δ : Dl} {i r : Nat} {C : Addr} {m f : Str} {fo fe fk fy : Fe} {fa : Fa} {fr : Fr2} {c : Ft} {fn : Fn} {F : Fm} {ds : List D}
@[simp] theorem fMeth_eq : fMeth C m F fo fr ds δ = (fo δ).bind fun p => match peek p.1 p.2 with
  | some (.obj C' fs) => if C' = C ∧ (fs.lookup m).isNone = true then (fr p.2).bind fun q => callRs F (p.1 :: q.1) ds q.2 else none
  | _ => none := rfl
@[simp] theorem fFld_eq : fFld C f fo δ = (fo δ).bind fun p => match peek p.1 p.2 with
  | some (.obj C' fs) => if C' = C then (fs.lookup f).map fun d => (.val d, p.2) else none
  | _ => none := rfl
@[simp] theorem sFldSet_eq : sFldSet C f i fe δ = (fe δ).bind fun p => (esc p.1 p.2).bind fun q => match rootAt i q.2 with
  | some (.obj C' fs) => if C' = C ∧ fs.length < 1000 then some (.next, setRoot i (.obj C (putFD f q.1 fs)) q.2) else none
  | _ => none := rfl
@[simp] theorem fMake_eq : fMake C F fa ds δ = (fa δ).bind fun p => match F (.inp (.obj C []) :: (p.1.map .fz ++ ds.map .fz)) with
  | some (.val .non, [d]) => some (.new d, p.2)
  | _ => none := rfl
@[simp] theorem fDispS_eq (g : Fd) : fDispS fe g δ = (fe δ).bind fun p => (peek p.1 p.2).bind fun x => match x with
  | .dct false old => if old.length ≤ 1000 then (g p.2).bind fun q => if q.1.length ≤ 15 then some (.new (.dct false (kvMerge (kvMerge [] old) (kvMerge [] q.1))), q.2) else none else none
  | _ => none := rfl
@[simp] theorem fIndex_eq : fIndex fo fa δ = (fo δ).bind fun p => (peek p.1 p.2).bind fun x0 => match x0 with
  | .lst _ => (fa p.2).bind fun q => (peek p.1 q.2).bind fun x => (gIndex x q.1).map fun d => (.val d, q.2)
  | _ => none := rfl
@[simp] theorem sOwnIf_eq : sOwnIf i c fn δ = (c δ).bind fun p => if p.1 = true then (fn p.2).map fun q => (.next, setO i q.1 q.2) else match p.2[i]? with
  | some (some (.own _)) => some (.next, p.2)
  | _ => none := rfl
@[simp] theorem fNIT_eq (zs : List Str) : fNIT zs fe δ = (fe δ).bind fun p => (peek p.1 p.2).bind fun x => match x with
  | .str z => some (!zs.contains z, p.2)
  | _ => none := rfl
@[simp] theorem fIsiC_eq : fIsiC C fe δ = (fe δ).bind fun p => match peek p.1 p.2 with
  | some (.obj C' _) => if C' = C then some (.val (.bl true), p.2) else none
  | _ => none := rfl
@[simp] theorem fListRg_eq : fListRg fe δ = (fe δ).bind fun p => (peek p.1 p.2).bind fun d => match d with
  | .int j => if 0 ≤ j ∧ j ≤ 16777216 then some (.new (.lst ((rngI j).map .int)), p.2) else none
  | _ => none := rfl
@[simp] theorem sGrp_eq (t : Tg) (fi : Fi) : sGrp r t fi fk fy δ = if r < δ.length then (fi (δ.set r none)).bind fun p => if noAt r p.2 = true then (loopG r t fk fy p.1 (p.2, [], [])).map fun g => (.next, g.1.set r (some (.own (.dct false ((g.2.1.zip g.2.2).map fun kv => (kD kv.1, .lst kv.2)))))) else none
  else none := rfl
end
end L2.Tl

set_option Elab.async false
set_option linter.all false
set_option autoImplicit false
set_option maxRecDepth 100000
namespace L2.Tl
open PySem PySem.Spec PyProof.Rows
/-! ### a list of the frame's own, lent to a call that only reads it and answers with an int: it stays the frame's own -/
def toArgsL (i : Nat) (δ : Dl) : List RV → Option (List SV)
  | [] => some []
  | .val d :: rs => (toArgsL i δ rs).map (.fz d :: ·)
  | .slot j :: rs => if j = i then match δ[i]? with
    | some (some (.own (.lst ds))) => (toArgsL i δ rs).map (.fz (.lst ds) :: ·)
    | _ => none else none
section
variable {K : PySem.W.Frag} {F : Fr} {G H : Hp} {σ : St} {δ : Dl}
theorem toArgsL_rep {G1 : Hp} {i : Nat} {p : Addr} {dl : List D} (l : Le G G1) (hi : δ[i]? = some (some (.own (.lst dl)))) (hs : σ[i]? = some (some (V.ref p))) (hr : Rep K G1 (.ref p) (.lst dl)) : ∀ {vs : List V} {rs : List RV} {as : List SV}, RepRs K G σ vs rs → toArgsL i δ rs = some as → ArgR K G1 H vs as []
  | _, _, _, .nil, e => by cases e; exact .nil
  | _, .val d :: rs, _, .cons h r, e => by
    obtain ⟨as, e1, e2⟩ := Option.map_eq_some_iff.mp e
    cases e2
    exact .fz (Rep.mono l h) (toArgsL_rep l hi hs hr r e1)
  | v0 :: vs0, .slot j :: rs, _, .cons h r, e => by
    simp only [toArgsL] at e
    split at e
    · rename_i hj
      subst hj
      rw [hi] at e
      obtain ⟨as, e1, e2⟩ := Option.map_eq_some_iff.mp e
      cases e2
      have h' : σ[j]? = some (some v0) := h
      rw [hs] at h'
      cases h'
      exact .fz hr (toArgsL_rep l hi hs hr r e1)
    · cases e
theorem lend_imp {Fd : Fm} {i : Nat} {dl : List D} {vs : List V} {rs : List RV} {as : List SV} {ws : List V} {ds : List D} {z : Int} {Q : VK} {E : XK} (S : Sim K F G H σ δ) (r : RepRs K G σ vs rs) (hd : ArgD K ws ds) (hi : δ[i]? = some (some (.own (.lst dl))))
    (ea : toArgsL i δ rs = some as) (e : Fd (as ++ ds.map .fz) = some (.val (.int z), [])) (k : ∀ H' G', Sim K F G' H' σ δ → Mv σ δ G H δ G' H' → Q (.int z) H') : spT K Fd (vs ++ ws) H Q E := by
  obtain ⟨p, hs, hg, hr, h0⟩ := S.own i _ hi
  cases hr with
  | @lst xs _ hH hL =>
  have s1 : Sub G (upd G p (.lst xs)) := fun a o h => by
    rw [upd_ne (fun z => by rw [z, hg] at h; cases h)]; exact h
  have s2 : Sub (upd G p (.lst xs)) H := fun a o h => by
    by_cases n : a = p
    · subst n; rw [upd_same] at h; cases h; exact hH
    · rw [upd_ne n] at h; exact S.sub a o h
  have hrep : Rep K (upd G p (.lst xs)) (.ref p) (.lst dl) := .lst (.inl upd_same) (hL.mono s1.le)
  refine ⟨_, _, [], _, [], s2, (toArgsL_rep s1.le hi hs hrep r ea).append hd, .nil, e, fun v H' G' A rp => ?_⟩
  have hv : v = .int z := Rep.int_inv rp
  subst hv
  -- what was not the past's stands as it stood
  have stay : ∀ a o, H a = some o → G a = none → H' a = some o := fun a o ho hga => by
    rcases A.fr a o ho (by simp) with q | ⟨q1, q2, _⟩
    · exact q
    · by_cases n : a = p
      · subst n
        rw [hH] at ho
        cases ho
        exact absurd rfl (q1.2 xs)
      · rw [upd_ne n, hga] at q2; cases q2
  let G2 : Hp := fun a => if a = p then none else G' a
  have g2p : G2 p = none := if_pos rfl
  have g2n : ∀ {a}, a ≠ p → G2 a = G' a := fun n => if_neg n
  have ne : ∀ {a o}, G a = some o → a ≠ p := fun h n => by rw [n, hg] at h; cases h
  have le2 : Le G G2 := by
    have l := s1.le.trans A.le
    refine ⟨fun a u h => ?_, fun a ws h => ?_, fun a C dx fs h => ?_, fun a o u h => ?_⟩
    · have n : a ≠ p := by
        rcases h with h | ⟨o, h⟩
        · exact ne h
        · exact ne h
      have := l.rd a u h
      unfold Rd
      rw [g2n n]
      exact this
    · rw [g2n (ne h)]; exact l.tup a ws h
    · rw [g2n (ne h)]; exact l.ins a C dx fs h
    · rw [g2n (ne h)]; exact l.frz a o u h
  have none2 : ∀ a o, H a = some o → G a = none → G2 a = none := fun a o ho hga => by
    by_cases n : a = p
    · rw [n]; exact g2p
    · rw [g2n n]
      cases q : G' a with
      | none => rfl
      | some u =>
        rcases A.new a u q with w | w
        · rw [upd_ne n] at w; exact absurd hga w
        · rw [ho] at w; cases w
  have root : ∀ {q : Addr} {d : D}, G q = none → Root K G H q d → G2 q = none ∧ Root K G2 H' q d := fun {q d} hgq rr => by
    obtain ⟨o, ho⟩ := rr.there
    exact ⟨none2 q o ho hgq, rr.mono le2 ((stay q o ho hgq).trans ho.symm)⟩
  have any : ∀ a o, H a = some o → ∃ o', H' a = some o' := fun a o ho => by
    rcases A.fr a o ho (by simp) with q | ⟨_, _, od, q⟩
    · exact ⟨_, q⟩
    · exact ⟨_, q⟩
  refine k H' G2 ⟨S.len, fun j d hj => ?_, fun j d hj => ?_, fun j d hj => ?_, S.inj, fun a o h => ?_, fun a o h => ?_, fun a o h hio => ?_, fun j a h => ?_, S.g0⟩ ⟨le2, fun a o ho hga ap => ⟨stay a o ho hga, none2 a o ho hga, ap⟩, fun a ha => ?_⟩
  · obtain ⟨w, a, b⟩ := S.fz j d hj
    exact ⟨w, a, b.mono le2⟩
  · obtain ⟨q, a, b, c, f⟩ := S.own j d hj
    obtain ⟨b', c'⟩ := root b c
    exact ⟨q, a, b', c', f⟩
  · obtain ⟨q, a, b, c, f⟩ := S.inp j d hj
    obtain ⟨b', c'⟩ := root b c
    exact ⟨q, a, b', c', f⟩
  · by_cases n : a = p
    · rw [n, g2p] at h; cases h
    · rw [g2n n] at h; exact A.sub a o h
  · by_cases n : a = p
    · rw [n, g2p] at h; cases h
    · rw [g2n n] at h
      rcases A.new a o h with w | w
      · rw [upd_ne n] at w
        cases q : G a with
        | none => exact absurd q w
        | some u => exact S.new a u q
      · refine .inr ?_
        cases q : F.H0 a with
        | none => rfl
        | some u =>
          exfalso
          by_cases hio : ∃ j, F.io j = some a
          · obtain ⟨j, hj⟩ := hio
            obtain ⟨⟨o', ho'⟩, _⟩ := S.ioh j a hj
            rw [w] at ho'; cases ho'
          · rcases S.fr a u q (fun j hj => hio ⟨j, hj⟩) with y | ⟨_, _, od, y⟩
            · rw [w] at y; cases y
            · rw [w] at y; cases y
  · rcases S.fr a o h hio with y | ⟨y1, y2, od, y3⟩
    · rcases A.fr a o y (by simp) with x | ⟨x1, x2, od, x3⟩
      · exact .inl x
      · by_cases n : a = p
        · subst n
          rw [h0] at h; cases h
        · rw [upd_ne n] at x2
          refine .inr ⟨x1, ?_, od, x3⟩
          rcases S.new a o x2 with w | w
          · cases q : F.G0 a with
            | none => exact absurd q w
            | some u =>
              have := S.g0 a u q
              rw [h] at this
              cases this
              rfl
          · rw [h] at w; cases w
    · rcases A.fr a _ y3 (by simp) with x | ⟨x1, _⟩
      · exact .inr ⟨y1, y2, od, x⟩
      · exact absurd x1.1 (fun q => q)
  · obtain ⟨⟨o, ho⟩, hga, hh⟩ := S.ioh j a h
    exact ⟨⟨o, stay a o ho hga⟩, none2 a o ho hga, hh⟩
  · cases q : H a with
    | none => rfl
    | some o =>
      obtain ⟨o', ho'⟩ := any a o q
      rw [ha] at ho'; cases ho'
end
def fCallL (i : Nat) (F : Fm) (fa : Fr2) (ds : List D) : Fn := fun δ => (fa δ).bind fun p => match p.2[i]? with
  | some (some (.own (.lst _))) => (toArgsL i p.2 p.1).bind fun as => match F (as ++ ds.map .fz) with
    | some (.val (.int z), []) => some (.val (.int z), p.2)
    | _ => none
  | _ => none
theorem en_callL {X : Cx} {k j : Nat} {x : Str} {Fd : Fm} {ds : List D} {p pos : Pos} {e : Expr} {es : List Expr} {fa : Fr2} (i : Nat) (c : Cal X.prog X.w X.K X.mg X.base k x Fd ds) (hr : Room j X.A) (hk : k ≤ j) (hg : Gl X x) (ha : Am X (e :: es) fa)
    (hdb : (x == ("__debug__" : Str)) = false := by decide) (he : starEach (e :: es) X.env = (false, eval e X.env) :: starEach es X.env := by rfl) (hpl : (backTo pos (starEach es X.env)).any (·.1) = false := by rfl) :
    En X (.Call (.Name x p) (e :: es) [] pos) (fCallL i Fd fa ds) := by
  obtain ⟨f, fd, ps, us, dvs, F, hm, kp, b, d, hd⟩ := c.ex
  refine PE.imp (pe_call F (hr.mono hk) hg hm kp b d pass0 ha hdb he hpl) fun σ H Q ⟨F, G, δ, o, δ', S, e, k⟩ => ?_
  obtain ⟨⟨rs, δ1⟩, e1, e2⟩ := Option.bind_eq_some_iff.mp e
  dsimp only at e2
  split at e2
  · rename_i dl hi
    obtain ⟨as, e3, e4⟩ := Option.bind_eq_some_iff.mp e2
    split at e4
    · rename_i z hF
      cases e4
      exact ⟨F, G, δ, rs, _, S, e1, fun vs H1 G1 S1 b1 r1 => lend_imp S1 r1 hd hi e3 hF fun H' G' S' l => k _ H' G' S' (b1.trans l) (.int z)⟩
    · cases e4
  · cases e2
@[simp] theorem toArgsL_nil (i : Nat) (δ : Dl) : toArgsL i δ [] = some [] := rfl
@[simp] theorem toArgsL_val (i : Nat) (δ : Dl) (d : D) (rs : List RV) : toArgsL i δ (.val d :: rs) = (toArgsL i δ rs).map (.fz d :: ·) := rfl
@[simp] theorem toArgsL_slot (i : Nat) (δ : Dl) (j : Nat) (rs : List RV) : toArgsL i δ (.slot j :: rs) = if j = i then match δ[i]? with
    | some (some (.own (.lst ds))) => (toArgsL i δ rs).map (.fz (.lst ds) :: ·)
    | _ => none else none := rfl
@[simp] theorem fCallL_eq (i : Nat) (F : Fm) (fa : Fr2) (ds : List D) (δ : Dl) : fCallL i F fa ds δ = (fa δ).bind fun p => match p.2[i]? with
  | some (some (.own (.lst _))) => (toArgsL i p.2 p.1).bind fun as => match F (as ++ ds.map .fz) with
    | some (.val (.int z), []) => some (.val (.int z), p.2)
    | _ => none
  | _ => none := rfl
end L2.Tl

set_option Elab.async false
set_option linter.all false
set_option autoImplicit false
set_option maxRecDepth 100000
namespace K83
open PySem PySem.Spec PyProof.Rows L2 L2.Tl
def top (i : Nat) : Stmt := PySem.Challenge.pw_filledup_k83_whole_rules_in_a_store.main.body.getD i (.Pass ⟨0, 0, 0, 0⟩)
abbrev blts : List Str := ["all", "bool", "dict", "enumerate", "int", "isinstance", "len", "list", "max", "min", "range", "sorted", "str", "sum", "tuple", "zip"]
noncomputable section
variable {P : Program} {w : World} {K : PySem.W.Frag} {mg : Str → Option Value} {base : Heap}
/-! is_whole -/
abbrev s_is_whole : Stmt := top 2
def N_is_whole : List Str := ["value"]
def p_is_whole : List Str := ["value"]
theorem sc_is_whole : FnScope N_is_whole p_is_whole (C8.fnScope s_is_whole) := C8.fnScope_by (by decide +kernel)
def f_is_whole : Fs :=
    sRet (fO (fAnd (fIsi "int" (fVar 0)) (fNot (fIsi "bool" (fVar 0)))))
def m_is_whole : Fm := runP 1 f_is_whole 0
theorem ok_is_whole {a : Addr} {fd : FuncData} (F : C8.Fun K "is_whole" "is_whole" s_is_whole a fd) (hb : NoMg mg blts) : FnOk P w K mg base CX0 1 a fd p_is_whole (spT K (m_is_whole)) :=
  def_okP F sc_is_whole rfl fun cdv A outer s H E hr =>
    (ss_one (sm_ret (Ev.o (ev_and (ev_isi kit_int (by rfl) (hb "isinstance" (by decide)) (by rfl) (hb "int" (by decide)) boot_int (ev_var 0)) (ev_one (ev_not (ev_isi kit_bool (by rfl) (hb "isinstance" (by decide)) (by rfl) (hb "bool" (by decide)) boot_bool (ev_var 0))))))))
/-! is_count -/
abbrev s_is_count : Stmt := top 3
def N_is_count : List Str := ["value", "least"]
def p_is_count : List Str := ["value", "least"]
theorem sc_is_count : FnScope N_is_count p_is_count (C8.fnScope s_is_count) := C8.fnScope_by (by decide +kernel)
def f_is_count (g_is_whole : Fm) : Fs :=
    sRet (fO (fAnd (fV (fCall g_is_whole (fMv (fVar 0) (fM0)) [])) (fV (fOp2 dGe (fVar 0) (fV (fBl gMax (fQ (fVar 1) (fQ (fC (.int 0)) (fQ0)))))))))
def m_is_count (g_is_whole : Fm) : Fm := runP 2 (f_is_count g_is_whole) 0
theorem ok_is_count {g_is_whole : Fm} {a : Addr} {fd : FuncData} (F : C8.Fun K "is_count" "is_count" s_is_count a fd) (hb : NoMg mg blts) (c_is_whole : Cal P w K mg base 1 "is_whole" g_is_whole []) : FnOk P w K mg base CX0 2 a fd p_is_count (spT K (m_is_count g_is_whole)) :=
  def_okP F sc_is_count rfl fun cdv A outer s H E hr =>
    (ss_one (sm_ret (Ev.o (ev_and (En.v (en_call c_is_whole hr (by decide) (by rfl) (am_v (ev_var 0) am_nil))) (ev_one (En.v (en_cmp (opT_ge (Tl.Room.hu hr)) (ev_var 0) (En.v (en_bl (bl_max rfl) (by rfl) (hb "max" (by decide)) boot_max (ap_cons (ev_var 1) (ap_cons ev_int ap_nil)))) (by with_unfolding_all rfl))))))))
/-! is_word -/
abbrev s_is_word : Stmt := top 4
def N_is_word : List Str := ["value", "sign"]
def p_is_word : List Str := ["value"]
theorem sc_is_word : FnScope N_is_word p_is_word (C8.fnScope s_is_word) := C8.fnScope_by (by decide +kernel)
def f_is_word : Fs :=
    sRet (fO (fAnd (fIsi "str" (fVar 0)) (fAnd (fV (fChain dLt dLt (fC (.int 0)) (fV (fBl gLen (fQ (fVar 0) (fQ0)))) (fC (.int 13)))) (fV (fBl gAll (fQ (fV (fLc [1] (fiOf seqOf (fVar 0)) (.nm 1) (fYes) (fV (fChain dLe dLe (fC (.str "a")) (fVar 1) (fC (.str "z")))))) (fQ0)))))))
def m_is_word : Fm := runP 1 f_is_word 1
theorem ok_is_word {a : Addr} {fd : FuncData} (F : C8.Fun K "is_word" "is_word" s_is_word a fd) (hb : NoMg mg blts) : FnOk P w K mg base CX0 1 a fd p_is_word (spT K (m_is_word)) :=
  def_okP F sc_is_word rfl fun cdv A outer s H E hr =>
    (ss_one (sm_ret (Ev.o (ev_and (ev_isi kit_str (by rfl) (hb "isinstance" (by decide)) (by rfl) (hb "str" (by decide)) boot_str (ev_var 0)) (ev_and (En.v (en_chain (opT_lt (Tl.Room.hu hr)) (opT_lt (Tl.Room.hu hr)) ev_int (En.v (en_bl bl_len (by rfl) (hb "len" (by decide)) boot_len (ap_cons (ev_var 0) ap_nil))) ev_int)) (ev_one (En.v (en_bl (bl_all rfl) (by rfl) (hb "all" (by decide)) boot_all (ap_cons (En.v (en_lc (own := [("sign", 1)]) rfl sc_is_word.nd (ii_any (ev_var 0)) (blkOk_by (by rfl)) (fun s1 H1 C1 cl1 fp1 => (tg_nm sc_is_word.nd (by rfl) (by first | exact Or.inl rfl | exact Or.inr rfl))) (fun s1 H1 C1 cl1 fp1 => ptsT_nil) (fun s1 H1 C1 cl1 fp1 => (En.v (en_chain (opT_le (Tl.Room.hu hr)) (opT_le (Tl.Room.hu hr)) ev_str (ev_var 1) ev_str))))) ap_nil)))))))))
/-! is_tuple_of -/
abbrev s_is_tuple_of : Stmt := top 5
def N_is_tuple_of : List Str := ["value", "size"]
def p_is_tuple_of : List Str := ["value", "size"]
theorem sc_is_tuple_of : FnScope N_is_tuple_of p_is_tuple_of (C8.fnScope s_is_tuple_of) := C8.fnScope_by (by decide +kernel)
def f_is_tuple_of : Fs :=
    sRet (fO (fAnd (fIsi "tuple" (fVar 0)) (fV (fOp2 dEq (fV (fBl gLen (fQ (fVar 0) (fQ0)))) (fVar 1)))))
def m_is_tuple_of : Fm := runP 2 f_is_tuple_of 0
theorem ok_is_tuple_of {a : Addr} {fd : FuncData} (F : C8.Fun K "is_tuple_of" "is_tuple_of" s_is_tuple_of a fd) (hb : NoMg mg blts) : FnOk P w K mg base CX0 1 a fd p_is_tuple_of (spT K (m_is_tuple_of)) :=
  def_okP F sc_is_tuple_of rfl fun cdv A outer s H E hr =>
    (ss_one (sm_ret (Ev.o (ev_and (ev_isi kit_tuple (by rfl) (hb "isinstance" (by decide)) (by rfl) (hb "tuple" (by decide)) boot_tuple (ev_var 0)) (ev_one (En.v (en_cmp (opT_eq (Tl.Room.hu hr)) (En.v (en_bl bl_len (by rfl) (hb "len" (by decide)) boot_len (ap_cons (ev_var 0) ap_nil))) (ev_var 1) (by with_unfolding_all rfl))))))))
/-! is_said -/
abbrev s_is_said : Stmt := top 6
def N_is_said : List Str := ["value", "word", "size"]
def p_is_said : List Str := ["value", "word", "size"]
theorem sc_is_said : FnScope N_is_said p_is_said (C8.fnScope s_is_said) := C8.fnScope_by (by decide +kernel)
def f_is_said (g_is_tuple_of : Fm) : Fs :=
    sRet (fO (fAnd (fV (fCall g_is_tuple_of (fMv (fVar 0) (fMv (fVar 2) (fM0))) [])) (fAnd (fIsi "str" (fV (fOp2 dIx (fVar 0) (fC (.int 0))))) (fV (fOp2 dEq (fV (fOp2 dIx (fVar 0) (fC (.int 0)))) (fVar 1))))))
def m_is_said (g_is_tuple_of : Fm) : Fm := runP 3 (f_is_said g_is_tuple_of) 0
theorem ok_is_said {g_is_tuple_of : Fm} {a : Addr} {fd : FuncData} (F : C8.Fun K "is_said" "is_said" s_is_said a fd) (hb : NoMg mg blts) (c_is_tuple_of : Cal P w K mg base 1 "is_tuple_of" g_is_tuple_of []) : FnOk P w K mg base CX0 2 a fd p_is_said (spT K (m_is_said g_is_tuple_of)) :=
  def_okP F sc_is_said rfl fun cdv A outer s H E hr =>
    (ss_one (sm_ret (Ev.o (ev_and (En.v (en_call c_is_tuple_of hr (by decide) (by rfl) (am_v (ev_var 0) (am_v (ev_var 2) am_nil)))) (ev_and (ev_isi kit_str (by rfl) (hb "isinstance" (by decide)) (by rfl) (hb "str" (by decide)) boot_str (En.v (en_sub (Tl.Room.hu hr) (ev_var 0) ev_int))) (ev_one (En.v (en_cmp (opT_eq (Tl.Room.hu hr)) (En.v (en_sub (Tl.Room.hu hr) (ev_var 0) ev_int)) (ev_var 1) (by with_unfolding_all rfl)))))))))
/-! copied -/
abbrev s_copied : Stmt := top 7
def N_copied : List Str := ["thing", "item", "key"]
def p_copied : List Str := ["thing"]
theorem sc_copied : FnScope N_copied p_copied (C8.fnScope s_copied) := C8.fnScope_by (by decide +kernel)
def f_copied (g_copied : Fm) : Fs :=
    sSeq (sIf (fT (fIsi "list" (fVar 0))) (sRet (fLc [1] (fiOf seqOf (fVar 0)) (.nm 1) (fYes) (fV (fCall g_copied (fMv (fVar 1) (fM0)) [])))) (sNext))
    (sSeq (sIf (fT (fIsi "tuple" (fVar 0))) (sRet (fBl gTuple (fQ (fV (fLc [1] (fiOf seqOf (fVar 0)) (.nm 1) (fYes) (fV (fCall g_copied (fMv (fVar 1) (fM0)) [])))) (fQ0)))) (sNext))
    (sSeq (sIf (fT (fIsi "dict" (fVar 0))) (sRet (fDc [2, 1] (fiOf itemsOf (fVar 0)) (.tp [2, 1]) (fYes) (fVar 2) (fV (fCall g_copied (fMv (fVar 1) (fM0)) [])))) (sNext))
    (sRet (fO (fVar 0)))))
def m_copied (g_copied : Fm) : Fm := runP 1 (f_copied g_copied) 2
theorem ok_copied {g_copied : Fm} {a : Addr} {fd : FuncData} {k : Nat} (F : C8.Fun K "copied" "copied" s_copied a fd) (hb : NoMg mg blts) (c_copied : Cal P w K mg base k "copied" g_copied []) : FnOk P w K mg base CX0 (k + 1) a fd p_copied (spT K (m_copied g_copied)) :=
  def_okP F sc_copied rfl fun cdv A outer s H E hr =>
    (ss_cons (sm_if (ts_val (ev_isi kit_list (by rfl) (hb "isinstance" (by decide)) (by rfl) (hb "list" (by decide)) boot_list (ev_var 0))) (ss_one (sm_ret (en_lc (own := [("item", 1)]) rfl sc_copied.nd (ii_any (ev_var 0)) (blkOk_by (by rfl)) (fun s1 H1 C1 cl1 fp1 => (tg_nm sc_copied.nd (by rfl) (by first | exact Or.inl rfl | exact Or.inr rfl))) (fun s1 H1 C1 cl1 fp1 => ptsT_nil) (fun s1 H1 C1 cl1 fp1 => (En.v (en_call c_copied hr (by omega) (by rfl) (am_v (ev_var 1) am_nil))))))) ss_nil)
      (ss_cons (sm_if (ts_val (ev_isi kit_tuple (by rfl) (hb "isinstance" (by decide)) (by rfl) (hb "tuple" (by decide)) boot_tuple (ev_var 0))) (ss_one (sm_ret (en_ty bl_tuple (by rfl) (hb "tuple" (by decide)) boot_tuple (ap_cons (En.v (en_lc (own := [("item", 1)]) rfl sc_copied.nd (ii_any (ev_var 0)) (blkOk_by (by rfl)) (fun s1 H1 C1 cl1 fp1 => (tg_nm sc_copied.nd (by rfl) (by first | exact Or.inl rfl | exact Or.inr rfl))) (fun s1 H1 C1 cl1 fp1 => ptsT_nil) (fun s1 H1 C1 cl1 fp1 => (En.v (en_call c_copied hr (by omega) (by rfl) (am_v (ev_var 1) am_nil)))))) ap_nil)))) ss_nil)
      (ss_cons (sm_if (ts_val (ev_isi kit_dict (by rfl) (hb "isinstance" (by decide)) (by rfl) (hb "dict" (by decide)) boot_dict (ev_var 0))) (ss_one (sm_ret (en_dc (own := [("key", 2), ("item", 1)]) rfl sc_copied.nd (ii_items (ev_var 0)) (blkOk_by (by rfl)) (fun s1 H1 C1 cl1 fp1 => (tg_tp rfl sc_copied.nd (GNs.cons (by rfl) (by first | exact Or.inl rfl | exact Or.inr rfl) (by first | exact .inl rfl | exact .inr rfl) (GNs.cons (by rfl) (by first | exact Or.inl rfl | exact Or.inr rfl) (by first | exact .inl rfl | exact .inr rfl) GNs.nil)))) (fun s1 H1 C1 cl1 fp1 => ptsT_nil) (fun s1 H1 C1 cl1 fp1 => (ev_var 2)) (fun s1 H1 C1 cl1 fp1 => (En.v (en_call c_copied hr (by omega) (by rfl) (am_v (ev_var 1) am_nil))))))) ss_nil)
      (ss_one (sm_ret (Ev.o (ev_var 0)))))))
/-! are_sizes -/
abbrev s_are_sizes : Stmt := top 15
def N_are_sizes : List Str := ["value", "size"]
def p_are_sizes : List Str := ["value"]
theorem sc_are_sizes : FnScope N_are_sizes p_are_sizes (C8.fnScope s_are_sizes) := C8.fnScope_by (by decide +kernel)
def f_are_sizes (g_is_count : Fm) : Fs :=
    sRet (fO (fAnd (fIsi "list" (fVar 0)) (fV (fBl gAll (fQ (fV (fLc [1] (fiOf seqOf (fVar 0)) (.nm 1) (fYes) (fV (fCall g_is_count (fMv (fVar 1) (fMv (fC (.int 1)) (fM0))) [])))) (fQ0))))))
def m_are_sizes (g_is_count : Fm) : Fm := runP 1 (f_are_sizes g_is_count) 1
theorem ok_are_sizes {g_is_count : Fm} {a : Addr} {fd : FuncData} (F : C8.Fun K "are_sizes" "are_sizes" s_are_sizes a fd) (hb : NoMg mg blts) (c_is_count : Cal P w K mg base 2 "is_count" g_is_count []) : FnOk P w K mg base CX0 3 a fd p_are_sizes (spT K (m_are_sizes g_is_count)) :=
  def_okP F sc_are_sizes rfl fun cdv A outer s H E hr =>
    (ss_one (sm_ret (Ev.o (ev_and (ev_isi kit_list (by rfl) (hb "isinstance" (by decide)) (by rfl) (hb "list" (by decide)) boot_list (ev_var 0)) (ev_one (En.v (en_bl (bl_all rfl) (by rfl) (hb "all" (by decide)) boot_all (ap_cons (En.v (en_lc (own := [("size", 1)]) rfl sc_are_sizes.nd (ii_any (ev_var 0)) (blkOk_by (by rfl)) (fun s1 H1 C1 cl1 fp1 => (tg_nm sc_are_sizes.nd (by rfl) (by first | exact Or.inl rfl | exact Or.inr rfl))) (fun s1 H1 C1 cl1 fp1 => ptsT_nil) (fun s1 H1 C1 cl1 fp1 => (En.v (en_call c_is_count hr (by decide) (by rfl) (am_v (ev_var 1) (am_v ev_int am_nil))))))) ap_nil))))))))
/-! check_sizes -/
abbrev s_check_sizes : Stmt := top 16
def N_check_sizes : List Str := ["value"]
def p_check_sizes : List Str := ["value"]
theorem sc_check_sizes : FnScope N_check_sizes p_check_sizes (C8.fnScope s_check_sizes) := C8.fnScope_by (by decide +kernel)
def f_check_sizes (g_are_sizes : Fm) : Fs :=
    sIf (fTN (fT (fV (fCall g_are_sizes (fMv (fVar 0) (fM0)) [])))) (sNever) (sNext)
def m_check_sizes (g_are_sizes : Fm) : Fm := runP 1 (f_check_sizes g_are_sizes) 0
theorem ok_check_sizes {g_are_sizes : Fm} {a : Addr} {fd : FuncData} (F : C8.Fun K "check_sizes" "check_sizes" s_check_sizes a fd) (hb : NoMg mg blts) (c_are_sizes : Cal P w K mg base 3 "are_sizes" g_are_sizes []) : FnOk P w K mg base CX0 4 a fd p_check_sizes (spT K (m_check_sizes g_are_sizes)) :=
  def_okP F sc_check_sizes rfl fun cdv A outer s H E hr =>
    (ss_one (sm_if (ts_not (ts_val (En.v (en_call c_are_sizes hr (by decide) (by rfl) (am_v (ev_var 0) am_nil))))) (ss_one sm_never) ss_nil))
/-! is_lot_there -/
abbrev s_is_lot_there : Stmt := top 17
def N_is_lot_there : List Str := ["sizes", "value", "thing", "one", "late"]
def p_is_lot_there : List Str := ["sizes", "value"]
theorem sc_is_lot_there : FnScope N_is_lot_there p_is_lot_there (C8.fnScope s_is_lot_there) := C8.fnScope_by (by decide +kernel)
def f_is_lot_there (g_is_count_d : Fm) : Fs :=
    sSeq (sIf (fTO (fTN (fT (fIsi "list" (fVar 1)))) (fTN (fT (fV (fBl gAll (fQ (fV (fLc [2] (fiOf seqOf (fVar 1)) (.nm 2) (fYes) (fAnd (fV (fCall g_is_count_d (fMv (fVar 2) (fM0)) [.int 0])) (fV (fOp2 dLt (fVar 2) (fV (fBl gLen (fQ (fVar 0) (fQ0))))))))) (fQ0))))))) (sRet (fO (fC (.bl false)))) (sNext))
    (sRet (fBl gAll (fQ (fV (fLc [3, 4] (fiA gZip (fA (fVar 1) (fA (fV (fCut (fVar 1) (fPart (fC (.int 1))) (fPart0))) (fA0)))) (.tp [3, 4]) (fYes) (fV (fOp2 dLt (fVar 3) (fVar 4))))) (fQ0))))
def m_is_lot_there (g_is_count_d : Fm) : Fm := runP 2 (f_is_lot_there g_is_count_d) 3
theorem ok_is_lot_there {g_is_count_d : Fm} {a : Addr} {fd : FuncData} (F : C8.Fun K "is_lot_there" "is_lot_there" s_is_lot_there a fd) (hb : NoMg mg blts) (c_is_count_d : Cal P w K mg base 2 "is_count" g_is_count_d [.int 0]) : FnOk P w K mg base CX0 3 a fd p_is_lot_there (spT K (m_is_lot_there g_is_count_d)) :=
  def_okP F sc_is_lot_there rfl fun cdv A outer s H E hr =>
    (ss_cons (sm_if (Tw.t (tw_or (ts_not (ts_val (ev_isi kit_list (by rfl) (hb "isinstance" (by decide)) (by rfl) (hb "list" (by decide)) boot_list (ev_var 1)))) (tw_or1 (ts_not (ts_val (En.v (en_bl (bl_all rfl) (by rfl) (hb "all" (by decide)) boot_all (ap_cons (En.v (en_lc (own := [("thing", 2)]) rfl sc_is_lot_there.nd (ii_any (ev_var 1)) (blkOk_by (by rfl)) (fun s1 H1 C1 cl1 fp1 => (tg_nm sc_is_lot_there.nd (by rfl) (by first | exact Or.inl rfl | exact Or.inr rfl))) (fun s1 H1 C1 cl1 fp1 => ptsT_nil) (fun s1 H1 C1 cl1 fp1 => (ev_and (En.v (en_call c_is_count_d hr (by decide) (by rfl) (am_v (ev_var 2) am_nil))) (ev_one (En.v (en_cmp (opT_lt (Tl.Room.hu hr)) (ev_var 2) (En.v (en_bl bl_len (by rfl) (hb "len" (by decide)) boot_len (ap_cons (ev_var 0) ap_nil))) (by with_unfolding_all rfl)))))))) ap_nil)))))))) (ss_one (sm_ret (Ev.o ev_bl))) ss_nil)
      (ss_one (sm_ret (en_bl (bl_all rfl) (by rfl) (hb "all" (by decide)) boot_all (ap_cons (En.v (en_lc (own := [("one", 3), ("late", 4)]) rfl sc_is_lot_there.nd (ii_zip (by rfl) (hb "zip" (by decide)) (ar_cons (ev_var 1) (ar_cons (En.v (en_cut (ev_var 1) (pt1 ev_int) pt0)) ar_nil))) (blkOk_by (by rfl)) (fun s1 H1 C1 cl1 fp1 => (tg_tp rfl sc_is_lot_there.nd (GNs.cons (by rfl) (by first | exact Or.inl rfl | exact Or.inr rfl) (by first | exact .inl rfl | exact .inr rfl) (GNs.cons (by rfl) (by first | exact Or.inl rfl | exact Or.inr rfl) (by first | exact .inl rfl | exact .inr rfl) GNs.nil)))) (fun s1 H1 C1 cl1 fp1 => ptsT_nil) (fun s1 H1 C1 cl1 fp1 => (En.v (en_cmp (opT_lt (Tl.Room.hu hr)) (ev_var 3) (ev_var 4) (by with_unfolding_all rfl)))))) ap_nil)))))
/-! check_room -/
abbrev s_check_room : Stmt := top 18
def N_check_room : List Str := ["value"]
def p_check_room : List Str := ["value"]
theorem sc_check_room : FnScope N_check_room p_check_room (C8.fnScope s_check_room) := C8.fnScope_by (by decide +kernel)
def f_check_room (g_is_count_d : Fm) : Fs :=
    sIf (fTN (fT (fV (fCall g_is_count_d (fMv (fVar 0) (fM0)) [.int 0])))) (sNever) (sNext)
def m_check_room (g_is_count_d : Fm) : Fm := runP 1 (f_check_room g_is_count_d) 0
theorem ok_check_room {g_is_count_d : Fm} {a : Addr} {fd : FuncData} (F : C8.Fun K "check_room" "check_room" s_check_room a fd) (hb : NoMg mg blts) (c_is_count_d : Cal P w K mg base 2 "is_count" g_is_count_d [.int 0]) : FnOk P w K mg base CX0 3 a fd p_check_room (spT K (m_check_room g_is_count_d)) :=
  def_okP F sc_check_room rfl fun cdv A outer s H E hr =>
    (ss_one (sm_if (ts_not (ts_val (En.v (en_call c_is_count_d hr (by decide) (by rfl) (am_v (ev_var 0) am_nil))))) (ss_one sm_never) ss_nil))
/-! size_there -/
abbrev s_size_there : Stmt := top 19
def N_size_there : List Str := ["sizes", "lot", "thing"]
def p_size_there : List Str := ["sizes", "lot"]
theorem sc_size_there : FnScope N_size_there p_size_there (C8.fnScope s_size_there) := C8.fnScope_by (by decide +kernel)
def f_size_there : Fs :=
    sRet (fBl gSum (fQ (fV (fLc [2] (fiOf seqOf (fVar 1)) (.nm 2) (fYes) (fV (fOp2 dIx (fVar 0) (fVar 2))))) (fQ0)))
def m_size_there : Fm := runP 2 f_size_there 1
theorem ok_size_there {a : Addr} {fd : FuncData} (F : C8.Fun K "size_there" "size_there" s_size_there a fd) (hb : NoMg mg blts) : FnOk P w K mg base CX0 1 a fd p_size_there (spT K (m_size_there)) :=
  def_okP F sc_size_there rfl fun cdv A outer s H E hr =>
    (ss_one (sm_ret (en_bl (bl_sum rfl) (by rfl) (hb "sum" (by decide)) boot_sum (ap_cons (En.v (en_lc (own := [("thing", 2)]) rfl sc_size_there.nd (ii_any (ev_var 1)) (blkOk_by (by rfl)) (fun s1 H1 C1 cl1 fp1 => (tg_nm sc_size_there.nd (by rfl) (by first | exact Or.inl rfl | exact Or.inr rfl))) (fun s1 H1 C1 cl1 fp1 => ptsT_nil) (fun s1 H1 C1 cl1 fp1 => (En.v (en_sub (Tl.Room.hu hr) (ev_var 0) (ev_var 2)))))) ap_nil))))
/-! is_act -/
abbrev s_is_act : Stmt := top 21
def N_is_act : List Str := ["value"]
def p_is_act : List Str := ["value"]
theorem sc_is_act : FnScope N_is_act p_is_act (C8.fnScope s_is_act) := C8.fnScope_by (by decide +kernel)
def f_is_act (g_is_said : Fm) (g_is_count_d : Fm) (g_is_count : Fm) (g_is_word : Fm) : Fs :=
    sSeq (sIf (fT (fV (fCall g_is_said (fMv (fVar 0) (fMv (fC (.str "open")) (fMv (fC (.int 1)) (fM0)))) []))) (sRet (fO (fC (.bl true)))) (sNext))
    (sSeq (sIf (fT (fV (fCall g_is_said (fMv (fVar 0) (fMv (fC (.str "close")) (fMv (fC (.int 2)) (fM0)))) []))) (sRet (fCall g_is_count_d (fMv (fV (fOp2 dIx (fVar 0) (fC (.int 1)))) (fM0)) [.int 0])) (sNext))
    (sSeq (sIf (fT (fV (fCall g_is_said (fMv (fVar 0) (fMv (fC (.str "put")) (fMv (fC (.int 4)) (fM0)))) []))) (sRet (fO (fAnd (fV (fCall g_is_word (fMv (fV (fOp2 dIx (fVar 0) (fC (.int 1)))) (fM0)) [])) (fAnd (fV (fCall g_is_count (fMv (fV (fOp2 dIx (fVar 0) (fC (.int 2)))) (fMv (fC (.int 1)) (fM0))) [])) (fV (fCall g_is_count_d (fMv (fV (fOp2 dIx (fVar 0) (fC (.int 3)))) (fM0)) [.int 0])))))) (sNext))
    (sSeq (sIf (fT (fV (fCall g_is_said (fMv (fVar 0) (fMv (fC (.str "move")) (fMv (fC (.int 3)) (fM0)))) []))) (sRet (fO (fAnd (fV (fCall g_is_word (fMv (fV (fOp2 dIx (fVar 0) (fC (.int 1)))) (fM0)) [])) (fV (fCall g_is_count_d (fMv (fV (fOp2 dIx (fVar 0) (fC (.int 2)))) (fM0)) [.int 0]))))) (sNext))
    (sRet (fO (fAnd (fV (fCall g_is_said (fMv (fVar 0) (fMv (fC (.str "take")) (fMv (fC (.int 2)) (fM0)))) [])) (fV (fCall g_is_word (fMv (fV (fOp2 dIx (fVar 0) (fC (.int 1)))) (fM0)) []))))))))
def m_is_act (g_is_said : Fm) (g_is_count_d : Fm) (g_is_count : Fm) (g_is_word : Fm) : Fm := runP 1 (f_is_act g_is_said g_is_count_d g_is_count g_is_word) 0
theorem ok_is_act {g_is_said : Fm} {g_is_count_d : Fm} {g_is_count : Fm} {g_is_word : Fm} {a : Addr} {fd : FuncData} (F : C8.Fun K "is_act" "is_act" s_is_act a fd) (hb : NoMg mg blts) (c_is_said : Cal P w K mg base 2 "is_said" g_is_said []) (c_is_count_d : Cal P w K mg base 2 "is_count" g_is_count_d [.int 0]) (c_is_count : Cal P w K mg base 2 "is_count" g_is_count []) (c_is_word : Cal P w K mg base 1 "is_word" g_is_word []) : FnOk P w K mg base CX0 3 a fd p_is_act (spT K (m_is_act g_is_said g_is_count_d g_is_count g_is_word)) :=
  def_okP F sc_is_act rfl fun cdv A outer s H E hr =>
    (ss_cons (sm_if (ts_val (En.v (en_call c_is_said hr (by decide) (by rfl) (am_v (ev_var 0) (am_v ev_str (am_v ev_int am_nil)))))) (ss_one (sm_ret (Ev.o ev_bl))) ss_nil)
      (ss_cons (sm_if (ts_val (En.v (en_call c_is_said hr (by decide) (by rfl) (am_v (ev_var 0) (am_v ev_str (am_v ev_int am_nil)))))) (ss_one (sm_ret (en_call c_is_count_d hr (by decide) (by rfl) (am_v (En.v (en_sub (Tl.Room.hu hr) (ev_var 0) ev_int)) am_nil)))) ss_nil)
      (ss_cons (sm_if (ts_val (En.v (en_call c_is_said hr (by decide) (by rfl) (am_v (ev_var 0) (am_v ev_str (am_v ev_int am_nil)))))) (ss_one (sm_ret (Ev.o (ev_and (En.v (en_call c_is_word hr (by decide) (by rfl) (am_v (En.v (en_sub (Tl.Room.hu hr) (ev_var 0) ev_int)) am_nil))) (ev_and (En.v (en_call c_is_count hr (by decide) (by rfl) (am_v (En.v (en_sub (Tl.Room.hu hr) (ev_var 0) ev_int)) (am_v ev_int am_nil)))) (ev_one (En.v (en_call c_is_count_d hr (by decide) (by rfl) (am_v (En.v (en_sub (Tl.Room.hu hr) (ev_var 0) ev_int)) am_nil))))))))) ss_nil)
      (ss_cons (sm_if (ts_val (En.v (en_call c_is_said hr (by decide) (by rfl) (am_v (ev_var 0) (am_v ev_str (am_v ev_int am_nil)))))) (ss_one (sm_ret (Ev.o (ev_and (En.v (en_call c_is_word hr (by decide) (by rfl) (am_v (En.v (en_sub (Tl.Room.hu hr) (ev_var 0) ev_int)) am_nil))) (ev_one (En.v (en_call c_is_count_d hr (by decide) (by rfl) (am_v (En.v (en_sub (Tl.Room.hu hr) (ev_var 0) ev_int)) am_nil)))))))) ss_nil)
      (ss_one (sm_ret (Ev.o (ev_and (En.v (en_call c_is_said hr (by decide) (by rfl) (am_v (ev_var 0) (am_v ev_str (am_v ev_int am_nil))))) (ev_one (En.v (en_call c_is_word hr (by decide) (by rfl) (am_v (En.v (en_sub (Tl.Room.hu hr) (ev_var 0) ev_int)) am_nil))))))))))))
/-! fits -/
abbrev s_fits : Stmt := top 22
def N_fits : List Str := ["state", "act"]
def p_fits : List Str := ["state", "act"]
theorem sc_fits : FnScope N_fits p_fits (C8.fnScope s_fits) := C8.fnScope_by (by decide +kernel)
def f_fits : Fs :=
    sRet (fO (fOr (fV (fOp2 dIn (fV (fOp2 dIx (fVar 1) (fC (.int 0)))) (fV (fTup (fA (fC (.str "open")) (fA (fC (.str "take")) (fA0))))))) (fV (fOp2 dIn (fV (fOp2 dIx (fVar 1) (fNeg (fC (.int 1))))) (fV (fOp2 dIx (fVar 0) (fC (.str "open"))))))))
def m_fits : Fm := runP 2 f_fits 0
theorem ok_fits {a : Addr} {fd : FuncData} (F : C8.Fun K "fits" "fits" s_fits a fd) (hb : NoMg mg blts) : FnOk P w K mg base CX0 1 a fd p_fits (spT K (m_fits)) :=
  def_okP F sc_fits rfl fun cdv A outer s H E hr =>
    (ss_one (sm_ret (Ev.o (ev_or (En.v (en_cmp (opT_in (Tl.Room.hu hr)) (En.v (en_sub (Tl.Room.hu hr) (ev_var 1) ev_int)) (En.v (en_tup (ar_cons ev_str (ar_cons ev_str ar_nil)))) (by with_unfolding_all rfl))) (ev_one (En.v (en_cmp (opT_in (Tl.Room.hu hr)) (En.v (en_sub (Tl.Room.hu hr) (ev_var 1) (ev_neg ev_int))) (En.v (en_sub (Tl.Room.hu hr) (ev_var 0) ev_str)) (by with_unfolding_all rfl))))))))
/-! names_in -/
abbrev s_names_in : Stmt := top 23
def N_names_in : List Str := ["state", "box", "things", "name"]
def p_names_in : List Str := ["state", "box"]
theorem sc_names_in : FnScope N_names_in p_names_in (C8.fnScope s_names_in) := C8.fnScope_by (by decide +kernel)
def f_names_in : Fs :=
    sSeq (sSet 2 (fV (fOp2 dIx (fVar 0) (fC (.str "things")))))
    (sRet (fBl gSorted (fQ (fV (fLc [3] (fiOf seqOf (fVar 2)) (.nm 3) (fT (fV (fOp2 dEq (fV (fOp2 dIx (fV (fOp2 dIx (fVar 2) (fVar 3))) (fC (.int 1)))) (fVar 1)))) (fVar 3))) (fQ0))))
def m_names_in : Fm := runP 2 f_names_in 2
theorem ok_names_in {a : Addr} {fd : FuncData} (F : C8.Fun K "names_in" "names_in" s_names_in a fd) (hb : NoMg mg blts) : FnOk P w K mg base CX0 1 a fd p_names_in (spT K (m_names_in)) :=
  def_okP F sc_names_in rfl fun cdv A outer s H E hr =>
    (ss_cons (sm_set sc_names_in.nd (by rfl) (by first | exact Or.inl rfl | exact Or.inr rfl) (En.v (en_sub (Tl.Room.hu hr) (ev_var 0) ev_str)))
      (ss_one (sm_ret (en_bl (bl_sorted rfl (Tl.Room.hu hr)) (by rfl) (hb "sorted" (by decide)) boot_sorted (ap_cons (En.v (en_lc (own := [("name", 3)]) rfl sc_names_in.nd (ii_any (ev_var 2)) (blkOk_by (by rfl)) (fun s1 H1 C1 cl1 fp1 => (tg_nm sc_names_in.nd (by rfl) (by first | exact Or.inl rfl | exact Or.inr rfl))) (fun s1 H1 C1 cl1 fp1 => (ptsT_one (ts_cmp (opT_eq (Tl.Room.hu hr)) (En.v (en_sub (Tl.Room.hu hr) (En.v (en_sub (Tl.Room.hu hr) (ev_var 2) (ev_var 3))) ev_int)) (ev_var 1) (by with_unfolding_all rfl)))) (fun s1 H1 C1 cl1 fp1 => (ev_var 3)))) ap_nil)))))
/-! spare_of -/
abbrev s_spare_of : Stmt := top 24
def N_spare_of : List Str := ["state", "box", "size", "late"]
def p_spare_of : List Str := ["state", "box"]
theorem sc_spare_of : FnScope N_spare_of p_spare_of (C8.fnScope s_spare_of) := C8.fnScope_by (by decide +kernel)
def f_spare_of : Fs :=
    sRet (fOp2 dSub (fV (fOp2 dIx (fVar 0) (fC (.str "room")))) (fV (fBl gSum (fQ (fV (fLc [2, 3] (fiOf valsOf (fV (fOp2 dIx (fVar 0) (fC (.str "things"))))) (.tp [2, 3]) (fT (fV (fOp2 dEq (fVar 3) (fVar 1)))) (fVar 2))) (fQ0)))))
def m_spare_of : Fm := runP 2 f_spare_of 2
theorem ok_spare_of {a : Addr} {fd : FuncData} (F : C8.Fun K "spare_of" "spare_of" s_spare_of a fd) (hb : NoMg mg blts) : FnOk P w K mg base CX0 1 a fd p_spare_of (spT K (m_spare_of)) :=
  def_okP F sc_spare_of rfl fun cdv A outer s H E hr =>
    (ss_one (sm_ret (en_bin opT_sub (En.v (en_sub (Tl.Room.hu hr) (ev_var 0) ev_str)) (En.v (en_bl (bl_sum rfl) (by rfl) (hb "sum" (by decide)) boot_sum (ap_cons (En.v (en_lc (own := [("size", 2), ("late", 3)]) rfl sc_spare_of.nd (ii_values (En.v (en_sub (Tl.Room.hu hr) (ev_var 0) ev_str))) (blkOk_by (by rfl)) (fun s1 H1 C1 cl1 fp1 => (tg_tp rfl sc_spare_of.nd (GNs.cons (by rfl) (by first | exact Or.inl rfl | exact Or.inr rfl) (by first | exact .inl rfl | exact .inr rfl) (GNs.cons (by rfl) (by first | exact Or.inl rfl | exact Or.inr rfl) (by first | exact .inl rfl | exact .inr rfl) GNs.nil)))) (fun s1 H1 C1 cl1 fp1 => (ptsT_one (ts_cmp (opT_eq (Tl.Room.hu hr)) (ev_var 3) (ev_var 1) (by with_unfolding_all rfl)))) (fun s1 H1 C1 cl1 fp1 => (ev_var 2)))) ap_nil))))))
/-! with_things -/
abbrev s_with_things : Stmt := top 25
def N_with_things : List Str := ["state", "things", "name"]
def p_with_things : List Str := ["state", "things"]
theorem sc_with_things : FnScope N_with_things p_with_things (C8.fnScope s_with_things) := C8.fnScope_by (by decide +kernel)
def f_with_things : Fs :=
    sRet (fDispS (fVar 0) (fDk (fC (.str "things")) (fV (fDc [2] (fiOf seqOf (fV (fBl gSortedS (fQ (fVar 1) (fQ0))))) (.nm 2) (fYes) (fVar 2) (fV (fOp2 dIx (fVar 1) (fVar 2))))) (fD0)))
def m_with_things : Fm := runP 2 f_with_things 1
theorem ok_with_things {a : Addr} {fd : FuncData} (F : C8.Fun K "with_things" "with_things" s_with_things a fd) (hb : NoMg mg blts) : FnOk P w K mg base CX0 1 a fd p_with_things (spT K (m_with_things)) :=
  def_okP F sc_with_things rfl fun cdv A outer s H E hr =>
    (ss_one (sm_ret (en_dispS (ev_var 0) (pps_cons ev_str (En.v (en_dc (own := [("name", 2)]) rfl sc_with_things.nd (ii_any (En.v (en_bl (bl_sortedS rfl (Tl.Room.hu hr)) (by rfl) (hb "sorted" (by decide)) boot_sorted (ap_cons (ev_var 1) ap_nil)))) (blkOk_by (by rfl)) (fun s1 H1 C1 cl1 fp1 => (tg_nm sc_with_things.nd (by rfl) (by first | exact Or.inl rfl | exact Or.inr rfl))) (fun s1 H1 C1 cl1 fp1 => ptsT_nil) (fun s1 H1 C1 cl1 fp1 => (ev_var 2)) (fun s1 H1 C1 cl1 fp1 => (En.v (en_sub (Tl.Room.hu hr) (ev_var 1) (ev_var 2)))))) pps_nil) (tPs_cons tPs_nil))))
/-! opened -/
abbrev s_opened : Stmt := top 26
def N_opened : List Str := ["state", "act", "box", "names"]
def p_opened : List Str := ["state", "act"]
theorem sc_opened : FnScope N_opened p_opened (C8.fnScope s_opened) := C8.fnScope_by (by decide +kernel)
def f_opened (g_names_in : Fm) : Fs :=
    sSeq (sIf (fT (fV (fOp2 dEq (fV (fOp2 dIx (fVar 1) (fC (.int 0)))) (fC (.str "open"))))) (sSeq (sSet 2 (fV (fOp2 dIx (fVar 0) (fC (.str "next")))))
    (sRet (fTup (fA (fV (fDispS (fVar 0) (fDk (fC (.str "open")) (fV (fOp2 dAdd (fV (fOp2 dIx (fVar 0) (fC (.str "open")))) (fV (fLst (fA (fVar 2) (fA0)))))) (fDk (fC (.str "next")) (fV (fOp2 dAdd (fVar 2) (fC (.int 1)))) (fD0))))) (fA (fV (fTup (fA (fC (.str "done")) (fA (fVar 2) (fA0))))) (fA0)))))) (sNext))
    (sSeq (sSet 3 (fV (fCall g_names_in (fMv (fVar 0) (fMv (fV (fOp2 dIx (fVar 1) (fC (.int 1)))) (fM0))) [])))
    (sSeq (sIf (fT (fV (fOp2 dNe (fVar 3) (fV (fLst (fA0)))))) (sRet (fTup (fA (fVar 0) (fA (fV (fTup (fA (fC (.str "held")) (fA (fVar 3) (fA0))))) (fA0))))) (sNext))
    (sRet (fTup (fA (fV (fDispS (fVar 0) (fDk (fC (.str "open")) (fV (fLc [2] (fiOf seqOf (fV (fOp2 dIx (fVar 0) (fC (.str "open"))))) (.nm 2) (fT (fV (fOp2 dNe (fVar 2) (fV (fOp2 dIx (fVar 1) (fC (.int 1))))))) (fVar 2))) (fD0)))) (fA (fV (fTup (fA (fC (.str "done")) (fA (fV (fOp2 dIx (fVar 1) (fC (.int 1)))) (fA0))))) (fA0)))))))
def m_opened (g_names_in : Fm) : Fm := runP 2 (f_opened g_names_in) 2
theorem ok_opened {g_names_in : Fm} {a : Addr} {fd : FuncData} (F : C8.Fun K "opened" "opened" s_opened a fd) (hb : NoMg mg blts) (c_names_in : Cal P w K mg base 1 "names_in" g_names_in []) : FnOk P w K mg base CX0 2 a fd p_opened (spT K (m_opened g_names_in)) :=
  def_okP F sc_opened rfl fun cdv A outer s H E hr =>
    (ss_cons (sm_if (ts_cmp (opT_eq (Tl.Room.hu hr)) (En.v (en_sub (Tl.Room.hu hr) (ev_var 1) ev_int)) ev_str (by with_unfolding_all rfl)) (ss_cons (sm_set sc_opened.nd (by rfl) (by first | exact Or.inl rfl | exact Or.inr rfl) (En.v (en_sub (Tl.Room.hu hr) (ev_var 0) ev_str)))
      (ss_one (sm_ret (en_tup (ar_cons (En.v (en_dispS (ev_var 0) (pps_cons ev_str (En.v (en_bin opT_add (En.v (en_sub (Tl.Room.hu hr) (ev_var 0) ev_str)) (En.v (en_lst (ar_cons (ev_var 2) ar_nil))))) (pps_cons ev_str (En.v (en_bin opT_add (ev_var 2) ev_int)) pps_nil)) (tPs_cons (tPs_cons tPs_nil)))) (ar_cons (En.v (en_tup (ar_cons ev_str (ar_cons (ev_var 2) ar_nil)))) ar_nil)))))) ss_nil)
      (ss_cons (sm_set sc_opened.nd (by rfl) (by first | exact Or.inl rfl | exact Or.inr rfl) (En.v (en_call c_names_in hr (by decide) (by rfl) (am_v (ev_var 0) (am_v (En.v (en_sub (Tl.Room.hu hr) (ev_var 1) ev_int)) am_nil)))))
      (ss_cons (sm_if (ts_cmp (opT_ne (Tl.Room.hu hr)) (ev_var 3) (En.v (en_lst ar_nil)) (by with_unfolding_all rfl)) (ss_one (sm_ret (en_tup (ar_cons (ev_var 0) (ar_cons (En.v (en_tup (ar_cons ev_str (ar_cons (ev_var 3) ar_nil)))) ar_nil))))) ss_nil)
      (ss_one (sm_ret (en_tup (ar_cons (En.v (en_dispS (ev_var 0) (pps_cons ev_str (En.v (en_lc (own := [("box", 2)]) rfl sc_opened.nd (ii_any (En.v (en_sub (Tl.Room.hu hr) (ev_var 0) ev_str))) (blkOk_by (by rfl)) (fun s1 H1 C1 cl1 fp1 => (tg_nm sc_opened.nd (by rfl) (by first | exact Or.inl rfl | exact Or.inr rfl))) (fun s1 H1 C1 cl1 fp1 => (ptsT_one (ts_cmp (opT_ne (Tl.Room.hu hr)) (ev_var 2) (En.v (en_sub (Tl.Room.hu hr) (ev_var 1) ev_int)) (by with_unfolding_all rfl)))) (fun s1 H1 C1 cl1 fp1 => (ev_var 2)))) pps_nil) (tPs_cons tPs_nil))) (ar_cons (En.v (en_tup (ar_cons ev_str (ar_cons (En.v (en_sub (Tl.Room.hu hr) (ev_var 1) ev_int)) ar_nil)))) ar_nil))))))))
/-! acted -/
abbrev s_acted : Stmt := top 27
def N_acted : List Str := ["state", "act", "things", "name", "late", "one", "size", "box", "left"]
def p_acted : List Str := ["state", "act"]
theorem sc_acted : FnScope N_acted p_acted (C8.fnScope s_acted) := C8.fnScope_by (by decide +kernel)
def f_acted (g_opened : Fm) (g_with_things : Fm) (g_spare_of : Fm) : Fs :=
    sSeq (sIf (fT (fV (fOp2 dIn (fV (fOp2 dIx (fVar 1) (fC (.int 0)))) (fV (fTup (fA (fC (.str "open")) (fA (fC (.str "close")) (fA0)))))))) (sRet (fCall g_opened (fMv (fVar 0) (fMv (fVar 1) (fM0))) [])) (sNext))
    (sSeq (sPar [2, 3] (fP (fO (fV (fOp2 dIx (fVar 0) (fC (.str "things"))))) (fP (fO (fV (fOp2 dIx (fVar 1) (fC (.int 1))))) (fP0))))
    (sSeq (sIf (fTO (fT (fV (fOp2 dEq (fV (fOp2 dIn (fVar 3) (fVar 2))) (fV (fOp2 dEq (fV (fOp2 dIx (fVar 1) (fC (.int 0)))) (fC (.str "put"))))))) (fTA (fT (fV (fOp2 dEq (fV (fOp2 dIx (fVar 1) (fC (.int 0)))) (fC (.str "move"))))) (fT (fV (fOp2 dEq (fV (fOp2 dIx (fV (fOp2 dIx (fVar 2) (fVar 3))) (fC (.int 1)))) (fV (fOp2 dIx (fVar 1) (fC (.int 2))))))))) (sRet (fTup (fA (fVar 0) (fA (fV (fTup (fA (fC (.str "idle")) (fA0)))) (fA0))))) (sNext))
    (sSeq (sIf (fT (fV (fOp2 dEq (fV (fOp2 dIx (fVar 1) (fC (.int 0)))) (fC (.str "take"))))) (sSeq (sSet 4 (fV (fCall g_with_things (fMv (fVar 0) (fMv (fV (fDc [5] (fiOf seqOf (fVar 2)) (.nm 5) (fT (fV (fOp2 dNe (fVar 5) (fVar 3)))) (fVar 5) (fV (fOp2 dIx (fVar 2) (fVar 5))))) (fM0))) [])))
    (sRet (fTup (fA (fVar 4) (fA (fV (fTup (fA (fC (.str "done")) (fA (fV (fCall g_spare_of (fMv (fVar 4) (fMv (fV (fOp2 dIx (fV (fOp2 dIx (fVar 2) (fVar 3))) (fC (.int 1)))) (fM0))) [])) (fA0))))) (fA0)))))) (sNext))
    (sSeq (sPar [6, 7] (fP (fO (fV (fIfN (fT (fV (fOp2 dEq (fV (fOp2 dIx (fVar 1) (fC (.int 0)))) (fC (.str "put"))))) (fOp2 dIx (fVar 1) (fC (.int 2))) (fOp2 dIx (fV (fOp2 dIx (fVar 2) (fVar 3))) (fC (.int 0)))))) (fP (fO (fV (fOp2 dIx (fVar 1) (fNeg (fC (.int 1)))))) (fP0))))
    (sSeq (sSet 8 (fV (fCall g_spare_of (fMv (fVar 0) (fMv (fVar 7) (fM0))) [])))
    (sSeq (sIf (fT (fV (fOp2 dGt (fVar 6) (fVar 8)))) (sRet (fTup (fA (fVar 0) (fA (fV (fTup (fA (fC (.str "full")) (fA (fVar 8) (fA0))))) (fA0))))) (sNext))
    (sSeq (sSet 4 (fV (fCall g_with_things (fMv (fVar 0) (fMv (fV (fDispS (fVar 2) (fDk (fVar 3) (fV (fTup (fA (fVar 6) (fA (fVar 7) (fA0))))) (fD0)))) (fM0))) [])))
    (sRet (fTup (fA (fVar 4) (fA (fV (fTup (fA (fC (.str "done")) (fA (fV (fOp2 dSub (fVar 8) (fVar 6))) (fA0))))) (fA0))))))))))))
def m_acted (g_opened : Fm) (g_with_things : Fm) (g_spare_of : Fm) : Fm := runP 2 (f_acted g_opened g_with_things g_spare_of) 7
theorem ok_acted {g_opened : Fm} {g_with_things : Fm} {g_spare_of : Fm} {a : Addr} {fd : FuncData} (F : C8.Fun K "acted" "acted" s_acted a fd) (hb : NoMg mg blts) (c_opened : Cal P w K mg base 2 "opened" g_opened []) (c_with_things : Cal P w K mg base 1 "with_things" g_with_things []) (c_spare_of : Cal P w K mg base 1 "spare_of" g_spare_of []) : FnOk P w K mg base CX0 3 a fd p_acted (spT K (m_acted g_opened g_with_things g_spare_of)) :=
  def_okP F sc_acted rfl fun cdv A outer s H E hr =>
    (ss_cons (sm_if (ts_cmp (opT_in (Tl.Room.hu hr)) (En.v (en_sub (Tl.Room.hu hr) (ev_var 1) ev_int)) (En.v (en_tup (ar_cons ev_str (ar_cons ev_str ar_nil)))) (by with_unfolding_all rfl)) (ss_one (sm_ret (en_call c_opened hr (by decide) (by rfl) (am_v (ev_var 0) (am_v (ev_var 1) am_nil))))) ss_nil)
      (ss_cons (sm_par rfl sc_acted.nd (GNs.cons (by rfl) (by first | exact Or.inl rfl | exact Or.inr rfl) (by first | exact .inl rfl | exact .inr rfl) (GNs.cons (by rfl) (by first | exact Or.inl rfl | exact Or.inr rfl) (by first | exact .inl rfl | exact .inr rfl) GNs.nil)) (pn_cons (Ev.o (En.v (en_sub (Tl.Room.hu hr) (ev_var 0) ev_str))) (pn_cons (Ev.o (En.v (en_sub (Tl.Room.hu hr) (ev_var 1) ev_int))) pn_nil)))
      (ss_cons (sm_if (Tw.t (tw_or (ts_cmp (opT_eq (Tl.Room.hu hr)) (En.v (en_cmp (opT_in (Tl.Room.hu hr)) (ev_var 3) (ev_var 2) (by with_unfolding_all rfl))) (En.v (en_cmp (opT_eq (Tl.Room.hu hr)) (En.v (en_sub (Tl.Room.hu hr) (ev_var 1) ev_int)) ev_str (by with_unfolding_all rfl))) (by with_unfolding_all rfl)) (tw_or1 (Tw.t (tw_and (ts_cmp (opT_eq (Tl.Room.hu hr)) (En.v (en_sub (Tl.Room.hu hr) (ev_var 1) ev_int)) ev_str (by with_unfolding_all rfl)) (tw_and1 (ts_cmp (opT_eq (Tl.Room.hu hr)) (En.v (en_sub (Tl.Room.hu hr) (En.v (en_sub (Tl.Room.hu hr) (ev_var 2) (ev_var 3))) ev_int)) (En.v (en_sub (Tl.Room.hu hr) (ev_var 1) ev_int)) (by with_unfolding_all rfl)))))))) (ss_one (sm_ret (en_tup (ar_cons (ev_var 0) (ar_cons (En.v (en_tup (ar_cons ev_str ar_nil))) ar_nil))))) ss_nil)
      (ss_cons (sm_if (ts_cmp (opT_eq (Tl.Room.hu hr)) (En.v (en_sub (Tl.Room.hu hr) (ev_var 1) ev_int)) ev_str (by with_unfolding_all rfl)) (ss_cons (sm_set sc_acted.nd (by rfl) (by first | exact Or.inl rfl | exact Or.inr rfl) (En.v (en_call c_with_things hr (by decide) (by rfl) (am_v (ev_var 0) (am_v (En.v (en_dc (own := [("one", 5)]) rfl sc_acted.nd (ii_any (ev_var 2)) (blkOk_by (by rfl)) (fun s1 H1 C1 cl1 fp1 => (tg_nm sc_acted.nd (by rfl) (by first | exact Or.inl rfl | exact Or.inr rfl))) (fun s1 H1 C1 cl1 fp1 => (ptsT_one (ts_cmp (opT_ne (Tl.Room.hu hr)) (ev_var 5) (ev_var 3) (by with_unfolding_all rfl)))) (fun s1 H1 C1 cl1 fp1 => (ev_var 5)) (fun s1 H1 C1 cl1 fp1 => (En.v (en_sub (Tl.Room.hu hr) (ev_var 2) (ev_var 5)))))) am_nil)))))
      (ss_one (sm_ret (en_tup (ar_cons (ev_var 4) (ar_cons (En.v (en_tup (ar_cons ev_str (ar_cons (En.v (en_call c_spare_of hr (by decide) (by rfl) (am_v (ev_var 4) (am_v (En.v (en_sub (Tl.Room.hu hr) (En.v (en_sub (Tl.Room.hu hr) (ev_var 2) (ev_var 3))) ev_int)) am_nil)))) ar_nil)))) ar_nil)))))) ss_nil)
      (ss_cons (sm_par2 rfl sc_acted.nd (by rfl) (by rfl) (by decide) (by rfl) (by rfl) (pn_cons (Ev.o (En.v (en_if (ts_cmp (opT_eq (Tl.Room.hu hr)) (En.v (en_sub (Tl.Room.hu hr) (ev_var 1) ev_int)) ev_str (by with_unfolding_all rfl)) (en_sub (Tl.Room.hu hr) (ev_var 1) ev_int) (en_sub (Tl.Room.hu hr) (En.v (en_sub (Tl.Room.hu hr) (ev_var 2) (ev_var 3))) ev_int)))) (pn_cons (Ev.o (En.v (en_sub (Tl.Room.hu hr) (ev_var 1) (ev_neg ev_int)))) pn_nil)) (by rfl))
      (ss_cons (sm_set sc_acted.nd (by rfl) (by first | exact Or.inl rfl | exact Or.inr rfl) (En.v (en_call c_spare_of hr (by decide) (by rfl) (am_v (ev_var 0) (am_v (ev_var 7) am_nil)))))
      (ss_cons (sm_if (ts_cmp (opT_gt (Tl.Room.hu hr)) (ev_var 6) (ev_var 8) (by with_unfolding_all rfl)) (ss_one (sm_ret (en_tup (ar_cons (ev_var 0) (ar_cons (En.v (en_tup (ar_cons ev_str (ar_cons (ev_var 8) ar_nil)))) ar_nil))))) ss_nil)
      (ss_cons (sm_set sc_acted.nd (by rfl) (by first | exact Or.inl rfl | exact Or.inr rfl) (En.v (en_call c_with_things hr (by decide) (by rfl) (am_v (ev_var 0) (am_v (En.v (en_dispS (ev_var 2) (pps_cons (ev_var 3) (En.v (en_tup (ar_cons (ev_var 6) (ar_cons (ev_var 7) ar_nil)))) pps_nil) (tPs_cons tPs_nil))) am_nil)))))
      (ss_one (sm_ret (en_tup (ar_cons (ev_var 4) (ar_cons (En.v (en_tup (ar_cons ev_str (ar_cons (En.v (en_bin opT_sub (ev_var 8) (ev_var 6))) ar_nil)))) ar_nil)))))))))))))
/-! House_init -/
abbrev s_House_init : Stmt := (C8.clsBody (top 28)).getD 0 (.Pass ⟨0, 0, 0, 0⟩)
def N_House_init : List Str := ["self", "room"]
def p_House_init : List Str := ["self", "room"]
theorem sc_House_init : FnScope N_House_init p_House_init (C8.fnScope s_House_init) := C8.fnScope_by (by decide +kernel)
def f_House_init (cH : Addr) (g_check_room : Fm) : Fs :=
    sSeq (sEx (fCall g_check_room (fMv (fVar 1) (fM0)) []))
    (sSeq (sFldSet cH "row" 0 (fV (fLst (fA (fV (fTup (fA (fC .non) (fA (fV (fDisp (fDk (fC (.str "room")) (fVar 1) (fDk (fC (.str "open")) (fV (fLst (fA0))) (fDk (fC (.str "next")) (fC (.int 0)) (fDk (fC (.str "things")) (fV (fDct0 false)) (fD0))))))) (fA (fC .non) (fA0)))))) (fA0)))))
    (sFldSet cH "at" 0 (fC (.int 0))))
def m_House_init (cH : Addr) (g_check_room : Fm) : Fm := runP 2 (f_House_init cH g_check_room) 0
theorem ok_House_init {cH : Addr} {g_check_room : Fm} {a : Addr} {fd : FuncData} (F : C8.Fun K "__init__" "House.__init__" s_House_init a fd) (hb : NoMg mg blts) (hC : ClsI K cH) (n_at : NoAttr K cH "at") (n_row : NoAttr K cH "row") (c_check_room : Cal P w K mg base 3 "check_room" g_check_room []) : FnOk P w K mg base CX0 4 a fd p_House_init (spT K (m_House_init cH g_check_room)) :=
  def_okP F sc_House_init rfl fun cdv A outer s H E hr =>
    (ss_cons (sm_ex (en_call c_check_room hr (by decide) (by rfl) (am_v (ev_var 1) am_nil)))
      (ss_cons (sm_fld 0 hC.cl n_row (by rfl) (by first | exact Or.inl rfl | exact Or.inr (Or.inl rfl) | exact Or.inr (Or.inr rfl)) (En.v (en_lst (ar_cons (En.v (en_tup (ar_cons ev_non (ar_cons (En.v (en_disp (pps_cons ev_str (ev_var 1) (pps_cons ev_str (En.v (en_lst ar_nil)) (pps_cons ev_str ev_int (pps_cons ev_str (En.v en_dctK) pps_nil)))) (tPs_cons (tPs_cons (tPs_cons (tPs_cons tPs_nil)))))) (ar_cons ev_non ar_nil))))) ar_nil))))
      (ss_one (sm_fld 0 hC.cl n_at (by rfl) (by first | exact Or.inl rfl | exact Or.inr (Or.inl rfl) | exact Or.inr (Or.inr rfl)) ev_int))))
/-! House_state -/
abbrev s_House_state : Stmt := (C8.clsBody (top 28)).getD 1 (.Pass ⟨0, 0, 0, 0⟩)
def N_House_state : List Str := ["self"]
def p_House_state : List Str := ["self"]
theorem sc_House_state : FnScope N_House_state p_House_state (C8.fnScope s_House_state) := C8.fnScope_by (by decide +kernel)
def f_House_state (cH : Addr) : Fs :=
    sRet (fOp2 dIx (fV (fOp2 dIx (fFld cH "row" (fVar 0)) (fFld cH "at" (fVar 0)))) (fC (.int 1)))
def m_House_state (cH : Addr) : Fm := runP 1 (f_House_state cH) 0
theorem ok_House_state {cH : Addr} {a : Addr} {fd : FuncData} (F : C8.Fun K "state" "House.state" s_House_state a fd) (hb : NoMg mg blts) (hC : ClsI K cH) (n_at : NoAttr K cH "at") (n_row : NoAttr K cH "row") : FnOk P w K mg base CX0 1 a fd p_House_state (spT K (m_House_state cH)) :=
  def_okP F sc_House_state rfl fun cdv A outer s H E hr =>
    (ss_one (sm_ret (en_sub (Tl.Room.hu hr) (En.v (en_sub (Tl.Room.hu hr) (ev_fld hC.cl n_row (ev_var 0)) (ev_fld hC.cl n_at (ev_var 0)))) ev_int)))
/-! House_do -/
abbrev s_House_do : Stmt := (C8.clsBody (top 28)).getD 2 (.Pass ⟨0, 0, 0, 0⟩)
def N_House_do : List Str := ["self", "act", "late", "answer"]
def p_House_do : List Str := ["self", "act"]
theorem sc_House_do : FnScope N_House_do p_House_do (C8.fnScope s_House_do) := C8.fnScope_by (by decide +kernel)
def f_House_do (cH : Addr) (g_fits : Fm) (g_is_act : Fm) (g_acted : Fm) (g_copied : Fm) (g_m_state : Fm) : Fs :=
    sSeq (sIf (fTO (fTN (fT (fV (fCall g_is_act (fMv (fVar 1) (fM0)) [])))) (fTN (fT (fV (fCall g_fits (fMv (fV (fMeth cH "state" g_m_state (fVar 0) fM0 [])) (fMv (fVar 1) (fM0))) []))))) (sNever) (sNext))
    (sSeq (sUnp [2, 3] (fV (fCall g_acted (fMv (fV (fMeth cH "state" g_m_state (fVar 0) fM0 [])) (fMv (fVar 1) (fM0))) [])))
    (sSeq (sFldSet cH "row" 0 (fV (fOp2 dAdd (fV (fCut (fFld cH "row" (fVar 0)) (fPart0) (fPart (fV (fOp2 dAdd (fFld cH "at" (fVar 0)) (fC (.int 1))))))) (fV (fLst (fA (fV (fTup (fA (fVar 1) (fA (fVar 2) (fA (fVar 3) (fA0)))))) (fA0)))))))
    (sSeq (sFldSet cH "at" 0 (fV (fOp2 dAdd (fFld cH "at" (fVar 0)) (fC (.int 1)))))
    (sRet (fCall g_copied (fMv (fVar 3) (fM0)) [])))))
def m_House_do (cH : Addr) (g_fits : Fm) (g_is_act : Fm) (g_acted : Fm) (g_copied : Fm) (g_m_state : Fm) : Fm := runP 2 (f_House_do cH g_fits g_is_act g_acted g_copied g_m_state) 2
theorem ok_House_do {cH : Addr} {g_fits : Fm} {g_is_act : Fm} {g_acted : Fm} {g_copied : Fm} {g_m_state : Fm} {a : Addr} {fd : FuncData} (F : C8.Fun K "do" "House.do" s_House_do a fd) (hb : NoMg mg blts) (hC : ClsI K cH) (n_at : NoAttr K cH "at") (n_row : NoAttr K cH "row") (c_fits : Cal P w K mg base 1 "fits" g_fits []) (c_is_act : Cal P w K mg base 3 "is_act" g_is_act []) (c_acted : Cal P w K mg base 3 "acted" g_acted []) (c_copied : Cal P w K mg base 6 "copied" g_copied []) (c_m_state : Met P w K mg base 1 cH "state" g_m_state []) : FnOk P w K mg base CX0 7 a fd p_House_do (spT K (m_House_do cH g_fits g_is_act g_acted g_copied g_m_state)) :=
  def_okP F sc_House_do rfl fun cdv A outer s H E hr =>
    (ss_cons (sm_if (Tw.t (tw_or (ts_not (ts_val (En.v (en_call c_is_act hr (by decide) (by rfl) (am_v (ev_var 1) am_nil))))) (tw_or1 (ts_not (ts_val (En.v (en_call c_fits hr (by decide) (by rfl) (am_v (En.v (en_meth0 c_m_state hr (by decide) (ev_var 0))) (am_v (ev_var 1) am_nil))))))))) (ss_one sm_never) ss_nil)
      (ss_cons (sm_unp rfl sc_House_do.nd (GNs.cons (by rfl) (by first | exact Or.inl rfl | exact Or.inr rfl) (by first | exact .inl rfl | exact .inr rfl) (GNs.cons (by rfl) (by first | exact Or.inl rfl | exact Or.inr rfl) (by first | exact .inl rfl | exact .inr rfl) GNs.nil)) (En.v (en_call c_acted hr (by decide) (by rfl) (am_v (En.v (en_meth0 c_m_state hr (by decide) (ev_var 0))) (am_v (ev_var 1) am_nil)))))
      (ss_cons (sm_fld 0 hC.cl n_row (by rfl) (by first | exact Or.inl rfl | exact Or.inr (Or.inl rfl) | exact Or.inr (Or.inr rfl)) (En.v (en_bin opT_add (En.v (en_cut (ev_fld hC.cl n_row (ev_var 0)) pt0 (pt1 (En.v (en_bin opT_add (ev_fld hC.cl n_at (ev_var 0)) ev_int))))) (En.v (en_lst (ar_cons (En.v (en_tup (ar_cons (ev_var 1) (ar_cons (ev_var 2) (ar_cons (ev_var 3) ar_nil))))) ar_nil))))))
      (ss_cons (sm_fld 0 hC.cl n_at (by rfl) (by first | exact Or.inl rfl | exact Or.inr (Or.inl rfl) | exact Or.inr (Or.inr rfl)) (En.v (en_bin opT_add (ev_fld hC.cl n_at (ev_var 0)) ev_int)))
      (ss_one (sm_ret (en_call c_copied hr (by decide) (by rfl) (am_v (ev_var 3) am_nil))))))))
/-! House_room -/
abbrev s_House_room : Stmt := (C8.clsBody (top 28)).getD 7 (.Pass ⟨0, 0, 0, 0⟩)
def N_House_room : List Str := ["self"]
def p_House_room : List Str := ["self"]
theorem sc_House_room : FnScope N_House_room p_House_room (C8.fnScope s_House_room) := C8.fnScope_by (by decide +kernel)
def f_House_room (cH : Addr) (g_m_state : Fm) : Fs :=
    sRet (fOp2 dIx (fV (fMeth cH "state" g_m_state (fVar 0) fM0 [])) (fC (.str "room")))
def m_House_room (cH : Addr) (g_m_state : Fm) : Fm := runP 1 (f_House_room cH g_m_state) 0
theorem ok_House_room {cH : Addr} {g_m_state : Fm} {a : Addr} {fd : FuncData} (F : C8.Fun K "room" "House.room" s_House_room a fd) (hb : NoMg mg blts) (hC : ClsI K cH) (c_m_state : Met P w K mg base 1 cH "state" g_m_state []) : FnOk P w K mg base CX0 2 a fd p_House_room (spT K (m_House_room cH g_m_state)) :=
  def_okP F sc_House_room rfl fun cdv A outer s H E hr =>
    (ss_one (sm_ret (en_sub (Tl.Room.hu hr) (En.v (en_meth0 c_m_state hr (by decide) (ev_var 0))) ev_str)))
/-! House_boxes -/
abbrev s_House_boxes : Stmt := (C8.clsBody (top 28)).getD 8 (.Pass ⟨0, 0, 0, 0⟩)
def N_House_boxes : List Str := ["self", "state", "box"]
def p_House_boxes : List Str := ["self"]
theorem sc_House_boxes : FnScope N_House_boxes p_House_boxes (C8.fnScope s_House_boxes) := C8.fnScope_by (by decide +kernel)
def f_House_boxes (cH : Addr) (g_names_in : Fm) (g_m_state : Fm) : Fs :=
    sSeq (sSet 1 (fV (fMeth cH "state" g_m_state (fVar 0) fM0 [])))
    (sRet (fDc [2] (fiOf seqOf (fV (fOp2 dIx (fVar 1) (fC (.str "open"))))) (.nm 2) (fYes) (fVar 2) (fV (fCall g_names_in (fMv (fVar 1) (fMv (fVar 2) (fM0))) []))))
def m_House_boxes (cH : Addr) (g_names_in : Fm) (g_m_state : Fm) : Fm := runP 1 (f_House_boxes cH g_names_in g_m_state) 2
theorem ok_House_boxes {cH : Addr} {g_names_in : Fm} {g_m_state : Fm} {a : Addr} {fd : FuncData} (F : C8.Fun K "boxes" "House.boxes" s_House_boxes a fd) (hb : NoMg mg blts) (hC : ClsI K cH) (c_names_in : Cal P w K mg base 1 "names_in" g_names_in []) (c_m_state : Met P w K mg base 1 cH "state" g_m_state []) : FnOk P w K mg base CX0 2 a fd p_House_boxes (spT K (m_House_boxes cH g_names_in g_m_state)) :=
  def_okP F sc_House_boxes rfl fun cdv A outer s H E hr =>
    (ss_cons (sm_set sc_House_boxes.nd (by rfl) (by first | exact Or.inl rfl | exact Or.inr rfl) (En.v (en_meth0 c_m_state hr (by decide) (ev_var 0))))
      (ss_one (sm_ret (en_dc (own := [("box", 2)]) rfl sc_House_boxes.nd (ii_any (En.v (en_sub (Tl.Room.hu hr) (ev_var 1) ev_str))) (blkOk_by (by rfl)) (fun s1 H1 C1 cl1 fp1 => (tg_nm sc_House_boxes.nd (by rfl) (by first | exact Or.inl rfl | exact Or.inr rfl))) (fun s1 H1 C1 cl1 fp1 => ptsT_nil) (fun s1 H1 C1 cl1 fp1 => (ev_var 2)) (fun s1 H1 C1 cl1 fp1 => (En.v (en_call c_names_in hr (by decide) (by rfl) (am_v (ev_var 1) (am_v (ev_var 2) am_nil)))))))))
/-! House_things -/
abbrev s_House_things : Stmt := (C8.clsBody (top 28)).getD 9 (.Pass ⟨0, 0, 0, 0⟩)
def N_House_things : List Str := ["self"]
def p_House_things : List Str := ["self"]
theorem sc_House_things : FnScope N_House_things p_House_things (C8.fnScope s_House_things) := C8.fnScope_by (by decide +kernel)
def f_House_things (cH : Addr) (g_m_state : Fm) : Fs :=
    sRet (fBl gDict (fQ (fV (fOp2 dIx (fV (fMeth cH "state" g_m_state (fVar 0) fM0 [])) (fC (.str "things")))) (fQ0)))
def m_House_things (cH : Addr) (g_m_state : Fm) : Fm := runP 1 (f_House_things cH g_m_state) 0
theorem ok_House_things {cH : Addr} {g_m_state : Fm} {a : Addr} {fd : FuncData} (F : C8.Fun K "things" "House.things" s_House_things a fd) (hb : NoMg mg blts) (hC : ClsI K cH) (c_m_state : Met P w K mg base 1 cH "state" g_m_state []) : FnOk P w K mg base CX0 2 a fd p_House_things (spT K (m_House_things cH g_m_state)) :=
  def_okP F sc_House_things rfl fun cdv A outer s H E hr =>
    (ss_one (sm_ret (en_ty (bl_dict rfl) (by rfl) (hb "dict" (by decide)) boot_dict (ap_cons (En.v (en_sub (Tl.Room.hu hr) (En.v (en_meth0 c_m_state hr (by decide) (ev_var 0))) ev_str)) ap_nil))))
/-! House_spares -/
abbrev s_House_spares : Stmt := (C8.clsBody (top 28)).getD 10 (.Pass ⟨0, 0, 0, 0⟩)
def N_House_spares : List Str := ["self", "state", "box"]
def p_House_spares : List Str := ["self"]
theorem sc_House_spares : FnScope N_House_spares p_House_spares (C8.fnScope s_House_spares) := C8.fnScope_by (by decide +kernel)
def f_House_spares (cH : Addr) (g_spare_of : Fm) (g_m_state : Fm) : Fs :=
    sSeq (sSet 1 (fV (fMeth cH "state" g_m_state (fVar 0) fM0 [])))
    (sRet (fDc [2] (fiOf seqOf (fV (fOp2 dIx (fVar 1) (fC (.str "open"))))) (.nm 2) (fYes) (fVar 2) (fV (fCall g_spare_of (fMv (fVar 1) (fMv (fVar 2) (fM0))) []))))
def m_House_spares (cH : Addr) (g_spare_of : Fm) (g_m_state : Fm) : Fm := runP 1 (f_House_spares cH g_spare_of g_m_state) 2
theorem ok_House_spares {cH : Addr} {g_spare_of : Fm} {g_m_state : Fm} {a : Addr} {fd : FuncData} (F : C8.Fun K "spares" "House.spares" s_House_spares a fd) (hb : NoMg mg blts) (hC : ClsI K cH) (c_spare_of : Cal P w K mg base 1 "spare_of" g_spare_of []) (c_m_state : Met P w K mg base 1 cH "state" g_m_state []) : FnOk P w K mg base CX0 2 a fd p_House_spares (spT K (m_House_spares cH g_spare_of g_m_state)) :=
  def_okP F sc_House_spares rfl fun cdv A outer s H E hr =>
    (ss_cons (sm_set sc_House_spares.nd (by rfl) (by first | exact Or.inl rfl | exact Or.inr rfl) (En.v (en_meth0 c_m_state hr (by decide) (ev_var 0))))
      (ss_one (sm_ret (en_dc (own := [("box", 2)]) rfl sc_House_spares.nd (ii_any (En.v (en_sub (Tl.Room.hu hr) (ev_var 1) ev_str))) (blkOk_by (by rfl)) (fun s1 H1 C1 cl1 fp1 => (tg_nm sc_House_spares.nd (by rfl) (by first | exact Or.inl rfl | exact Or.inr rfl))) (fun s1 H1 C1 cl1 fp1 => ptsT_nil) (fun s1 H1 C1 cl1 fp1 => (ev_var 2)) (fun s1 H1 C1 cl1 fp1 => (En.v (en_call c_spare_of hr (by decide) (by rfl) (am_v (ev_var 1) (am_v (ev_var 2) am_nil)))))))))
/-! check_house -/
abbrev s_check_house : Stmt := top 29
def N_check_house : List Str := ["value"]
def p_check_house : List Str := ["value"]
theorem sc_check_house : FnScope N_check_house p_check_house (C8.fnScope s_check_house) := C8.fnScope_by (by decide +kernel)
def f_check_house (cH : Addr) : Fs :=
    sIf (fTN (fT (fIsiC cH (fVar 0)))) (sNever) (sNext)
def m_check_house (cH : Addr) : Fm := runP 1 (f_check_house cH) 0
theorem ok_check_house {cH : Addr} {a : Addr} {fd : FuncData} (F : C8.Fun K "check_house" "check_house" s_check_house a fd) (hb : NoMg mg blts) (hC : ClsI K cH) (h_cls : mg "House" = some (.ref cH)) : FnOk P w K mg base CX0 1 a fd p_check_house (spT K (m_check_house cH)) :=
  def_okP F sc_check_house rfl fun cdv A outer s H E hr =>
    (ss_one (sm_if (ts_not (ts_val (ev_isiC hC (by rfl) (hb "isinstance" (by decide)) (by rfl) h_cls (ev_var 0)))) (ss_one sm_never) ss_nil))
/-! check_size -/
abbrev s_check_size : Stmt := top 34
def N_check_size : List Str := ["house", "size"]
def p_check_size : List Str := ["house", "size"]
theorem sc_check_size : FnScope N_check_size p_check_size (C8.fnScope s_check_size) := C8.fnScope_by (by decide +kernel)
def f_check_size (g_check_house : Fm) (g_is_count : Fm) : Fs :=
    sSeq (sEx (fCall g_check_house (fMi (fVar 0) (fM0)) []))
    (sIf (fTN (fT (fV (fCall g_is_count (fMv (fVar 1) (fMv (fC (.int 1)) (fM0))) [])))) (sNever) (sNext))
def m_check_size (g_check_house : Fm) (g_is_count : Fm) : Fm := runP 2 (f_check_size g_check_house g_is_count) 0
theorem ok_check_size {g_check_house : Fm} {g_is_count : Fm} {a : Addr} {fd : FuncData} (F : C8.Fun K "check_size" "check_size" s_check_size a fd) (hb : NoMg mg blts) (c_check_house : Cal P w K mg base 1 "check_house" g_check_house []) (c_is_count : Cal P w K mg base 2 "is_count" g_is_count []) : FnOk P w K mg base CX0 3 a fd p_check_size (spT K (m_check_size g_check_house g_is_count)) :=
  def_okP F sc_check_size rfl fun cdv A outer s H E hr =>
    (ss_cons (sm_ex (en_call c_check_house hr (by decide) (by rfl) (am_i (ev_var 0) am_nil)))
      (ss_one (sm_if (ts_not (ts_val (En.v (en_call c_is_count hr (by decide) (by rfl) (am_v (ev_var 1) (am_v ev_int am_nil)))))) (ss_one sm_never) ss_nil)))
/-! fits_there -/
abbrev s_fits_there : Stmt := top 35
def N_fits_there : List Str := ["state", "size", "box"]
def p_fits_there : List Str := ["state", "size"]
theorem sc_fits_there : FnScope N_fits_there p_fits_there (C8.fnScope s_fits_there) := C8.fnScope_by (by decide +kernel)
def f_fits_there (g_spare_of : Fm) : Fs :=
    sRet (fLc [2] (fiOf seqOf (fV (fOp2 dIx (fVar 0) (fC (.str "open"))))) (.nm 2) (fT (fV (fOp2 dLe (fVar 1) (fV (fCall g_spare_of (fMv (fVar 0) (fMv (fVar 2) (fM0))) []))))) (fV (fTup (fA (fV (fCall g_spare_of (fMv (fVar 0) (fMv (fVar 2) (fM0))) [])) (fA (fVar 2) (fA0))))))
def m_fits_there (g_spare_of : Fm) : Fm := runP 2 (f_fits_there g_spare_of) 1
theorem ok_fits_there {g_spare_of : Fm} {a : Addr} {fd : FuncData} (F : C8.Fun K "fits_there" "fits_there" s_fits_there a fd) (hb : NoMg mg blts) (c_spare_of : Cal P w K mg base 1 "spare_of" g_spare_of []) : FnOk P w K mg base CX0 2 a fd p_fits_there (spT K (m_fits_there g_spare_of)) :=
  def_okP F sc_fits_there rfl fun cdv A outer s H E hr =>
    (ss_one (sm_ret (en_lc (own := [("box", 2)]) rfl sc_fits_there.nd (ii_any (En.v (en_sub (Tl.Room.hu hr) (ev_var 0) ev_str))) (blkOk_by (by rfl)) (fun s1 H1 C1 cl1 fp1 => (tg_nm sc_fits_there.nd (by rfl) (by first | exact Or.inl rfl | exact Or.inr rfl))) (fun s1 H1 C1 cl1 fp1 => (ptsT_one (ts_cmp (opT_le (Tl.Room.hu hr)) (ev_var 1) (En.v (en_call c_spare_of hr (by decide) (by rfl) (am_v (ev_var 0) (am_v (ev_var 2) am_nil)))) (by with_unfolding_all rfl)))) (fun s1 H1 C1 cl1 fp1 => (En.v (en_tup (ar_cons (En.v (en_call c_spare_of hr (by decide) (by rfl) (am_v (ev_var 0) (am_v (ev_var 2) am_nil)))) (ar_cons (ev_var 2) ar_nil))))))))
/-! which_fit -/
abbrev s_which_fit : Stmt := top 36
def N_which_fit : List Str := ["house", "size", "left", "box"]
def p_which_fit : List Str := ["house", "size"]
theorem sc_which_fit : FnScope N_which_fit p_which_fit (C8.fnScope s_which_fit) := C8.fnScope_by (by decide +kernel)
def f_which_fit (cH : Addr) (g_check_size : Fm) (g_fits_there : Fm) (g_m_state : Fm) : Fs :=
    sSeq (sEx (fCall g_check_size (fMi (fVar 0) (fMv (fVar 1) (fM0))) []))
    (sRet (fLc [2, 3] (fiOf seqOf (fV (fCall g_fits_there (fMv (fV (fMeth cH "state" g_m_state (fVar 0) fM0 [])) (fMv (fVar 1) (fM0))) []))) (.tp [2, 3]) (fYes) (fVar 3)))
def m_which_fit (cH : Addr) (g_check_size : Fm) (g_fits_there : Fm) (g_m_state : Fm) : Fm := runP 2 (f_which_fit cH g_check_size g_fits_there g_m_state) 2
theorem ok_which_fit {cH : Addr} {g_check_size : Fm} {g_fits_there : Fm} {g_m_state : Fm} {a : Addr} {fd : FuncData} (F : C8.Fun K "which_fit" "which_fit" s_which_fit a fd) (hb : NoMg mg blts) (hC : ClsI K cH) (c_check_size : Cal P w K mg base 3 "check_size" g_check_size []) (c_fits_there : Cal P w K mg base 2 "fits_there" g_fits_there []) (c_m_state : Met P w K mg base 1 cH "state" g_m_state []) : FnOk P w K mg base CX0 4 a fd p_which_fit (spT K (m_which_fit cH g_check_size g_fits_there g_m_state)) :=
  def_okP F sc_which_fit rfl fun cdv A outer s H E hr =>
    (ss_cons (sm_ex (en_call c_check_size hr (by decide) (by rfl) (am_i (ev_var 0) (am_v (ev_var 1) am_nil))))
      (ss_one (sm_ret (en_lc (own := [("left", 2), ("box", 3)]) rfl sc_which_fit.nd (ii_any (En.v (en_call c_fits_there hr (by decide) (by rfl) (am_v (En.v (en_meth0 c_m_state hr (by decide) (ev_var 0))) (am_v (ev_var 1) am_nil))))) (blkOk_by (by rfl)) (fun s1 H1 C1 cl1 fp1 => (tg_tp rfl sc_which_fit.nd (GNs.cons (by rfl) (by first | exact Or.inl rfl | exact Or.inr rfl) (by first | exact .inl rfl | exact .inr rfl) (GNs.cons (by rfl) (by first | exact Or.inl rfl | exact Or.inr rfl) (by first | exact .inl rfl | exact .inr rfl) GNs.nil)))) (fun s1 H1 C1 cl1 fp1 => ptsT_nil) (fun s1 H1 C1 cl1 fp1 => (ev_var 3))))))
/-! first_fit -/
abbrev s_first_fit : Stmt := top 37
def N_first_fit : List Str := ["house", "size", "found"]
def p_first_fit : List Str := ["house", "size"]
theorem sc_first_fit : FnScope N_first_fit p_first_fit (C8.fnScope s_first_fit) := C8.fnScope_by (by decide +kernel)
def f_first_fit (g_which_fit : Fm) : Fs :=
    sSeq (sSet 2 (fV (fCall g_which_fit (fMi (fVar 0) (fMv (fVar 1) (fM0))) [])))
    (sRet (fIfN (fT (fV (fOp2 dNe (fVar 2) (fV (fLst (fA0)))))) (fOp2 dIx (fVar 2) (fC (.int 0))) (fO (fC .non))))
def m_first_fit (g_which_fit : Fm) : Fm := runP 2 (f_first_fit g_which_fit) 1
theorem ok_first_fit {g_which_fit : Fm} {a : Addr} {fd : FuncData} (F : C8.Fun K "first_fit" "first_fit" s_first_fit a fd) (hb : NoMg mg blts) (c_which_fit : Cal P w K mg base 4 "which_fit" g_which_fit []) : FnOk P w K mg base CX0 5 a fd p_first_fit (spT K (m_first_fit g_which_fit)) :=
  def_okP F sc_first_fit rfl fun cdv A outer s H E hr =>
    (ss_cons (sm_set sc_first_fit.nd (by rfl) (by first | exact Or.inl rfl | exact Or.inr rfl) (En.v (en_call c_which_fit hr (by decide) (by rfl) (am_i (ev_var 0) (am_v (ev_var 1) am_nil)))))
      (ss_one (sm_ret (en_if (ts_cmp (opT_ne (Tl.Room.hu hr)) (ev_var 2) (En.v (en_lst ar_nil)) (by with_unfolding_all rfl)) (en_sub (Tl.Room.hu hr) (ev_var 2) ev_int) (Ev.o ev_non)))))
/-! best_fit -/
abbrev s_best_fit : Stmt := top 38
def N_best_fit : List Str := ["house", "size", "found"]
def p_best_fit : List Str := ["house", "size"]
theorem sc_best_fit : FnScope N_best_fit p_best_fit (C8.fnScope s_best_fit) := C8.fnScope_by (by decide +kernel)
def f_best_fit (cH : Addr) (g_check_size : Fm) (g_fits_there : Fm) (g_m_state : Fm) : Fs :=
    sSeq (sEx (fCall g_check_size (fMi (fVar 0) (fMv (fVar 1) (fM0))) []))
    (sSeq (sSet 2 (fV (fCall g_fits_there (fMv (fV (fMeth cH "state" g_m_state (fVar 0) fM0 [])) (fMv (fVar 1) (fM0))) [])))
    (sRet (fIfN (fT (fV (fOp2 dNe (fVar 2) (fV (fLst (fA0)))))) (fOp2 dIx (fV (fBl gMinP (fQ (fVar 2) (fQ0)))) (fC (.int 1))) (fO (fC .non)))))
def m_best_fit (cH : Addr) (g_check_size : Fm) (g_fits_there : Fm) (g_m_state : Fm) : Fm := runP 2 (f_best_fit cH g_check_size g_fits_there g_m_state) 1
theorem ok_best_fit {cH : Addr} {g_check_size : Fm} {g_fits_there : Fm} {g_m_state : Fm} {a : Addr} {fd : FuncData} (F : C8.Fun K "best_fit" "best_fit" s_best_fit a fd) (hb : NoMg mg blts) (hC : ClsI K cH) (c_check_size : Cal P w K mg base 3 "check_size" g_check_size []) (c_fits_there : Cal P w K mg base 2 "fits_there" g_fits_there []) (c_m_state : Met P w K mg base 1 cH "state" g_m_state []) : FnOk P w K mg base CX0 4 a fd p_best_fit (spT K (m_best_fit cH g_check_size g_fits_there g_m_state)) :=
  def_okP F sc_best_fit rfl fun cdv A outer s H E hr =>
    (ss_cons (sm_ex (en_call c_check_size hr (by decide) (by rfl) (am_i (ev_var 0) (am_v (ev_var 1) am_nil))))
      (ss_cons (sm_set sc_best_fit.nd (by rfl) (by first | exact Or.inl rfl | exact Or.inr rfl) (En.v (en_call c_fits_there hr (by decide) (by rfl) (am_v (En.v (en_meth0 c_m_state hr (by decide) (ev_var 0))) (am_v (ev_var 1) am_nil)))))
      (ss_one (sm_ret (en_if (ts_cmp (opT_ne (Tl.Room.hu hr)) (ev_var 2) (En.v (en_lst ar_nil)) (by with_unfolding_all rfl)) (en_sub (Tl.Room.hu hr) (En.v (en_bl (bl_minP rfl (Tl.Room.hu hr)) (by rfl) (hb "min" (by decide)) boot_min (ap_cons (ev_var 2) ap_nil))) ev_int) (Ev.o ev_non))))))
/-! widest_fit -/
abbrev s_widest_fit : Stmt := top 39
def N_widest_fit : List Str := ["house", "size", "found", "left", "box"]
def p_widest_fit : List Str := ["house", "size"]
theorem sc_widest_fit : FnScope N_widest_fit p_widest_fit (C8.fnScope s_widest_fit) := C8.fnScope_by (by decide +kernel)
def f_widest_fit (cH : Addr) (g_check_size : Fm) (g_fits_there : Fm) (g_m_state : Fm) : Fs :=
    sSeq (sEx (fCall g_check_size (fMi (fVar 0) (fMv (fVar 1) (fM0))) []))
    (sSeq (sSet 2 (fV (fLc [3, 4] (fiOf seqOf (fV (fCall g_fits_there (fMv (fV (fMeth cH "state" g_m_state (fVar 0) fM0 [])) (fMv (fVar 1) (fM0))) []))) (.tp [3, 4]) (fYes) (fV (fTup (fA (fV (fOp2 dSub (fC (.int 0)) (fVar 3))) (fA (fVar 4) (fA0))))))))
    (sRet (fIfN (fT (fV (fOp2 dNe (fVar 2) (fV (fLst (fA0)))))) (fOp2 dIx (fV (fBl gMinP (fQ (fVar 2) (fQ0)))) (fC (.int 1))) (fO (fC .non)))))
def m_widest_fit (cH : Addr) (g_check_size : Fm) (g_fits_there : Fm) (g_m_state : Fm) : Fm := runP 2 (f_widest_fit cH g_check_size g_fits_there g_m_state) 3
theorem ok_widest_fit {cH : Addr} {g_check_size : Fm} {g_fits_there : Fm} {g_m_state : Fm} {a : Addr} {fd : FuncData} (F : C8.Fun K "widest_fit" "widest_fit" s_widest_fit a fd) (hb : NoMg mg blts) (hC : ClsI K cH) (c_check_size : Cal P w K mg base 3 "check_size" g_check_size []) (c_fits_there : Cal P w K mg base 2 "fits_there" g_fits_there []) (c_m_state : Met P w K mg base 1 cH "state" g_m_state []) : FnOk P w K mg base CX0 4 a fd p_widest_fit (spT K (m_widest_fit cH g_check_size g_fits_there g_m_state)) :=
  def_okP F sc_widest_fit rfl fun cdv A outer s H E hr =>
    (ss_cons (sm_ex (en_call c_check_size hr (by decide) (by rfl) (am_i (ev_var 0) (am_v (ev_var 1) am_nil))))
      (ss_cons (sm_setLc (own := [("left", 3), ("box", 4)]) rfl sc_widest_fit.nd (by rfl) (by rfl) (by rfl) (ii_any (En.v (en_call c_fits_there hr (by decide) (by rfl) (am_v (En.v (en_meth0 c_m_state hr (by decide) (ev_var 0))) (am_v (ev_var 1) am_nil))))) (blkOk_by (by rfl)) (fun s1 H1 C1 cl1 fp1 => (tg_tp rfl sc_widest_fit.nd (GNs.cons (by rfl) (by first | exact Or.inl rfl | exact Or.inr rfl) (by first | exact .inl rfl | exact .inr rfl) (GNs.cons (by rfl) (by first | exact Or.inl rfl | exact Or.inr rfl) (by first | exact .inl rfl | exact .inr rfl) GNs.nil)))) (fun s1 H1 C1 cl1 fp1 => ptsT_nil) (fun s1 H1 C1 cl1 fp1 => (En.v (en_tup (ar_cons (En.v (en_bin opT_sub ev_int (ev_var 3))) (ar_cons (ev_var 4) ar_nil))))))
      (ss_one (sm_ret (en_if (ts_cmp (opT_ne (Tl.Room.hu hr)) (ev_var 2) (En.v (en_lst ar_nil)) (by with_unfolding_all rfl)) (en_sub (Tl.Room.hu hr) (En.v (en_bl (bl_minP rfl (Tl.Room.hu hr)) (by rfl) (hb "min" (by decide)) boot_min (ap_cons (ev_var 2) ap_nil))) ev_int) (Ev.o ev_non))))))
/-! is_packing_there -/
abbrev s_is_packing_there : Stmt := top 41
def N_is_packing_there : List Str := ["sizes", "room", "value", "lot", "things"]
def p_is_packing_there : List Str := ["sizes", "room", "value"]
theorem sc_is_packing_there : FnScope N_is_packing_there p_is_packing_there (C8.fnScope s_is_packing_there) := C8.fnScope_by (by decide +kernel)
def f_is_packing_there (g_is_lot_there : Fm) (g_size_there : Fm) : Fs :=
    sSeq (sIf (fTO (fTN (fT (fIsi "list" (fVar 2)))) (fTN (fT (fV (fBl gAll (fQ (fV (fLc [3] (fiOf seqOf (fVar 2)) (.nm 3) (fYes) (fAnd (fV (fCall g_is_lot_there (fMv (fVar 0) (fMv (fVar 3) (fM0))) [])) (fV (fOp2 dNe (fVar 3) (fV (fLst (fA0)))))))) (fQ0))))))) (sRet (fO (fC (.bl false)))) (sNext))
    (sSeq (sIf (fTO (fT (fV (fOp2 dNe (fV (fLc [3] (fiOf seqOf (fVar 2)) (.nm 3) (fT (fV (fOp2 dGt (fV (fCall g_size_there (fMv (fVar 0) (fMv (fVar 3) (fM0))) [])) (fVar 1)))) (fVar 3))) (fV (fLst (fA0)))))) (fT (fV (fOp2 dNe (fV (fBl gSorted (fQ (fVar 2) (fQ0)))) (fVar 2))))) (sRet (fO (fC (.bl false)))) (sNext))
    (sSeq (sSet 4 (fV (fLst (fA0))))
    (sSeq (sFor (.nm 3) (fiOf seqOf (fVar 2)) (sSet 4 (fV (fOp2 dAdd (fVar 4) (fVar 3)))))
    (sRet (fOp2 dEq (fV (fBl gSorted (fQ (fVar 4) (fQ0)))) (fV (fListRg (fV (fBl gLen (fQ (fVar 0) (fQ0)))))))))))
def m_is_packing_there (g_is_lot_there : Fm) (g_size_there : Fm) : Fm := runP 3 (f_is_packing_there g_is_lot_there g_size_there) 2
theorem ok_is_packing_there {g_is_lot_there : Fm} {g_size_there : Fm} {a : Addr} {fd : FuncData} (F : C8.Fun K "is_packing_there" "is_packing_there" s_is_packing_there a fd) (hb : NoMg mg blts) (c_is_lot_there : Cal P w K mg base 3 "is_lot_there" g_is_lot_there []) (c_size_there : Cal P w K mg base 1 "size_there" g_size_there []) : FnOk P w K mg base CX0 4 a fd p_is_packing_there (spT K (m_is_packing_there g_is_lot_there g_size_there)) :=
  def_okP F sc_is_packing_there rfl fun cdv A outer s H E hr =>
    (ss_cons (sm_if (Tw.t (tw_or (ts_not (ts_val (ev_isi kit_list (by rfl) (hb "isinstance" (by decide)) (by rfl) (hb "list" (by decide)) boot_list (ev_var 2)))) (tw_or1 (ts_not (ts_val (En.v (en_bl (bl_all rfl) (by rfl) (hb "all" (by decide)) boot_all (ap_cons (En.v (en_lc (own := [("lot", 3)]) rfl sc_is_packing_there.nd (ii_any (ev_var 2)) (blkOk_by (by rfl)) (fun s1 H1 C1 cl1 fp1 => (tg_nm sc_is_packing_there.nd (by rfl) (by first | exact Or.inl rfl | exact Or.inr rfl))) (fun s1 H1 C1 cl1 fp1 => ptsT_nil) (fun s1 H1 C1 cl1 fp1 => (ev_and (En.v (en_call c_is_lot_there hr (by decide) (by rfl) (am_v (ev_var 0) (am_v (ev_var 3) am_nil)))) (ev_one (En.v (en_cmp (opT_ne (Tl.Room.hu hr)) (ev_var 3) (En.v (en_lst ar_nil)) (by with_unfolding_all rfl)))))))) ap_nil)))))))) (ss_one (sm_ret (Ev.o ev_bl))) ss_nil)
      (ss_cons (sm_if (Tw.t (tw_or (ts_cmp (opT_ne (Tl.Room.hu hr)) (En.v (en_lc (own := [("lot", 3)]) rfl sc_is_packing_there.nd (ii_any (ev_var 2)) (blkOk_by (by rfl)) (fun s1 H1 C1 cl1 fp1 => (tg_nm sc_is_packing_there.nd (by rfl) (by first | exact Or.inl rfl | exact Or.inr rfl))) (fun s1 H1 C1 cl1 fp1 => (ptsT_one (ts_cmp (opT_gt (Tl.Room.hu hr)) (En.v (en_call c_size_there hr (by decide) (by rfl) (am_v (ev_var 0) (am_v (ev_var 3) am_nil)))) (ev_var 1) (by with_unfolding_all rfl)))) (fun s1 H1 C1 cl1 fp1 => (ev_var 3)))) (En.v (en_lst ar_nil)) (by with_unfolding_all rfl)) (tw_or1 (ts_cmp (opT_ne (Tl.Room.hu hr)) (En.v (en_bl (bl_sorted rfl (Tl.Room.hu hr)) (by rfl) (hb "sorted" (by decide)) boot_sorted (ap_cons (ev_var 2) ap_nil))) (ev_var 2) (by with_unfolding_all rfl))))) (ss_one (sm_ret (Ev.o ev_bl))) ss_nil)
      (ss_cons (sm_set sc_is_packing_there.nd (by rfl) (by first | exact Or.inl rfl | exact Or.inr rfl) (En.v (en_lst ar_nil)))
      (ss_cons (sm_for PassesOwn.never rfl (ii_any (ev_var 2)) (tg_nm sc_is_packing_there.nd (by rfl) (by first | exact Or.inl rfl | exact Or.inr rfl)) (ss_one (sm_set sc_is_packing_there.nd (by rfl) (by first | exact Or.inl rfl | exact Or.inr rfl) (En.v (en_bin opT_add (ev_var 4) (ev_var 3))))))
      (ss_one (sm_ret (en_cmp (opT_eq (Tl.Room.hu hr)) (En.v (en_bl (bl_sorted rfl (Tl.Room.hu hr)) (by rfl) (hb "sorted" (by decide)) boot_sorted (ap_cons (ev_var 4) ap_nil))) (En.v (en_listRg rfl (by rfl) (hb "list" (by decide)) (by rfl) (hb "range" (by decide)) (En.v (en_bl bl_len (by rfl) (hb "len" (by decide)) boot_len (ap_cons (ev_var 0) ap_nil))))) (by with_unfolding_all rfl))))))))
/-! check_things -/
abbrev s_check_things : Stmt := top 42
def N_check_things : List Str := ["sizes", "room"]
def p_check_things : List Str := ["sizes", "room"]
theorem sc_check_things : FnScope N_check_things p_check_things (C8.fnScope s_check_things) := C8.fnScope_by (by decide +kernel)
def f_check_things (g_check_sizes : Fm) (g_check_room : Fm) : Fs :=
    sSeq (sEx (fCall g_check_sizes (fMv (fVar 0) (fM0)) []))
    (sEx (fCall g_check_room (fMv (fVar 1) (fM0)) []))
def m_check_things (g_check_sizes : Fm) (g_check_room : Fm) : Fm := runP 2 (f_check_things g_check_sizes g_check_room) 0
theorem ok_check_things {g_check_sizes : Fm} {g_check_room : Fm} {a : Addr} {fd : FuncData} (F : C8.Fun K "check_things" "check_things" s_check_things a fd) (hb : NoMg mg blts) (c_check_sizes : Cal P w K mg base 4 "check_sizes" g_check_sizes []) (c_check_room : Cal P w K mg base 3 "check_room" g_check_room []) : FnOk P w K mg base CX0 5 a fd p_check_things (spT K (m_check_things g_check_sizes g_check_room)) :=
  def_okP F sc_check_things rfl fun cdv A outer s H E hr =>
    (ss_cons (sm_ex (en_call c_check_sizes hr (by decide) (by rfl) (am_v (ev_var 0) am_nil)))
      (ss_one (sm_ex (en_call c_check_room hr (by decide) (by rfl) (am_v (ev_var 1) am_nil)))))
/-! is_packing -/
abbrev s_is_packing : Stmt := top 43
def N_is_packing : List Str := ["sizes", "room", "value"]
def p_is_packing : List Str := ["sizes", "room", "value"]
theorem sc_is_packing : FnScope N_is_packing p_is_packing (C8.fnScope s_is_packing) := C8.fnScope_by (by decide +kernel)
def f_is_packing (g_check_things : Fm) (g_is_packing_there : Fm) : Fs :=
    sSeq (sEx (fCall g_check_things (fMv (fVar 0) (fMv (fVar 1) (fM0))) []))
    (sRet (fCall g_is_packing_there (fMv (fVar 0) (fMv (fVar 1) (fMv (fVar 2) (fM0)))) []))
def m_is_packing (g_check_things : Fm) (g_is_packing_there : Fm) : Fm := runP 3 (f_is_packing g_check_things g_is_packing_there) 0
theorem ok_is_packing {g_check_things : Fm} {g_is_packing_there : Fm} {a : Addr} {fd : FuncData} (F : C8.Fun K "is_packing" "is_packing" s_is_packing a fd) (hb : NoMg mg blts) (c_check_things : Cal P w K mg base 5 "check_things" g_check_things []) (c_is_packing_there : Cal P w K mg base 4 "is_packing_there" g_is_packing_there []) : FnOk P w K mg base CX0 6 a fd p_is_packing (spT K (m_is_packing g_check_things g_is_packing_there)) :=
  def_okP F sc_is_packing rfl fun cdv A outer s H E hr =>
    (ss_cons (sm_ex (en_call c_check_things hr (by decide) (by rfl) (am_v (ev_var 0) (am_v (ev_var 1) am_nil))))
      (ss_one (sm_ret (en_call c_is_packing_there hr (by decide) (by rfl) (am_v (ev_var 0) (am_v (ev_var 1) (am_v (ev_var 2) am_nil)))))))
/-! by_boxes -/
abbrev s_by_boxes : Stmt := top 44
def N_by_boxes : List Str := ["sizes", "room", "boxes", "lots", "thing", "box", "found", "lot"]
def p_by_boxes : List Str := ["sizes", "room", "boxes"]
theorem sc_by_boxes : FnScope N_by_boxes p_by_boxes (C8.fnScope s_by_boxes) := C8.fnScope_by (by decide +kernel)
def f_by_boxes (g_size_there : Fm) : Fs :=
    sSeq (sGrp 3 (.tp [4, 5]) (fiA gEnum (fA (fVar 2) (fA0))) (fVar 5) (fVar 4))
    (sSeq (sSet 6 (fV (fBl gSorted (fQ (fV (fLc [5] (fiOf seqOf (fVar 3)) (.nm 5) (fYes) (fV (fOp2 dIx (fVar 3) (fVar 5))))) (fQ0)))))
    (sRet (fO (fIf (fT (fV (fOp2 dNe (fV (fLc [7] (fiOf seqOf (fVar 6)) (.nm 7) (fT (fV (fOp2 dGt (fV (fCall g_size_there (fMv (fVar 0) (fMv (fVar 7) (fM0))) [])) (fVar 1)))) (fVar 7))) (fV (fLst (fA0)))))) (fC .non) (fVar 6)))))
def m_by_boxes (g_size_there : Fm) : Fm := runP 3 (f_by_boxes g_size_there) 5
theorem ok_by_boxes {g_size_there : Fm} {a : Addr} {fd : FuncData} (F : C8.Fun K "by_boxes" "by_boxes" s_by_boxes a fd) (hb : NoMg mg blts) (c_size_there : Cal P w K mg base 1 "size_there" g_size_there []) : FnOk P w K mg base CX0 2 a fd p_by_boxes (spT K (m_by_boxes g_size_there)) :=
  def_okP F sc_by_boxes rfl fun cdv A outer s H E hr =>
    (ss_grp (sm_grp1 sc_by_boxes.nd (by rfl) (by first | exact Or.inl rfl | exact Or.inr rfl)) PassesOwn.never rfl (ii_enum (by rfl) (hb "enumerate" (by decide)) (ar_cons (ev_var 2) ar_nil)) (tg_tp rfl sc_by_boxes.nd (GNs.cons (by rfl) (by first | exact Or.inl rfl | exact Or.inr rfl) (by first | exact .inl rfl | exact .inr rfl) (GNs.cons (by rfl) (by first | exact Or.inl rfl | exact Or.inr rfl) (by first | exact .inl rfl | exact .inr rfl) GNs.nil))) (sm_grpB (by rfl) (by first | exact Or.inl rfl | exact Or.inr (Or.inl rfl) | exact Or.inr (Or.inr rfl)) (ev_var 5) (ev_var 4) ⟨by rfl, by rfl, by rfl, by rfl⟩)
      (ss_cons (sm_set sc_by_boxes.nd (by rfl) (by first | exact Or.inl rfl | exact Or.inr rfl) (En.v (en_bl (bl_sorted rfl (Tl.Room.hu hr)) (by rfl) (hb "sorted" (by decide)) boot_sorted (ap_cons (En.v (en_lc (own := [("box", 5)]) rfl sc_by_boxes.nd (ii_any (ev_var 3)) (blkOk_by (by rfl)) (fun s1 H1 C1 cl1 fp1 => (tg_nm sc_by_boxes.nd (by rfl) (by first | exact Or.inl rfl | exact Or.inr rfl))) (fun s1 H1 C1 cl1 fp1 => ptsT_nil) (fun s1 H1 C1 cl1 fp1 => (En.v (en_sub (Tl.Room.hu hr) (ev_var 3) (ev_var 5)))))) ap_nil))))
      (ss_one (sm_ret (Ev.o (ev_if (ts_cmp (opT_ne (Tl.Room.hu hr)) (En.v (en_lc (own := [("lot", 7)]) rfl sc_by_boxes.nd (ii_any (ev_var 6)) (blkOk_by (by rfl)) (fun s1 H1 C1 cl1 fp1 => (tg_nm sc_by_boxes.nd (by rfl) (by first | exact Or.inl rfl | exact Or.inr rfl))) (fun s1 H1 C1 cl1 fp1 => (ptsT_one (ts_cmp (opT_gt (Tl.Room.hu hr)) (En.v (en_call c_size_there hr (by decide) (by rfl) (am_v (ev_var 0) (am_v (ev_var 7) am_nil)))) (ev_var 1) (by with_unfolding_all rfl)))) (fun s1 H1 C1 cl1 fp1 => (ev_var 7)))) (En.v (en_lst ar_nil)) (by with_unfolding_all rfl)) ev_non (ev_var 6)))))))
/-! check_rule -/
abbrev s_check_rule : Stmt := top 47
def N_check_rule : List Str := ["rule"]
def p_check_rule : List Str := ["rule"]
theorem sc_check_rule : FnScope N_check_rule p_check_rule (C8.fnScope s_check_rule) := C8.fnScope_by (by decide +kernel)
def f_check_rule : Fs :=
    sIf (fTO (fTN (fT (fIsi "str" (fVar 0)))) (fNIT ["next", "first", "best", "worst"] (fVar 0))) (sNever) (sNext)
def m_check_rule : Fm := runP 1 f_check_rule 0
theorem ok_check_rule {a : Addr} {fd : FuncData} (F : C8.Fun K "check_rule" "check_rule" s_check_rule a fd) (hb : NoMg mg blts) (z_RULES : StrL K mg "RULES" ["next", "first", "best", "worst"]) : FnOk P w K mg base CX0 1 a fd p_check_rule (spT K (m_check_rule)) :=
  Exists.elim z_RULES fun _ z_RULES => def_okP F sc_check_rule rfl fun cdv A outer s H E hr =>
    (ss_one (sm_if (Tw.t (tw_or (ts_not (ts_val (ev_isi kit_str (by rfl) (hb "isinstance" (by decide)) (by rfl) (hb "str" (by decide)) boot_str (ev_var 0)))) (tw_or1 (ts_notInG (Tl.Room.hu hr) (ev_var 0) (by rfl) z_RULES.1 z_RULES.2)))) (ss_one sm_never) ss_nil))
/-! check_held -/
abbrev s_check_held : Stmt := top 48
def N_check_held : List Str := ["sizes", "room"]
def p_check_held : List Str := ["sizes", "room"]
theorem sc_check_held : FnScope N_check_held p_check_held (C8.fnScope s_check_held) := C8.fnScope_by (by decide +kernel)
def f_check_held (g_check_sizes : Fm) (g_is_count_d : Fm) : Fs :=
    sSeq (sEx (fCall g_check_sizes (fMv (fVar 0) (fM0)) []))
    (sIf (fTO (fTN (fT (fV (fCall g_is_count_d (fMv (fVar 1) (fM0)) [.int 0])))) (fT (fV (fOp2 dGt (fV (fBl gMax (fQ (fV (fLst (fA (fC (.int 0)) (fAS (fVar 0) (fA0))))) (fQ0)))) (fVar 1))))) (sNever) (sNext))
def m_check_held (g_check_sizes : Fm) (g_is_count_d : Fm) : Fm := runP 2 (f_check_held g_check_sizes g_is_count_d) 0
theorem ok_check_held {g_check_sizes : Fm} {g_is_count_d : Fm} {a : Addr} {fd : FuncData} (F : C8.Fun K "check_held" "check_held" s_check_held a fd) (hb : NoMg mg blts) (c_check_sizes : Cal P w K mg base 4 "check_sizes" g_check_sizes []) (c_is_count_d : Cal P w K mg base 2 "is_count" g_is_count_d [.int 0]) : FnOk P w K mg base CX0 5 a fd p_check_held (spT K (m_check_held g_check_sizes g_is_count_d)) :=
  def_okP F sc_check_held rfl fun cdv A outer s H E hr =>
    (ss_cons (sm_ex (en_call c_check_sizes hr (by decide) (by rfl) (am_v (ev_var 0) am_nil)))
      (ss_one (sm_if (Tw.t (tw_or (ts_not (ts_val (En.v (en_call c_is_count_d hr (by decide) (by rfl) (am_v (ev_var 1) am_nil))))) (tw_or1 (ts_cmp (opT_gt (Tl.Room.hu hr)) (En.v (en_bl (bl_max rfl) (by rfl) (hb "max" (by decide)) boot_max (ap_cons (En.v (en_lst (ar_cons ev_int (ar_star (ev_var 0) ar_nil)))) ap_nil))) (ev_var 1) (by with_unfolding_all rfl))))) (ss_one sm_never) ss_nil)))
/-! box_there -/
abbrev s_box_there : Stmt := top 49
def N_box_there : List Str := ["rule", "size", "left", "spots", "at", "much"]
def p_box_there : List Str := ["rule", "size", "left"]
theorem sc_box_there : FnScope N_box_there p_box_there (C8.fnScope s_box_there) := C8.fnScope_by (by decide +kernel)
def f_box_there : Fs :=
    sSeq (sSet 3 (fV (fLc [4, 5] (fiA gEnum (fA (fVar 2) (fA0))) (.tp [4, 5]) (fT (fV (fOp2 dLe (fVar 1) (fVar 5)))) (fVar 4))))
    (sSeq (sIf (fT (fV (fOp2 dEq (fVar 0) (fC (.str "next"))))) (sRet (fIfN (fTA (fT (fV (fOp2 dNe (fVar 2) (fV (fLst (fA0)))))) (fT (fV (fOp2 dLe (fVar 1) (fV (fOp2 dIx (fVar 2) (fNeg (fC (.int 1))))))))) (fOp2 dSub (fV (fBl gLen (fQ (fVar 2) (fQ0)))) (fC (.int 1))) (fBl gLen (fQ (fVar 2) (fQ0))))) (sNext))
    (sSeq (sIf (fT (fV (fOp2 dEq (fVar 3) (fV (fLst (fA0)))))) (sRet (fBl gLen (fQ (fVar 2) (fQ0)))) (sNext))
    (sSeq (sIf (fT (fV (fOp2 dEq (fVar 0) (fC (.str "first"))))) (sRet (fOp2 dIx (fVar 3) (fC (.int 0)))) (sNext))
    (sSeq (sSet 5 (fV (fLc [4] (fiOf seqOf (fVar 3)) (.nm 4) (fYes) (fV (fOp2 dIx (fVar 2) (fVar 4))))))
    (sRet (fIndex (fVar 2) (fA (fV (fIfN (fT (fV (fOp2 dEq (fVar 0) (fC (.str "best"))))) (fBl gMin (fQ (fVar 5) (fQ0))) (fBl gMax (fQ (fVar 5) (fQ0))))) (fA0))))))))
def m_box_there : Fm := runP 3 f_box_there 3
theorem ok_box_there {a : Addr} {fd : FuncData} (F : C8.Fun K "box_there" "box_there" s_box_there a fd) (hb : NoMg mg blts) : FnOk P w K mg base CX0 1 a fd p_box_there (spT K (m_box_there)) :=
  def_okP F sc_box_there rfl fun cdv A outer s H E hr =>
    (ss_cons (sm_setLc (own := [("at", 4), ("much", 5)]) rfl sc_box_there.nd (by rfl) (by rfl) (by rfl) (ii_enum (by rfl) (hb "enumerate" (by decide)) (ar_cons (ev_var 2) ar_nil)) (blkOk_by (by rfl)) (fun s1 H1 C1 cl1 fp1 => (tg_tp rfl sc_box_there.nd (GNs.cons (by rfl) (by first | exact Or.inl rfl | exact Or.inr rfl) (by first | exact .inl rfl | exact .inr rfl) (GNs.cons (by rfl) (by first | exact Or.inl rfl | exact Or.inr rfl) (by first | exact .inl rfl | exact .inr rfl) GNs.nil)))) (fun s1 H1 C1 cl1 fp1 => (ptsT_one (ts_cmp (opT_le (Tl.Room.hu hr)) (ev_var 1) (ev_var 5) (by with_unfolding_all rfl)))) (fun s1 H1 C1 cl1 fp1 => (ev_var 4)))
      (ss_cons (sm_if (ts_cmp (opT_eq (Tl.Room.hu hr)) (ev_var 0) ev_str (by with_unfolding_all rfl)) (ss_one (sm_ret (en_if (Tw.t (tw_and (ts_cmp (opT_ne (Tl.Room.hu hr)) (ev_var 2) (En.v (en_lst ar_nil)) (by with_unfolding_all rfl)) (tw_and1 (ts_cmp (opT_le (Tl.Room.hu hr)) (ev_var 1) (En.v (en_sub (Tl.Room.hu hr) (ev_var 2) (ev_neg ev_int))) (by with_unfolding_all rfl))))) (en_bin opT_sub (En.v (en_bl bl_len (by rfl) (hb "len" (by decide)) boot_len (ap_cons (ev_var 2) ap_nil))) ev_int) (en_bl bl_len (by rfl) (hb "len" (by decide)) boot_len (ap_cons (ev_var 2) ap_nil))))) ss_nil)
      (ss_cons (sm_if (ts_cmp (opT_eq (Tl.Room.hu hr)) (ev_var 3) (En.v (en_lst ar_nil)) (by with_unfolding_all rfl)) (ss_one (sm_ret (en_bl bl_len (by rfl) (hb "len" (by decide)) boot_len (ap_cons (ev_var 2) ap_nil)))) ss_nil)
      (ss_cons (sm_if (ts_cmp (opT_eq (Tl.Room.hu hr)) (ev_var 0) ev_str (by with_unfolding_all rfl)) (ss_one (sm_ret (en_sub (Tl.Room.hu hr) (ev_var 3) ev_int))) ss_nil)
      (ss_cons (sm_setLc (own := [("at", 4)]) rfl sc_box_there.nd (by rfl) (by rfl) (by rfl) (ii_any (ev_var 3)) (blkOk_by (by rfl)) (fun s1 H1 C1 cl1 fp1 => (tg_nm sc_box_there.nd (by rfl) (by first | exact Or.inl rfl | exact Or.inr rfl))) (fun s1 H1 C1 cl1 fp1 => ptsT_nil) (fun s1 H1 C1 cl1 fp1 => (En.v (en_sub (Tl.Room.hu hr) (ev_var 2) (ev_var 4)))))
      (ss_one (sm_ret (en_index (ev_var 2) (ar_cons (En.v (en_if (ts_cmp (opT_eq (Tl.Room.hu hr)) (ev_var 0) ev_str (by with_unfolding_all rfl)) (en_bl (bl_min rfl) (by rfl) (hb "min" (by decide)) boot_min (ap_cons (ev_var 5) ap_nil)) (en_bl (bl_max rfl) (by rfl) (hb "max" (by decide)) boot_max (ap_cons (ev_var 5) ap_nil)))) ar_nil)))))))))
/-! boxes_there -/
abbrev s_boxes_there : Stmt := top 50
def N_boxes_there : List Str := ["rule", "sizes", "room", "order", "found", "left", "thing", "box"]
def p_boxes_there : List Str := ["rule", "sizes", "room", "order"]
theorem sc_boxes_there : FnScope N_boxes_there p_boxes_there (C8.fnScope s_boxes_there) := C8.fnScope_by (by decide +kernel)
def f_boxes_there (g_box_there : Fm) : Fs :=
    sSeq (sPar [4, 5] (fP (fOp2 dMul (fV (fLst (fA (fC (.int 0)) (fA0)))) (fV (fBl gLen (fQ (fVar 1) (fQ0))))) (fP (fLst (fA0)) (fP0))))
    (sSeq (sFor (.nm 6) (fiOf seqOf (fVar 3)) (sSeq (sSet 7 (fV (fCallL 5 g_box_there (fMv (fVar 0) (fMv (fV (fOp2 dIx (fVar 1) (fVar 6))) (fMi (fVar 5) (fM0)))) [])))
    (sSeq (sOwnIf 5 (fT (fV (fOp2 dEq (fVar 7) (fV (fBl gLen (fQ (fVar 5) (fQ0))))))) (fOp2 dAdd (fVar 5) (fV (fLst (fA (fVar 2) (fA0))))))
    (sSeq (sAugS 5 (fVar 7) dSub (fV (fOp2 dIx (fVar 1) (fVar 6))))
    (sSto 4 (fVar 6) (fVar 7))))))
    (sRet (fMove 4)))
def m_boxes_there (g_box_there : Fm) : Fm := runP 4 (f_boxes_there g_box_there) 4
theorem ok_boxes_there {g_box_there : Fm} {a : Addr} {fd : FuncData} (F : C8.Fun K "boxes_there" "boxes_there" s_boxes_there a fd) (hb : NoMg mg blts) (c_box_there : Cal P w K mg base 1 "box_there" g_box_there []) : FnOk P w K mg base CX0 2 a fd p_boxes_there (spT K (m_boxes_there g_box_there)) :=
  def_okP F sc_boxes_there rfl fun cdv A outer s H E hr =>
    (ss_cons (sm_par2 rfl sc_boxes_there.nd (by rfl) (by rfl) (by decide) (by rfl) (by rfl) (pn_cons (en_bin opT_mul (En.v (en_lst (ar_cons ev_int ar_nil))) (En.v (en_bl bl_len (by rfl) (hb "len" (by decide)) boot_len (ap_cons (ev_var 1) ap_nil)))) (pn_cons (en_lst ar_nil) pn_nil)) (by rfl))
      (ss_cons (sm_for PassesOwn.never rfl (ii_any (ev_var 3)) (tg_nm sc_boxes_there.nd (by rfl) (by first | exact Or.inl rfl | exact Or.inr rfl)) (ss_cons (sm_set sc_boxes_there.nd (by rfl) (by first | exact Or.inl rfl | exact Or.inr rfl) (En.v (en_callL 5 c_box_there hr (by decide) (by rfl) (am_v (ev_var 0) (am_v (En.v (en_sub (Tl.Room.hu hr) (ev_var 1) (ev_var 6))) (am_i (ev_var 5) am_nil))))))
      (ss_cons (sm_ownIf sc_boxes_there.nd (by rfl) (by first | exact Or.inl rfl | exact Or.inr rfl) (ts_cmp (opT_eq (Tl.Room.hu hr)) (ev_var 7) (En.v (en_bl bl_len (by rfl) (hb "len" (by decide)) boot_len (ap_cons (ev_var 5) ap_nil))) (by with_unfolding_all rfl)) (en_bin opT_add (ev_var 5) (En.v (en_lst (ar_cons (ev_var 2) ar_nil)))))
      (ss_cons (sm_augS (Tl.Room.hu hr) (i := 5) opT_isub (by rfl) (by first | exact Or.inl rfl | exact Or.inr (Or.inl rfl) | exact Or.inr (Or.inr rfl)) (ev_var 7) (En.v (en_sub (Tl.Room.hu hr) (ev_var 1) (ev_var 6))))
      (ss_one (sm_sto (Tl.Room.hu hr) (i := 4) (by rfl) (by first | exact Or.inl rfl | exact Or.inr (Or.inl rfl) | exact Or.inr (Or.inr rfl)) (ev_var 6) (ev_var 7)))))))
      (ss_one (sm_retMove 4))))
/-! plain_boxes -/
abbrev s_plain_boxes : Stmt := top 51
def N_plain_boxes : List Str := ["rule", "sizes", "room"]
def p_plain_boxes : List Str := ["rule", "sizes", "room"]
theorem sc_plain_boxes : FnScope N_plain_boxes p_plain_boxes (C8.fnScope s_plain_boxes) := C8.fnScope_by (by decide +kernel)
def f_plain_boxes (g_boxes_there : Fm) : Fs :=
    sRet (fCall g_boxes_there (fMv (fVar 0) (fMv (fVar 1) (fMv (fVar 2) (fMv (fV (fListRg (fV (fBl gLen (fQ (fVar 1) (fQ0)))))) (fM0))))) [])
def m_plain_boxes (g_boxes_there : Fm) : Fm := runP 3 (f_plain_boxes g_boxes_there) 0
theorem ok_plain_boxes {g_boxes_there : Fm} {a : Addr} {fd : FuncData} (F : C8.Fun K "plain_boxes" "plain_boxes" s_plain_boxes a fd) (hb : NoMg mg blts) (c_boxes_there : Cal P w K mg base 2 "boxes_there" g_boxes_there []) : FnOk P w K mg base CX0 3 a fd p_plain_boxes (spT K (m_plain_boxes g_boxes_there)) :=
  def_okP F sc_plain_boxes rfl fun cdv A outer s H E hr =>
    (ss_one (sm_ret (en_call c_boxes_there hr (by decide) (by rfl) (am_v (ev_var 0) (am_v (ev_var 1) (am_v (ev_var 2) (am_v (En.v (en_listRg rfl (by rfl) (hb "list" (by decide)) (by rfl) (hb "range" (by decide)) (En.v (en_bl bl_len (by rfl) (hb "len" (by decide)) boot_len (ap_cons (ev_var 1) ap_nil))))) am_nil)))))))
/-! check_all -/
abbrev s_check_all : Stmt := top 52
def N_check_all : List Str := ["rule", "sizes", "room"]
def p_check_all : List Str := ["rule", "sizes", "room"]
theorem sc_check_all : FnScope N_check_all p_check_all (C8.fnScope s_check_all) := C8.fnScope_by (by decide +kernel)
def f_check_all (g_check_rule : Fm) (g_check_held : Fm) : Fs :=
    sSeq (sEx (fCall g_check_rule (fMv (fVar 0) (fM0)) []))
    (sEx (fCall g_check_held (fMv (fVar 1) (fMv (fVar 2) (fM0))) []))
def m_check_all (g_check_rule : Fm) (g_check_held : Fm) : Fm := runP 3 (f_check_all g_check_rule g_check_held) 0
theorem ok_check_all {g_check_rule : Fm} {g_check_held : Fm} {a : Addr} {fd : FuncData} (F : C8.Fun K "check_all" "check_all" s_check_all a fd) (hb : NoMg mg blts) (c_check_rule : Cal P w K mg base 1 "check_rule" g_check_rule []) (c_check_held : Cal P w K mg base 5 "check_held" g_check_held []) : FnOk P w K mg base CX0 6 a fd p_check_all (spT K (m_check_all g_check_rule g_check_held)) :=
  def_okP F sc_check_all rfl fun cdv A outer s H E hr =>
    (ss_cons (sm_ex (en_call c_check_rule hr (by decide) (by rfl) (am_v (ev_var 0) am_nil)))
      (ss_one (sm_ex (en_call c_check_held hr (by decide) (by rfl) (am_v (ev_var 1) (am_v (ev_var 2) am_nil))))))
/-! boxes_by -/
abbrev s_boxes_by : Stmt := top 53
def N_boxes_by : List Str := ["rule", "sizes", "room"]
def p_boxes_by : List Str := ["rule", "sizes", "room"]
theorem sc_boxes_by : FnScope N_boxes_by p_boxes_by (C8.fnScope s_boxes_by) := C8.fnScope_by (by decide +kernel)
def f_boxes_by (g_check_all : Fm) (g_plain_boxes : Fm) : Fs :=
    sSeq (sEx (fCall g_check_all (fMv (fVar 0) (fMv (fVar 1) (fMv (fVar 2) (fM0)))) []))
    (sRet (fCall g_plain_boxes (fMv (fVar 0) (fMv (fVar 1) (fMv (fVar 2) (fM0)))) []))
def m_boxes_by (g_check_all : Fm) (g_plain_boxes : Fm) : Fm := runP 3 (f_boxes_by g_check_all g_plain_boxes) 0
theorem ok_boxes_by {g_check_all : Fm} {g_plain_boxes : Fm} {a : Addr} {fd : FuncData} (F : C8.Fun K "boxes_by" "boxes_by" s_boxes_by a fd) (hb : NoMg mg blts) (c_check_all : Cal P w K mg base 6 "check_all" g_check_all []) (c_plain_boxes : Cal P w K mg base 3 "plain_boxes" g_plain_boxes []) : FnOk P w K mg base CX0 7 a fd p_boxes_by (spT K (m_boxes_by g_check_all g_plain_boxes)) :=
  def_okP F sc_boxes_by rfl fun cdv A outer s H E hr =>
    (ss_cons (sm_ex (en_call c_check_all hr (by decide) (by rfl) (am_v (ev_var 0) (am_v (ev_var 1) (am_v (ev_var 2) am_nil)))))
      (ss_one (sm_ret (en_call c_plain_boxes hr (by decide) (by rfl) (am_v (ev_var 0) (am_v (ev_var 1) (am_v (ev_var 2) am_nil)))))))
/-! packed_by -/
abbrev s_packed_by : Stmt := top 54
def N_packed_by : List Str := ["rule", "sizes", "room"]
def p_packed_by : List Str := ["rule", "sizes", "room"]
theorem sc_packed_by : FnScope N_packed_by p_packed_by (C8.fnScope s_packed_by) := C8.fnScope_by (by decide +kernel)
def f_packed_by (g_check_all : Fm) (g_by_boxes : Fm) (g_plain_boxes : Fm) : Fs :=
    sSeq (sEx (fCall g_check_all (fMv (fVar 0) (fMv (fVar 1) (fMv (fVar 2) (fM0)))) []))
    (sRet (fCall g_by_boxes (fMv (fVar 1) (fMv (fVar 2) (fMv (fV (fCall g_plain_boxes (fMv (fVar 0) (fMv (fVar 1) (fMv (fVar 2) (fM0)))) [])) (fM0)))) []))
def m_packed_by (g_check_all : Fm) (g_by_boxes : Fm) (g_plain_boxes : Fm) : Fm := runP 3 (f_packed_by g_check_all g_by_boxes g_plain_boxes) 0
theorem ok_packed_by {g_check_all : Fm} {g_by_boxes : Fm} {g_plain_boxes : Fm} {a : Addr} {fd : FuncData} (F : C8.Fun K "packed_by" "packed_by" s_packed_by a fd) (hb : NoMg mg blts) (c_check_all : Cal P w K mg base 6 "check_all" g_check_all []) (c_by_boxes : Cal P w K mg base 2 "by_boxes" g_by_boxes []) (c_plain_boxes : Cal P w K mg base 3 "plain_boxes" g_plain_boxes []) : FnOk P w K mg base CX0 7 a fd p_packed_by (spT K (m_packed_by g_check_all g_by_boxes g_plain_boxes)) :=
  def_okP F sc_packed_by rfl fun cdv A outer s H E hr =>
    (ss_cons (sm_ex (en_call c_check_all hr (by decide) (by rfl) (am_v (ev_var 0) (am_v (ev_var 1) (am_v (ev_var 2) am_nil)))))
      (ss_one (sm_ret (en_call c_by_boxes hr (by decide) (by rfl) (am_v (ev_var 1) (am_v (ev_var 2) (am_v (En.v (en_call c_plain_boxes hr (by decide) (by rfl) (am_v (ev_var 0) (am_v (ev_var 1) (am_v (ev_var 2) am_nil))))) am_nil)))))))
/-! _law_purse -/
abbrev s__law_purse : Stmt := top 56
def N__law_purse : List Str := ["script", "at", "seed"]
def p__law_purse : List Str := ["script", "at"]
theorem sc__law_purse : FnScope N__law_purse p__law_purse (C8.fnScope s__law_purse) := C8.fnScope_by (by decide +kernel)
def f__law_purse : Fs :=
    sSeq (sSet 2 (fV (fBl gSum (fQ (fV (fCut (fVar 0) (fPart (fVar 1)) (fPart (fV (fOp2 dAdd (fVar 1) (fC (.int 1))))))) (fQ0)))))
    (sRet (fLst (fA (fV (fOp2 dMod (fV (fBl gInt (fQ (fV (fBl gMax (fQ (fV (fOp2 dSub (fVar 2) (fV (fOp2 dPow (fC (.int 10)) (fC (.int 18)))))) (fQ (fC (.int 0)) (fQ0))))) (fQ0)))) (fV (fOp2 dPow (fV (fOp2 dPow (fC (.int 10)) (fC (.int 60)))) (fC (.int 8)))))) (fA (fV (fOp2 dMod (fV (fBl gInt (fQ (fVar 2) (fQ0)))) (fC (.int 2147483629)))) (fA (fC (.int 0)) (fA (fVar 1) (fA0)))))))
def m__law_purse : Fm := runP 2 f__law_purse 1
theorem ok__law_purse {a : Addr} {fd : FuncData} (F : C8.Fun K "_law_purse" "_law_purse" s__law_purse a fd) (hb : NoMg mg blts) : FnOk P w K mg base CX0 1 a fd p__law_purse (spT K (m__law_purse)) :=
  def_okP F sc__law_purse rfl fun cdv A outer s H E hr =>
    (ss_cons (sm_set sc__law_purse.nd (by rfl) (by first | exact Or.inl rfl | exact Or.inr rfl) (En.v (en_bl (bl_sum rfl) (by rfl) (hb "sum" (by decide)) boot_sum (ap_cons (En.v (en_cut (ev_var 0) (pt1 (ev_var 1)) (pt1 (En.v (en_bin opT_add (ev_var 1) ev_int))))) ap_nil))))
      (ss_one (sm_ret (en_lst (ar_cons (En.v (en_bin opT_mod (En.v (en_ty bl_int (by rfl) (hb "int" (by decide)) boot_int (ap_cons (En.v (en_bl (bl_max rfl) (by rfl) (hb "max" (by decide)) boot_max (ap_cons (En.v (en_bin opT_sub (ev_var 2) (En.v (en_bin opT_pow ev_int ev_int)))) (ap_cons ev_int ap_nil)))) ap_nil))) (En.v (en_bin opT_pow (En.v (en_bin opT_pow ev_int ev_int)) ev_int)))) (ar_cons (En.v (en_bin opT_mod (En.v (en_ty bl_int (by rfl) (hb "int" (by decide)) boot_int (ap_cons (ev_var 2) ap_nil))) ev_int)) (ar_cons ev_int (ar_cons (ev_var 1) ar_nil))))))))
/-! _law_mixed -/
abbrev s__law_mixed : Stmt := top 57
def N__law_mixed : List Str := ["seed", "spin", "at", "mixed"]
def p__law_mixed : List Str := ["seed", "spin", "at"]
theorem sc__law_mixed : FnScope N__law_mixed p__law_mixed (C8.fnScope s__law_mixed) := C8.fnScope_by (by decide +kernel)
def f__law_mixed : Fs :=
    sSeq (sSet 3 (fV (fOp2 dAdd (fV (fOp2 dMul (fVar 0) (fC (.int 69069)))) (fV (fOp2 dMul (fV (fOp2 dMul (fC (.int 104729)) (fVar 1))) (fVar 1))))))
    (sSeq (sSet 3 (fV (fOp2 dMod (fV (fBl gInt (fQ (fV (fOp2 dAdd (fV (fOp2 dAdd (fVar 3) (fV (fOp2 dMul (fC (.int 7919)) (fVar 2))))) (fVar 1))) (fQ0)))) (fC (.int 2147483647)))))
    (sSeq (sSet 3 (fV (fOp2 dMod (fV (fBl gInt (fQ (fV (fOp2 dAdd (fV (fOp2 dMul (fVar 3) (fVar 3))) (fC (.int 40503)))) (fQ0)))) (fC (.int 2147483629)))))
    (sRet (fOp2 dMod (fV (fBl gInt (fQ (fV (fOp2 dMul (fVar 3) (fC (.int 48271)))) (fQ0)))) (fC (.int 2147483587))))))
def m__law_mixed : Fm := runP 3 f__law_mixed 1
theorem ok__law_mixed {a : Addr} {fd : FuncData} (F : C8.Fun K "_law_mixed" "_law_mixed" s__law_mixed a fd) (hb : NoMg mg blts) : FnOk P w K mg base CX0 1 a fd p__law_mixed (spT K (m__law_mixed)) :=
  def_okP F sc__law_mixed rfl fun cdv A outer s H E hr =>
    (ss_cons (sm_set sc__law_mixed.nd (by rfl) (by first | exact Or.inl rfl | exact Or.inr rfl) (En.v (en_bin opT_add (En.v (en_bin opT_mul (ev_var 0) ev_int)) (En.v (en_bin opT_mul (En.v (en_bin opT_mul ev_int (ev_var 1))) (ev_var 1))))))
      (ss_cons (sm_set sc__law_mixed.nd (by rfl) (by first | exact Or.inl rfl | exact Or.inr rfl) (En.v (en_bin opT_mod (En.v (en_ty bl_int (by rfl) (hb "int" (by decide)) boot_int (ap_cons (En.v (en_bin opT_add (En.v (en_bin opT_add (ev_var 3) (En.v (en_bin opT_mul ev_int (ev_var 2))))) (ev_var 1))) ap_nil))) ev_int)))
      (ss_cons (sm_set sc__law_mixed.nd (by rfl) (by first | exact Or.inl rfl | exact Or.inr rfl) (En.v (en_bin opT_mod (En.v (en_ty bl_int (by rfl) (hb "int" (by decide)) boot_int (ap_cons (En.v (en_bin opT_add (En.v (en_bin opT_mul (ev_var 3) (ev_var 3))) ev_int)) ap_nil))) ev_int)))
      (ss_one (sm_ret (en_bin opT_mod (En.v (en_ty bl_int (by rfl) (hb "int" (by decide)) boot_int (ap_cons (En.v (en_bin opT_mul (ev_var 3) ev_int)) ap_nil))) ev_int))))))
/-! _law_draw -/
abbrev s__law_draw : Stmt := top 58
def N__law_draw : List Str := ["purse", "many", "drawn", "found", "piece"]
def p__law_draw : List Str := ["purse", "many"]
theorem sc__law_draw : FnScope N__law_draw p__law_draw (C8.fnScope s__law_draw) := C8.fnScope_by (by decide +kernel)
def f__law_draw (g__law_mixed : Fm) : Fs :=
    sSeq (sIf (fT (fV (fOp2 dGt (fV (fOp2 dIx (fVar 0) (fC (.int 0)))) (fC (.int 0))))) (sSeq (sSet 2 (fV (fOp2 dMod (fV (fBl gInt (fQ (fV (fOp2 dIx (fVar 0) (fC (.int 0)))) (fQ0)))) (fVar 1))))
    (sSeq (sSto 0 (fC (.int 0)) (fV (fOp2 dDiv (fV (fOp2 dIx (fVar 0) (fC (.int 0)))) (fVar 1))))
    (sRet (fO (fVar 2))))) (sNext))
    (sSeq (sSet 3 (fC (.int 0)))
    (sSeq (sFor (.nm 4) (fiA gRng1 (fA (fV (fOp2 dAdd (fC (.int 1)) (fV (fOp2 dDiv (fV (fBits (fVar 1))) (fC (.int 28)))))) (fA0))) (sSeq (sSto 0 (fC (.int 2)) (fV (fOp2 dAdd (fV (fOp2 dIx (fVar 0) (fC (.int 2)))) (fC (.int 1)))))
    (sSet 3 (fV (fOp2 dAdd (fV (fOp2 dMul (fVar 3) (fC (.int 2147483587)))) (fV (fCall g__law_mixed (fMv (fV (fOp2 dIx (fVar 0) (fC (.int 1)))) (fMv (fV (fOp2 dIx (fVar 0) (fC (.int 2)))) (fMv (fV (fOp2 dIx (fVar 0) (fC (.int 3)))) (fM0)))) [])))))))
    (sRet (fOp2 dMod (fV (fBl gInt (fQ (fVar 3) (fQ0)))) (fVar 1)))))
def m__law_draw (g__law_mixed : Fm) : Fm := runP 2 (f__law_draw g__law_mixed) 3
theorem ok__law_draw {g__law_mixed : Fm} {a : Addr} {fd : FuncData} (F : C8.Fun K "_law_draw" "_law_draw" s__law_draw a fd) (hb : NoMg mg blts) (c__law_mixed : Cal P w K mg base 1 "_law_mixed" g__law_mixed []) : FnOk P w K mg base CX0 2 a fd p__law_draw (spT K (m__law_draw g__law_mixed)) :=
  def_okP F sc__law_draw rfl fun cdv A outer s H E hr =>
    (ss_cons (sm_if (ts_cmp (opT_gt (Tl.Room.hu hr)) (En.v (en_sub (Tl.Room.hu hr) (ev_var 0) ev_int)) ev_int (by with_unfolding_all rfl)) (ss_cons (sm_set sc__law_draw.nd (by rfl) (by first | exact Or.inl rfl | exact Or.inr rfl) (En.v (en_bin opT_mod (En.v (en_ty bl_int (by rfl) (hb "int" (by decide)) boot_int (ap_cons (En.v (en_sub (Tl.Room.hu hr) (ev_var 0) ev_int)) ap_nil))) (ev_var 1))))
      (ss_cons (sm_sto (Tl.Room.hu hr) (i := 0) (by rfl) (by first | exact Or.inl rfl | exact Or.inr (Or.inl rfl) | exact Or.inr (Or.inr rfl)) ev_int (En.v (en_bin opT_div (En.v (en_sub (Tl.Room.hu hr) (ev_var 0) ev_int)) (ev_var 1))))
      (ss_one (sm_ret (Ev.o (ev_var 2)))))) ss_nil)
      (ss_cons (sm_set sc__law_draw.nd (by rfl) (by first | exact Or.inl rfl | exact Or.inr rfl) ev_int)
      (ss_cons (sm_for PassesOwn.never rfl (ii_range1 (by rfl) (hb "range" (by decide)) (ar_cons (En.v (en_bin opT_add ev_int (En.v (en_bin opT_div (En.v (en_bits (ev_var 1))) ev_int)))) ar_nil)) (tg_nm sc__law_draw.nd (by rfl) (by first | exact Or.inl rfl | exact Or.inr rfl)) (ss_cons (sm_sto (Tl.Room.hu hr) (i := 0) (by rfl) (by first | exact Or.inl rfl | exact Or.inr (Or.inl rfl) | exact Or.inr (Or.inr rfl)) ev_int (En.v (en_bin opT_add (En.v (en_sub (Tl.Room.hu hr) (ev_var 0) ev_int)) ev_int)))
      (ss_one (sm_set sc__law_draw.nd (by rfl) (by first | exact Or.inl rfl | exact Or.inr rfl) (En.v (en_bin opT_add (En.v (en_bin opT_mul (ev_var 3) ev_int)) (En.v (en_call c__law_mixed hr (by decide) (by rfl) (am_v (En.v (en_sub (Tl.Room.hu hr) (ev_var 0) ev_int)) (am_v (En.v (en_sub (Tl.Room.hu hr) (ev_var 0) ev_int)) (am_v (En.v (en_sub (Tl.Room.hu hr) (ev_var 0) ev_int)) am_nil)))))))))))
      (ss_one (sm_ret (en_bin opT_mod (En.v (en_ty bl_int (by rfl) (hb "int" (by decide)) boot_int (ap_cons (ev_var 3) ap_nil))) (ev_var 1)))))))
/-! _law_same -/
abbrev s__law_same : Stmt := top 59
def N__law_same : List Str := ["told", "due", "is_like", "key", "one", "other"]
def p__law_same : List Str := ["told", "due"]
theorem sc__law_same : FnScope N__law_same p__law_same (C8.fnScope s__law_same) := C8.fnScope_by (by decide +kernel)
def f__law_same (g__law_same : Fm) : Fs :=
    sSeq (sIf (fT (fIsi "dict" (fVar 1))) (sSeq (sSet 2 (fAnd (fIsi "dict" (fVar 0)) (fAnd (fV (fOp2 dEq (fV (fBl gLen (fQ (fVar 0) (fQ0)))) (fV (fBl gLen (fQ (fVar 1) (fQ0)))))) (fV (fBl gAll (fQ (fV (fLc [3] (fiOf seqOf (fVar 1)) (.nm 3) (fYes) (fV (fOp2 dIn (fVar 3) (fVar 0))))) (fQ0)))))))
    (sRet (fO (fAnd (fVar 2) (fV (fBl gAll (fQ (fV (fLc [3] (fiOf seqOf (fVar 1)) (.nm 3) (fYes) (fV (fCall g__law_same (fMv (fV (fOp2 dIx (fVar 0) (fVar 3))) (fMv (fV (fOp2 dIx (fVar 1) (fVar 3))) (fM0))) [])))) (fQ0)))))))) (sNext))
    (sSeq (sIf (fT (fIsi2 ["list", "tuple"] (fVar 1))) (sSeq (sSet 2 (fAnd (fV (fOp2 dEq (fIsi "list" (fVar 0)) (fIsi "list" (fVar 1)))) (fV (fOp2 dEq (fIsi "tuple" (fVar 0)) (fIsi "tuple" (fVar 1))))))
    (sRet (fO (fAnd (fVar 2) (fAnd (fV (fOp2 dEq (fV (fBl gLen (fQ (fVar 0) (fQ0)))) (fV (fBl gLen (fQ (fVar 1) (fQ0)))))) (fV (fBl gAll (fQ (fV (fLc [4, 5] (fiA gZip (fA (fVar 0) (fA (fVar 1) (fA0)))) (.tp [4, 5]) (fYes) (fV (fCall g__law_same (fMv (fVar 4) (fMv (fVar 5) (fM0))) [])))) (fQ0))))))))) (sNext))
    (sSeq (sSet 2 (fAnd (fNot (fIsi2 ["list", "tuple", "dict"] (fVar 0))) (fAnd (fV (fOp2 dEq (fIsi "int" (fVar 0)) (fIsi "int" (fVar 1)))) (fV (fOp2 dEq (fIsi "str" (fVar 0)) (fIsi "str" (fVar 1)))))))
    (sRet (fO (fAnd (fVar 2) (fAnd (fV (fOp2 dEq (fV (fOp2 dIs (fVar 0) (fC .non))) (fV (fOp2 dIs (fVar 1) (fC .non))))) (fAnd (fV (fOp2 dEq (fIsi "bool" (fVar 0)) (fIsi "bool" (fVar 1)))) (fV (fOp2 dEq (fVar 0) (fVar 1))))))))))
def m__law_same (g__law_same : Fm) : Fm := runP 2 (f__law_same g__law_same) 4
theorem ok__law_same {g__law_same : Fm} {a : Addr} {fd : FuncData} {k : Nat} (F : C8.Fun K "_law_same" "_law_same" s__law_same a fd) (hb : NoMg mg blts) (c__law_same : Cal P w K mg base k "_law_same" g__law_same []) : FnOk P w K mg base CX0 (k + 1) a fd p__law_same (spT K (m__law_same g__law_same)) :=
  def_okP F sc__law_same rfl fun cdv A outer s H E hr =>
    (ss_cons (sm_if (ts_val (ev_isi kit_dict (by rfl) (hb "isinstance" (by decide)) (by rfl) (hb "dict" (by decide)) boot_dict (ev_var 1))) (ss_cons (sm_set sc__law_same.nd (by rfl) (by first | exact Or.inl rfl | exact Or.inr rfl) (ev_and (ev_isi kit_dict (by rfl) (hb "isinstance" (by decide)) (by rfl) (hb "dict" (by decide)) boot_dict (ev_var 0)) (ev_and (En.v (en_cmp (opT_eq (Tl.Room.hu hr)) (En.v (en_bl bl_len (by rfl) (hb "len" (by decide)) boot_len (ap_cons (ev_var 0) ap_nil))) (En.v (en_bl bl_len (by rfl) (hb "len" (by decide)) boot_len (ap_cons (ev_var 1) ap_nil))) (by with_unfolding_all rfl))) (ev_one (En.v (en_bl (bl_all rfl) (by rfl) (hb "all" (by decide)) boot_all (ap_cons (En.v (en_lc (own := [("key", 3)]) rfl sc__law_same.nd (ii_any (ev_var 1)) (blkOk_by (by rfl)) (fun s1 H1 C1 cl1 fp1 => (tg_nm sc__law_same.nd (by rfl) (by first | exact Or.inl rfl | exact Or.inr rfl))) (fun s1 H1 C1 cl1 fp1 => ptsT_nil) (fun s1 H1 C1 cl1 fp1 => (En.v (en_cmp (opT_in (Tl.Room.hu hr)) (ev_var 3) (ev_var 0) (by with_unfolding_all rfl)))))) ap_nil)))))))
      (ss_one (sm_ret (Ev.o (ev_and (ev_var 2) (ev_one (En.v (en_bl (bl_all rfl) (by rfl) (hb "all" (by decide)) boot_all (ap_cons (En.v (en_lc (own := [("key", 3)]) rfl sc__law_same.nd (ii_any (ev_var 1)) (blkOk_by (by rfl)) (fun s1 H1 C1 cl1 fp1 => (tg_nm sc__law_same.nd (by rfl) (by first | exact Or.inl rfl | exact Or.inr rfl))) (fun s1 H1 C1 cl1 fp1 => ptsT_nil) (fun s1 H1 C1 cl1 fp1 => (En.v (en_call c__law_same hr (by omega) (by rfl) (am_v (En.v (en_sub (Tl.Room.hu hr) (ev_var 0) (ev_var 3))) (am_v (En.v (en_sub (Tl.Room.hu hr) (ev_var 1) (ev_var 3))) am_nil))))))) ap_nil))))))))) ss_nil)
      (ss_cons (sm_if (ts_val (ev_isiT (by rfl) (hb "isinstance" (by decide)) (Tys.cons kit_list (by rfl) (hb "list" (by decide)) boot_list (by decide) (by decide) (by rfl) (Tys.cons kit_tuple (by rfl) (hb "tuple" (by decide)) boot_tuple (by decide) (by decide) (by rfl) Tys.nil)) (ev_var 1))) (ss_cons (sm_set sc__law_same.nd (by rfl) (by first | exact Or.inl rfl | exact Or.inr rfl) (ev_and (En.v (en_cmp (opT_eq (Tl.Room.hu hr)) (ev_isi kit_list (by rfl) (hb "isinstance" (by decide)) (by rfl) (hb "list" (by decide)) boot_list (ev_var 0)) (ev_isi kit_list (by rfl) (hb "isinstance" (by decide)) (by rfl) (hb "list" (by decide)) boot_list (ev_var 1)) (by with_unfolding_all rfl))) (ev_one (En.v (en_cmp (opT_eq (Tl.Room.hu hr)) (ev_isi kit_tuple (by rfl) (hb "isinstance" (by decide)) (by rfl) (hb "tuple" (by decide)) boot_tuple (ev_var 0)) (ev_isi kit_tuple (by rfl) (hb "isinstance" (by decide)) (by rfl) (hb "tuple" (by decide)) boot_tuple (ev_var 1)) (by with_unfolding_all rfl))))))
      (ss_one (sm_ret (Ev.o (ev_and (ev_var 2) (ev_and (En.v (en_cmp (opT_eq (Tl.Room.hu hr)) (En.v (en_bl bl_len (by rfl) (hb "len" (by decide)) boot_len (ap_cons (ev_var 0) ap_nil))) (En.v (en_bl bl_len (by rfl) (hb "len" (by decide)) boot_len (ap_cons (ev_var 1) ap_nil))) (by with_unfolding_all rfl))) (ev_one (En.v (en_bl (bl_all rfl) (by rfl) (hb "all" (by decide)) boot_all (ap_cons (En.v (en_lc (own := [("one", 4), ("other", 5)]) rfl sc__law_same.nd (ii_zip (by rfl) (hb "zip" (by decide)) (ar_cons (ev_var 0) (ar_cons (ev_var 1) ar_nil))) (blkOk_by (by rfl)) (fun s1 H1 C1 cl1 fp1 => (tg_tp rfl sc__law_same.nd (GNs.cons (by rfl) (by first | exact Or.inl rfl | exact Or.inr rfl) (by first | exact .inl rfl | exact .inr rfl) (GNs.cons (by rfl) (by first | exact Or.inl rfl | exact Or.inr rfl) (by first | exact .inl rfl | exact .inr rfl) GNs.nil)))) (fun s1 H1 C1 cl1 fp1 => ptsT_nil) (fun s1 H1 C1 cl1 fp1 => (En.v (en_call c__law_same hr (by omega) (by rfl) (am_v (ev_var 4) (am_v (ev_var 5) am_nil))))))) ap_nil)))))))))) ss_nil)
      (ss_cons (sm_set sc__law_same.nd (by rfl) (by first | exact Or.inl rfl | exact Or.inr rfl) (ev_and (ev_not (ev_isiT (by rfl) (hb "isinstance" (by decide)) (Tys.cons kit_list (by rfl) (hb "list" (by decide)) boot_list (by decide) (by decide) (by rfl) (Tys.cons kit_tuple (by rfl) (hb "tuple" (by decide)) boot_tuple (by decide) (by decide) (by rfl) (Tys.cons kit_dict (by rfl) (hb "dict" (by decide)) boot_dict (by decide) (by decide) (by rfl) Tys.nil))) (ev_var 0))) (ev_and (En.v (en_cmp (opT_eq (Tl.Room.hu hr)) (ev_isi kit_int (by rfl) (hb "isinstance" (by decide)) (by rfl) (hb "int" (by decide)) boot_int (ev_var 0)) (ev_isi kit_int (by rfl) (hb "isinstance" (by decide)) (by rfl) (hb "int" (by decide)) boot_int (ev_var 1)) (by with_unfolding_all rfl))) (ev_one (En.v (en_cmp (opT_eq (Tl.Room.hu hr)) (ev_isi kit_str (by rfl) (hb "isinstance" (by decide)) (by rfl) (hb "str" (by decide)) boot_str (ev_var 0)) (ev_isi kit_str (by rfl) (hb "isinstance" (by decide)) (by rfl) (hb "str" (by decide)) boot_str (ev_var 1)) (by with_unfolding_all rfl)))))))
      (ss_one (sm_ret (Ev.o (ev_and (ev_var 2) (ev_and (En.v (en_cmp (opT_eq (Tl.Room.hu hr)) (En.v (en_cmp opT_is (ev_var 0) ev_non (by with_unfolding_all rfl))) (En.v (en_cmp opT_is (ev_var 1) ev_non (by with_unfolding_all rfl))) (by with_unfolding_all rfl))) (ev_and (En.v (en_cmp (opT_eq (Tl.Room.hu hr)) (ev_isi kit_bool (by rfl) (hb "isinstance" (by decide)) (by rfl) (hb "bool" (by decide)) boot_bool (ev_var 0)) (ev_isi kit_bool (by rfl) (hb "isinstance" (by decide)) (by rfl) (hb "bool" (by decide)) boot_bool (ev_var 1)) (by with_unfolding_all rfl))) (ev_one (En.v (en_cmp (opT_eq (Tl.Room.hu hr)) (ev_var 0) (ev_var 1) (by with_unfolding_all rfl)))))))))))))
/-! _law_purses -/
abbrev s__law_purses : Stmt := top 60
def N__law_purses : List Str := ["script", "few", "at"]
def p__law_purses : List Str := ["script", "few"]
theorem sc__law_purses : FnScope N__law_purses p__law_purses (C8.fnScope s__law_purses) := C8.fnScope_by (by decide +kernel)
def f__law_purses (g__law_purse : Fm) : F1 :=
    f1Lc [2] (fiA gRng1 (fA (fV (fBl gMax (fQ (fC (.int 1)) (fQ (fV (fBl gMin (fQ (fVar 1) (fQ (fV (fBl gLen (fQ (fVar 0) (fQ0)))) (fQ0))))) (fQ0))))) (fA0))) (.nm 2) (fCall g__law_purse (fMv (fVar 0) (fMv (fVar 2) (fM0))) [])
def m__law_purses (g__law_purse : Fm) : List SV → Option D := runN 2 (f__law_purses g__law_purse) 1
theorem ok__law_purses {g__law_purse : Fm} {a : Addr} {fd : FuncData} (F : C8.Fun K "_law_purses" "_law_purses" s__law_purses a fd) (hb : NoMg mg blts) (c__law_purse : Cal P w K mg base 1 "_law_purse" g__law_purse []) : FnOk P w K mg base CX0 2 a fd p__law_purses (spN K (m__law_purses g__law_purse)) :=
  def_okN F sc__law_purses rfl fun cdv A outer s H E hr =>
    (pss_one (ps_ret (e1_lc (own := [("at", 2)]) rfl sc__law_purses.nd (ii_range1 (by rfl) (hb "range" (by decide)) (ar_cons (En.v (en_bl (bl_max rfl) (by rfl) (hb "max" (by decide)) boot_max (ap_cons ev_int (ap_cons (En.v (en_bl (bl_min rfl) (by rfl) (hb "min" (by decide)) boot_min (ap_cons (ev_var 1) (ap_cons (En.v (en_bl bl_len (by rfl) (hb "len" (by decide)) boot_len (ap_cons (ev_var 0) ap_nil))) ap_nil)))) ap_nil)))) ar_nil)) (blkOk_by (by rfl)) (fun s1 H1 C1 cl1 fp1 => (tg_nm sc__law_purses.nd (by rfl) (by first | exact Or.inl rfl | exact Or.inr rfl))) (fun s1 H1 C1 cl1 fp1 => (en_call c__law_purse hr (by decide) (by rfl) (am_v (ev_var 0) (am_v (ev_var 2) am_nil)))))))
/-! _law_spot -/
abbrev s__law_spot : Stmt := top 61
def N__law_spot : List Str := ["house", "rule", "size", "spares", "last"]
def p__law_spot : List Str := ["house", "rule", "size"]
theorem sc__law_spot : FnScope N__law_spot p__law_spot (C8.fnScope s__law_spot) := C8.fnScope_by (by decide +kernel)
def f__law_spot (cH : Addr) (g_first_fit : Fm) (g_best_fit : Fm) (g_widest_fit : Fm) (g_m_spares : Fm) : Fs :=
    sSeq (sIf (fT (fV (fOp2 dEq (fVar 1) (fC (.str "first"))))) (sRet (fCall g_first_fit (fMi (fVar 0) (fMv (fVar 2) (fM0))) [])) (sNext))
    (sSeq (sIf (fT (fV (fOp2 dEq (fVar 1) (fC (.str "best"))))) (sRet (fCall g_best_fit (fMi (fVar 0) (fMv (fVar 2) (fM0))) [])) (sNext))
    (sSeq (sIf (fT (fV (fOp2 dEq (fVar 1) (fC (.str "worst"))))) (sRet (fCall g_widest_fit (fMi (fVar 0) (fMv (fVar 2) (fM0))) [])) (sNext))
    (sSeq (sSet 3 (fV (fMeth cH "spares" g_m_spares (fVar 0) fM0 [])))
    (sSeq (sSet 4 (fV (fBl gMax (fQ (fV (fOp2 dAdd (fV (fBl gSorted (fQ (fVar 3) (fQ0)))) (fV (fLst (fA (fNeg (fC (.int 1))) (fA0)))))) (fQ0)))))
    (sRet (fO (fIf (fTA (fT (fV (fOp2 dGe (fVar 4) (fC (.int 0))))) (fT (fV (fOp2 dGe (fV (fOp2 dIx (fVar 3) (fVar 4))) (fVar 2))))) (fVar 4) (fC .non))))))))
def m__law_spot (cH : Addr) (g_first_fit : Fm) (g_best_fit : Fm) (g_widest_fit : Fm) (g_m_spares : Fm) : Fm := runP 3 (f__law_spot cH g_first_fit g_best_fit g_widest_fit g_m_spares) 2
theorem ok__law_spot {cH : Addr} {g_first_fit : Fm} {g_best_fit : Fm} {g_widest_fit : Fm} {g_m_spares : Fm} {a : Addr} {fd : FuncData} (F : C8.Fun K "_law_spot" "_law_spot" s__law_spot a fd) (hb : NoMg mg blts) (hC : ClsI K cH) (c_first_fit : Cal P w K mg base 5 "first_fit" g_first_fit []) (c_best_fit : Cal P w K mg base 4 "best_fit" g_best_fit []) (c_widest_fit : Cal P w K mg base 4 "widest_fit" g_widest_fit []) (c_m_spares : Met P w K mg base 2 cH "spares" g_m_spares []) : FnOk P w K mg base CX0 6 a fd p__law_spot (spT K (m__law_spot cH g_first_fit g_best_fit g_widest_fit g_m_spares)) :=
  def_okP F sc__law_spot rfl fun cdv A outer s H E hr =>
    (ss_cons (sm_if (ts_cmp (opT_eq (Tl.Room.hu hr)) (ev_var 1) ev_str (by with_unfolding_all rfl)) (ss_one (sm_ret (en_call c_first_fit hr (by decide) (by rfl) (am_i (ev_var 0) (am_v (ev_var 2) am_nil))))) ss_nil)
      (ss_cons (sm_if (ts_cmp (opT_eq (Tl.Room.hu hr)) (ev_var 1) ev_str (by with_unfolding_all rfl)) (ss_one (sm_ret (en_call c_best_fit hr (by decide) (by rfl) (am_i (ev_var 0) (am_v (ev_var 2) am_nil))))) ss_nil)
      (ss_cons (sm_if (ts_cmp (opT_eq (Tl.Room.hu hr)) (ev_var 1) ev_str (by with_unfolding_all rfl)) (ss_one (sm_ret (en_call c_widest_fit hr (by decide) (by rfl) (am_i (ev_var 0) (am_v (ev_var 2) am_nil))))) ss_nil)
      (ss_cons (sm_set sc__law_spot.nd (by rfl) (by first | exact Or.inl rfl | exact Or.inr rfl) (En.v (en_meth0 c_m_spares hr (by decide) (ev_var 0))))
      (ss_cons (sm_set sc__law_spot.nd (by rfl) (by first | exact Or.inl rfl | exact Or.inr rfl) (En.v (en_bl (bl_max rfl) (by rfl) (hb "max" (by decide)) boot_max (ap_cons (En.v (en_bin opT_add (En.v (en_bl (bl_sorted rfl (Tl.Room.hu hr)) (by rfl) (hb "sorted" (by decide)) boot_sorted (ap_cons (ev_var 3) ap_nil))) (En.v (en_lst (ar_cons (ev_neg ev_int) ar_nil))))) ap_nil))))
      (ss_one (sm_ret (Ev.o (ev_if (Tw.t (tw_and (ts_cmp (opT_ge (Tl.Room.hu hr)) (ev_var 4) ev_int (by with_unfolding_all rfl)) (tw_and1 (ts_cmp (opT_ge (Tl.Room.hu hr)) (En.v (en_sub (Tl.Room.hu hr) (ev_var 3) (ev_var 4))) (ev_var 2) (by with_unfolding_all rfl))))) (ev_var 4) ev_non)))))))))
/-! law -/
abbrev s_law : Stmt := top 62
def N_law : List Str := ["script", "purse", "room", "sizes", "spin", "names", "rule", "house", "found", "name", "size", "box", "lots", "at", "told", "lot"]
def p_law : List Str := ["script"]
theorem sc_law : FnScope N_law p_law (C8.fnScope s_law) := C8.fnScope_by (by decide +kernel)
def f_law (cH : Addr) (g__law_purses : (List SV → Option D)) (g__law_draw : Fm) (g__law_spot : Fm) (g_is_packing : Fm) (g_packed_by : Fm) (g_boxes_by : Fm) (g__law_same : Fm) (g_m_do : Fm) (g_m_boxes : Fm) (g_mk : Fm) : Fs :=
    sSeq (sFor1 1 (f1Call g__law_purses (fA (fVar 0) (fA (fC (.int 1)) (fA0)))) (sSeq (sSet 2 (fV (fOp2 dAdd (fC (.int 2)) (fV (fCall g__law_draw (fMi (fVar 1) (fMv (fC (.int 11)) (fM0))) [])))))
    (sSeq (sSet 3 (fV (fLc [4] (fiA gRng1 (fA (fV (fCall g__law_draw (fMi (fVar 1) (fMv (fC (.int 8)) (fM0))) [])) (fA0))) (.nm 4) (fYes) (fV (fOp2 dAdd (fC (.int 1)) (fV (fCall g__law_draw (fMi (fVar 1) (fMv (fVar 2) (fM0))) [])))))))
    (sSeq (sSet 5 (fV (fCut (fV (fLst (fA (fC (.str "a")) (fA (fC (.str "b")) (fA (fC (.str "c")) (fA (fC (.str "d")) (fA (fC (.str "e")) (fA (fC (.str "f")) (fA (fC (.str "g")) (fA0)))))))))) (fPart0) (fPart (fV (fBl gLen (fQ (fVar 3) (fQ0))))))))
    (sFor (.nm 6) (fiOf seqOf (fV (fLst (fA (fC (.str "next")) (fA (fC (.str "first")) (fA (fC (.str "best")) (fA (fC (.str "worst")) (fA0)))))))) (sSeq (sPar [7, 8] (fP (fMake cH g_mk (fA (fVar 2) (fA0)) []) (fP (fLst (fA0)) (fP0))))
    (sSeq (sFor (.tp [9, 10]) (fiA gZip (fA (fVar 5) (fA (fVar 3) (fA0)))) (sSeq (sSet 11 (fV (fCall g__law_spot (fMi (fVar 7) (fMv (fVar 6) (fMv (fVar 10) (fM0)))) [])))
    (sSeq (sIf (fT (fV (fOp2 dIs (fVar 11) (fC .non)))) (sSet 11 (fV (fOp2 dIx (fV (fMeth cH "do" g_m_do (fVar 7) (fMv (fV (fTup (fA (fC (.str "open")) (fA0)))) (fM0)) [])) (fC (.int 1))))) (sNext))
    (sSeq (sIf (fT (fV (fOp2 dNe (fV (fOp2 dIx (fV (fMeth cH "do" g_m_do (fVar 7) (fMv (fV (fTup (fA (fC (.str "put")) (fA (fVar 9) (fA (fVar 10) (fA (fVar 11) (fA0))))))) (fM0)) [])) (fC (.int 0)))) (fC (.str "done"))))) (sRet (fO (fC (.bl false)))) (sNext))
    (sEx (fMut isL 8 gApp (fA (fVar 11) (fA0))))))))
    (sSeq (sSet 12 (fV (fLc [11] (fiA gRng1 (fA (fV (fOp2 dAdd (fV (fBl gMax (fQ (fV (fOp2 dAdd (fVar 8) (fV (fLst (fA (fNeg (fC (.int 1))) (fA0)))))) (fQ0)))) (fC (.int 1)))) (fA0))) (.nm 11) (fYes) (fV (fLc [13] (fiA gRng1 (fA (fV (fBl gLen (fQ (fVar 3) (fQ0)))) (fA0))) (.nm 13) (fT (fV (fOp2 dEq (fV (fOp2 dIx (fVar 8) (fVar 13))) (fVar 11)))) (fVar 13))))))
    (sSeq (sSet 14 (fV (fLst (fA (fV (fCall g_boxes_by (fMv (fVar 6) (fMv (fVar 3) (fMv (fVar 2) (fM0)))) [])) (fA (fV (fCall g_packed_by (fMv (fVar 6) (fMv (fVar 3) (fMv (fVar 2) (fM0)))) [])) (fA (fV (fCall g_is_packing (fMv (fVar 3) (fMv (fVar 2) (fMv (fVar 12) (fM0)))) [])) (fA0)))))))
    (sSeq (sIf (fTN (fT (fV (fCall g__law_same (fMv (fVar 14) (fMv (fV (fLst (fA (fVar 8) (fA (fVar 12) (fA (fC (.bl true)) (fA0)))))) (fM0))) [])))) (sRet (fO (fC (.bl false)))) (sNext))
    (sSeq (sIf (fTN (fT (fV (fCall g__law_same (fMv (fV (fMeth cH "boxes" g_m_boxes (fVar 7) fM0 [])) (fMv (fV (fBl gDict (fQ (fV (fLc [11, 15] (fiA gEnum (fA (fVar 12) (fA0))) (.tp [11, 15]) (fYes) (fV (fTup (fA (fVar 11) (fA (fV (fLc [13] (fiOf seqOf (fVar 15)) (.nm 13) (fYes) (fV (fOp2 dIx (fVar 5) (fVar 13))))) (fA0))))))) (fQ0)))) (fM0))) [])))) (sRet (fO (fC (.bl false)))) (sNext))
    (sIf (fTA (fT (fV (fOp2 dNe (fVar 6) (fC (.str "next"))))) (fT (fV (fOp2 dGt (fV (fBl gLen (fQ (fV (fLc [15] (fiOf seqOf (fVar 12)) (.nm 15) (fT (fV (fOp2 dLe (fV (fOp2 dMul (fC (.int 2)) (fV (fBl gSum (fQ (fV (fLc [13] (fiOf seqOf (fVar 15)) (.nm 13) (fYes) (fV (fOp2 dIx (fVar 3) (fVar 13))))) (fQ0)))))) (fVar 2)))) (fVar 15))) (fQ0)))) (fC (.int 1)))))) (sRet (fO (fC (.bl false)))) (sNext)))))))))))))
    (sRet (fO (fC (.bl true))))
def m_law (cH : Addr) (g__law_purses : (List SV → Option D)) (g__law_draw : Fm) (g__law_spot : Fm) (g_is_packing : Fm) (g_packed_by : Fm) (g_boxes_by : Fm) (g__law_same : Fm) (g_m_do : Fm) (g_m_boxes : Fm) (g_mk : Fm) : Fm := runP 1 (f_law cH g__law_purses g__law_draw g__law_spot g_is_packing g_packed_by g_boxes_by g__law_same g_m_do g_m_boxes g_mk) 15
theorem ok_law {cH : Addr} {g__law_purses : (List SV → Option D)} {g__law_draw : Fm} {g__law_spot : Fm} {g_is_packing : Fm} {g_packed_by : Fm} {g_boxes_by : Fm} {g__law_same : Fm} {g_m_do : Fm} {g_m_boxes : Fm} {g_mk : Fm} {a : Addr} {fd : FuncData} (F : C8.Fun K "law" "law" s_law a fd) (hb : NoMg mg blts) (hC : ClsI K cH) (c__law_purses : CalN P w K mg base 2 "_law_purses" g__law_purses) (c__law_draw : Cal P w K mg base 2 "_law_draw" g__law_draw []) (c__law_spot : Cal P w K mg base 6 "_law_spot" g__law_spot []) (c_is_packing : Cal P w K mg base 6 "is_packing" g_is_packing []) (c_packed_by : Cal P w K mg base 7 "packed_by" g_packed_by []) (c_boxes_by : Cal P w K mg base 7 "boxes_by" g_boxes_by []) (c__law_same : Cal P w K mg base 6 "_law_same" g__law_same []) (c_m_do : Met P w K mg base 7 cH "do" g_m_do []) (c_m_boxes : Met P w K mg base 2 cH "boxes" g_m_boxes []) (c_mk : Mak P w K mg base 4 "House" cH g_mk []) : FnOk P w K mg base CX0 8 a fd p_law (spT K (m_law cH g__law_purses g__law_draw g__law_spot g_is_packing g_packed_by g_boxes_by g__law_same g_m_do g_m_boxes g_mk)) :=
  def_okP F sc_law rfl fun cdv A outer s H E hr =>
    (ss_cons (sm_for1 (i := 1) PassesOwn.never rfl (e1_call c__law_purses hr (by decide) (by rfl) (ar_cons (ev_var 0) (ar_cons ev_int ar_nil))) (pg_name sc_law.nd (by rfl) (by first | exact Or.inl rfl | exact Or.inr rfl)) (ss_cons (sm_set sc_law.nd (by rfl) (by first | exact Or.inl rfl | exact Or.inr rfl) (En.v (en_bin opT_add ev_int (En.v (en_call c__law_draw hr (by decide) (by rfl) (am_i (ev_var 1) (am_v ev_int am_nil)))))))
      (ss_cons (sm_set sc_law.nd (by rfl) (by first | exact Or.inl rfl | exact Or.inr rfl) (En.v (en_lc (own := [("spin", 4)]) rfl sc_law.nd (ii_range1 (by rfl) (hb "range" (by decide)) (ar_cons (En.v (en_call c__law_draw hr (by decide) (by rfl) (am_i (ev_var 1) (am_v ev_int am_nil)))) ar_nil)) (blkOk_by (by rfl)) (fun s1 H1 C1 cl1 fp1 => (tg_nm sc_law.nd (by rfl) (by first | exact Or.inl rfl | exact Or.inr rfl))) (fun s1 H1 C1 cl1 fp1 => ptsT_nil) (fun s1 H1 C1 cl1 fp1 => (En.v (en_bin opT_add ev_int (En.v (en_call c__law_draw hr (by decide) (by rfl) (am_i (ev_var 1) (am_v (ev_var 2) am_nil))))))))))
      (ss_cons (sm_set sc_law.nd (by rfl) (by first | exact Or.inl rfl | exact Or.inr rfl) (En.v (en_cut (En.v (en_lst (ar_cons ev_str (ar_cons ev_str (ar_cons ev_str (ar_cons ev_str (ar_cons ev_str (ar_cons ev_str (ar_cons ev_str ar_nil))))))))) pt0 (pt1 (En.v (en_bl bl_len (by rfl) (hb "len" (by decide)) boot_len (ap_cons (ev_var 3) ap_nil)))))))
      (ss_one (sm_for PassesOwn.never rfl (ii_any (En.v (en_lst (ar_cons ev_str (ar_cons ev_str (ar_cons ev_str (ar_cons ev_str ar_nil))))))) (tg_nm sc_law.nd (by rfl) (by first | exact Or.inl rfl | exact Or.inr rfl)) (ss_cons (sm_par rfl sc_law.nd (GNs.cons (by rfl) (by first | exact Or.inl rfl | exact Or.inr rfl) (by first | exact .inl rfl | exact .inr rfl) (GNs.cons (by rfl) (by first | exact Or.inl rfl | exact Or.inr rfl) (by first | exact .inl rfl | exact .inr rfl) GNs.nil)) (pn_cons (en_make c_mk hr (by decide) (by rfl) (ar_cons (ev_var 2) ar_nil)) (pn_cons (en_lst ar_nil) pn_nil)))
      (ss_cons (sm_for PassesOwn.never rfl (ii_zip (by rfl) (hb "zip" (by decide)) (ar_cons (ev_var 5) (ar_cons (ev_var 3) ar_nil))) (tg_tp rfl sc_law.nd (GNs.cons (by rfl) (by first | exact Or.inl rfl | exact Or.inr rfl) (by first | exact .inl rfl | exact .inr rfl) (GNs.cons (by rfl) (by first | exact Or.inl rfl | exact Or.inr rfl) (by first | exact .inl rfl | exact .inr rfl) GNs.nil))) (ss_cons (sm_set sc_law.nd (by rfl) (by first | exact Or.inl rfl | exact Or.inr rfl) (En.v (en_call c__law_spot hr (by decide) (by rfl) (am_i (ev_var 7) (am_v (ev_var 6) (am_v (ev_var 10) am_nil))))))
      (ss_cons (sm_if (ts_cmp opT_is (ev_var 11) ev_non (by with_unfolding_all rfl)) (ss_one (sm_set sc_law.nd (by rfl) (by first | exact Or.inl rfl | exact Or.inr rfl) (En.v (en_sub (Tl.Room.hu hr) (En.v (en_meth c_m_do hr (by decide) (ev_var 7) (am_v (En.v (en_tup (ar_cons ev_str ar_nil))) am_nil))) ev_int)))) ss_nil)
      (ss_cons (sm_if (ts_cmp (opT_ne (Tl.Room.hu hr)) (En.v (en_sub (Tl.Room.hu hr) (En.v (en_meth c_m_do hr (by decide) (ev_var 7) (am_v (En.v (en_tup (ar_cons ev_str (ar_cons (ev_var 9) (ar_cons (ev_var 10) (ar_cons (ev_var 11) ar_nil)))))) am_nil))) ev_int)) ev_str (by with_unfolding_all rfl)) (ss_one (sm_ret (Ev.o ev_bl))) ss_nil)
      (ss_one (sm_ex (en_mut tyL PySem.F.plainAttrs_list PySem.F.slot_list_append PySem.F.type_list_append mtT_append 8 (by rfl) (by first | exact Or.inl rfl | exact Or.inr (Or.inl rfl) | exact Or.inr (Or.inr rfl)) (ar_cons (ev_var 11) ar_nil))))))))
      (ss_cons (sm_setLc (own := [("box", 11)]) rfl sc_law.nd (by rfl) (by rfl) (by rfl) (ii_range1 (by rfl) (hb "range" (by decide)) (ar_cons (En.v (en_bin opT_add (En.v (en_bl (bl_max rfl) (by rfl) (hb "max" (by decide)) boot_max (ap_cons (En.v (en_bin opT_add (ev_var 8) (En.v (en_lst (ar_cons (ev_neg ev_int) ar_nil))))) ap_nil))) ev_int)) ar_nil)) (blkOk_by (by rfl)) (fun s1 H1 C1 cl1 fp1 => (tg_nm sc_law.nd (by rfl) (by first | exact Or.inl rfl | exact Or.inr rfl))) (fun s1 H1 C1 cl1 fp1 => ptsT_nil) (fun s1 H1 C1 cl1 fp1 => (En.v (en_lc (own := [("at", 13)]) rfl sc_law.nd (ii_range1 (by rfl) (hb "range" (by decide)) (ar_cons (En.v (en_bl bl_len (by rfl) (hb "len" (by decide)) boot_len (ap_cons (ev_var 3) ap_nil))) ar_nil)) (blkOk_by (by rfl)) (fun s1 H1 C1 cl1 fp1 => (tg_nm sc_law.nd (by rfl) (by first | exact Or.inl rfl | exact Or.inr rfl))) (fun s1 H1 C1 cl1 fp1 => (ptsT_one (ts_cmp (opT_eq (Tl.Room.hu hr)) (En.v (en_sub (Tl.Room.hu hr) (ev_var 8) (ev_var 13))) (ev_var 11) (by with_unfolding_all rfl)))) (fun s1 H1 C1 cl1 fp1 => (ev_var 13))))))
      (ss_cons (sm_set sc_law.nd (by rfl) (by first | exact Or.inl rfl | exact Or.inr rfl) (En.v (en_lst (ar_cons (En.v (en_call c_boxes_by hr (by decide) (by rfl) (am_v (ev_var 6) (am_v (ev_var 3) (am_v (ev_var 2) am_nil))))) (ar_cons (En.v (en_call c_packed_by hr (by decide) (by rfl) (am_v (ev_var 6) (am_v (ev_var 3) (am_v (ev_var 2) am_nil))))) (ar_cons (En.v (en_call c_is_packing hr (by decide) (by rfl) (am_v (ev_var 3) (am_v (ev_var 2) (am_v (ev_var 12) am_nil))))) ar_nil))))))
      (ss_cons (sm_if (ts_not (ts_val (En.v (en_call c__law_same hr (by decide) (by rfl) (am_v (ev_var 14) (am_v (En.v (en_lst (ar_cons (ev_var 8) (ar_cons (ev_var 12) (ar_cons ev_bl ar_nil))))) am_nil)))))) (ss_one (sm_ret (Ev.o ev_bl))) ss_nil)
      (ss_cons (sm_if (ts_not (ts_val (En.v (en_call c__law_same hr (by decide) (by rfl) (am_v (En.v (en_meth0 c_m_boxes hr (by decide) (ev_var 7))) (am_v (En.v (en_ty (bl_dict rfl) (by rfl) (hb "dict" (by decide)) boot_dict (ap_cons (En.v (en_lc (own := [("box", 11), ("lot", 15)]) rfl sc_law.nd (ii_enum (by rfl) (hb "enumerate" (by decide)) (ar_cons (ev_var 12) ar_nil)) (blkOk_by (by rfl)) (fun s1 H1 C1 cl1 fp1 => (tg_tp rfl sc_law.nd (GNs.cons (by rfl) (by first | exact Or.inl rfl | exact Or.inr rfl) (by first | exact .inl rfl | exact .inr rfl) (GNs.cons (by rfl) (by first | exact Or.inl rfl | exact Or.inr rfl) (by first | exact .inl rfl | exact .inr rfl) GNs.nil)))) (fun s1 H1 C1 cl1 fp1 => ptsT_nil) (fun s1 H1 C1 cl1 fp1 => (En.v (en_tup (ar_cons (ev_var 11) (ar_cons (En.v (en_lc (own := [("at", 13)]) rfl sc_law.nd (ii_any (ev_var 15)) (blkOk_by (by rfl)) (fun s1 H1 C1 cl1 fp1 => (tg_nm sc_law.nd (by rfl) (by first | exact Or.inl rfl | exact Or.inr rfl))) (fun s1 H1 C1 cl1 fp1 => ptsT_nil) (fun s1 H1 C1 cl1 fp1 => (En.v (en_sub (Tl.Room.hu hr) (ev_var 5) (ev_var 13)))))) ar_nil))))))) ap_nil))) am_nil)))))) (ss_one (sm_ret (Ev.o ev_bl))) ss_nil)
      (ss_one (sm_if (Tw.t (tw_and (ts_cmp (opT_ne (Tl.Room.hu hr)) (ev_var 6) ev_str (by with_unfolding_all rfl)) (tw_and1 (ts_cmp (opT_gt (Tl.Room.hu hr)) (En.v (en_bl bl_len (by rfl) (hb "len" (by decide)) boot_len (ap_cons (En.v (en_lc (own := [("lot", 15)]) rfl sc_law.nd (ii_any (ev_var 12)) (blkOk_by (by rfl)) (fun s1 H1 C1 cl1 fp1 => (tg_nm sc_law.nd (by rfl) (by first | exact Or.inl rfl | exact Or.inr rfl))) (fun s1 H1 C1 cl1 fp1 => (ptsT_one (ts_cmp (opT_le (Tl.Room.hu hr)) (En.v (en_bin opT_mul ev_int (En.v (en_bl (bl_sum rfl) (by rfl) (hb "sum" (by decide)) boot_sum (ap_cons (En.v (en_lc (own := [("at", 13)]) rfl sc_law.nd (ii_any (ev_var 15)) (blkOk_by (by rfl)) (fun s1 H1 C1 cl1 fp1 => (tg_nm sc_law.nd (by rfl) (by first | exact Or.inl rfl | exact Or.inr rfl))) (fun s1 H1 C1 cl1 fp1 => ptsT_nil) (fun s1 H1 C1 cl1 fp1 => (En.v (en_sub (Tl.Room.hu hr) (ev_var 3) (ev_var 13)))))) ap_nil))))) (ev_var 2) (by with_unfolding_all rfl)))) (fun s1 H1 C1 cl1 fp1 => (ev_var 15)))) ap_nil))) ev_int (by with_unfolding_all rfl))))) (ss_one (sm_ret (Ev.o ev_bl))) ss_nil))))))))))))))
      (ss_one (sm_ret (Ev.o ev_bl))))
end
end K83

set_option Elab.async false
set_option linter.all false
set_option autoImplicit false
set_option maxRecDepth 100000
namespace K83
open PySem PySem.Spec PyProof.Rows L2 L2.Tl
noncomputable section
def g_is_whole : Fm := m_is_whole 
def g_is_count : Fm := m_is_count (g_is_whole)
def g_is_word : Fm := m_is_word 
def g_is_tuple_of : Fm := m_is_tuple_of 
def g_is_said : Fm := m_is_said (g_is_tuple_of)
def g_copied : Nat → Fm
  | 0 => fun _ => none
  | k + 1 => m_copied (g_copied k)
def g_are_sizes : Fm := m_are_sizes (g_is_count)
def g_check_sizes : Fm := m_check_sizes (g_are_sizes)
def g_is_lot_there : Fm := m_is_lot_there (g_is_count)
def g_check_room : Fm := m_check_room (g_is_count)
def g_size_there : Fm := m_size_there 
def g_is_act : Fm := m_is_act (g_is_said) (g_is_count) (g_is_count) (g_is_word)
def g_fits : Fm := m_fits 
def g_names_in : Fm := m_names_in 
def g_spare_of : Fm := m_spare_of 
def g_with_things : Fm := m_with_things 
def g_opened : Fm := m_opened (g_names_in)
def g_acted : Fm := m_acted (g_opened) (g_with_things) (g_spare_of)
def g_House_init (cH : Addr) : Fm := m_House_init cH (g_check_room)
def g_House_state (cH : Addr) : Fm := m_House_state cH
def g_House_do (cH : Addr) : Fm := m_House_do cH (g_fits) (g_is_act) (g_acted) (g_copied 6) (g_House_state cH)
def g_House_room (cH : Addr) : Fm := m_House_room cH (g_House_state cH)
def g_House_boxes (cH : Addr) : Fm := m_House_boxes cH (g_names_in) (g_House_state cH)
def g_House_things (cH : Addr) : Fm := m_House_things cH (g_House_state cH)
def g_House_spares (cH : Addr) : Fm := m_House_spares cH (g_spare_of) (g_House_state cH)
def g_check_house (cH : Addr) : Fm := m_check_house cH
def g_check_size (cH : Addr) : Fm := m_check_size (g_check_house cH) (g_is_count)
def g_fits_there : Fm := m_fits_there (g_spare_of)
def g_which_fit (cH : Addr) : Fm := m_which_fit cH (g_check_size cH) (g_fits_there) (g_House_state cH)
def g_first_fit (cH : Addr) : Fm := m_first_fit (g_which_fit cH)
def g_best_fit (cH : Addr) : Fm := m_best_fit cH (g_check_size cH) (g_fits_there) (g_House_state cH)
def g_widest_fit (cH : Addr) : Fm := m_widest_fit cH (g_check_size cH) (g_fits_there) (g_House_state cH)
def g_is_packing_there : Fm := m_is_packing_there (g_is_lot_there) (g_size_there)
def g_check_things : Fm := m_check_things (g_check_sizes) (g_check_room)
def g_is_packing : Fm := m_is_packing (g_check_things) (g_is_packing_there)
def g_by_boxes : Fm := m_by_boxes (g_size_there)
def g_check_rule : Fm := m_check_rule 
def g_check_held : Fm := m_check_held (g_check_sizes) (g_is_count)
def g_box_there : Fm := m_box_there 
def g_boxes_there : Fm := m_boxes_there (g_box_there)
def g_plain_boxes : Fm := m_plain_boxes (g_boxes_there)
def g_check_all : Fm := m_check_all (g_check_rule) (g_check_held)
def g_boxes_by : Fm := m_boxes_by (g_check_all) (g_plain_boxes)
def g_packed_by : Fm := m_packed_by (g_check_all) (g_by_boxes) (g_plain_boxes)
def g__law_purse : Fm := m__law_purse 
def g__law_mixed : Fm := m__law_mixed 
def g__law_draw : Fm := m__law_draw (g__law_mixed)
def g__law_same : Nat → Fm
  | 0 => fun _ => none
  | k + 1 => m__law_same (g__law_same k)
def g__law_purses : List SV → Option D := m__law_purses (g__law_purse)
def g__law_spot (cH : Addr) : Fm := m__law_spot cH (g_first_fit cH) (g_best_fit cH) (g_widest_fit cH) (g_House_spares cH)
def g_law (cH : Addr) : Fm := m_law cH (g__law_purses) (g__law_draw) (g__law_spot cH) (g_is_packing) (g_packed_by) (g_boxes_by) (g__law_same 6) (g_House_do cH) (g_House_boxes cH) (g_House_init cH)
end
end K83

set_option Elab.async false
set_option linter.all false
set_option autoImplicit false
set_option maxRecDepth 100000
namespace K83
open PySem PySem.Spec PyProof.Rows L2 L2.Tl
/-! ### the rules, with no program in sight -/
inductive R where
  | nx | fi | be | wo
deriving DecidableEq
def R.s : R → Str
  | .nx => "next"
  | .fi => "first"
  | .be => "best"
  | .wo => "worst"
def lv (L : List Int) (i : Nat) : Int := L.getD i 0
def spots (z : Int) (L : List Int) : List Nat := (List.range L.length).filter fun i => decide (z ≤ lv L i)
theorem mem_spots {z : Int} {L : List Int} {i : Nat} : i ∈ spots z L ↔ i < L.length ∧ z ≤ lv L i := by simp [spots]
theorem spots_inc (z : Int) (L : List Int) : (spots z L).Pairwise (· < ·) := List.Pairwise.filter _ List.pairwise_lt_range
/-- the first of those with the least key -/
def arg (key : Nat → Int) (a : Nat) (is : List Nat) : Nat := is.foldl (fun a j => if key j < key a then j else a) a
theorem arg_spec (key : Nat → Int) : ∀ (is : List Nat) (a : Nat), (a :: is).Pairwise (· < ·) → arg key a is ∈ a :: is ∧ (∀ j ∈ a :: is, key (arg key a is) ≤ key j) ∧ ∀ j ∈ a :: is, j < arg key a is → key (arg key a is) < key j
  | [], a, _ => ⟨by simp [arg], by simp [arg], fun j hj => by simp at hj; subst hj; simp [arg]⟩
  | i :: is, a, h => by
    rw [List.pairwise_cons] at h
    obtain ⟨h1, h2⟩ := h
    rw [List.pairwise_cons] at h2
    have hai := h1 i (by simp)
    show (arg key (if key i < key a then i else a) is ∈ _ ∧ _)
    by_cases hk : key i < key a
    · obtain ⟨b1, b2, b3⟩ := arg_spec key is i (List.pairwise_cons.mpr h2)
      rw [show arg key a (i :: is) = arg key i is by simp [arg, hk]]
      rw [if_pos hk]
      have b4 := b2 i (by simp)
      refine ⟨List.mem_cons_of_mem _ b1, fun j hj => ?_, fun j hj hlt => ?_⟩
      · rcases List.mem_cons.mp hj with rfl | hj
        · omega
        · exact b2 j hj
      · rcases List.mem_cons.mp hj with rfl | hj
        · omega
        · exact b3 j hj hlt
    · have hp : (a :: is).Pairwise (· < ·) := List.pairwise_cons.mpr ⟨fun j hj => h1 j (by simp [hj]), h2.2⟩
      obtain ⟨b1, b2, b3⟩ := arg_spec key is a hp
      rw [show arg key a (i :: is) = arg key a is by simp [arg, hk]]
      rw [if_neg hk]
      have b4 := b2 a (by simp)
      refine ⟨?_, fun j hj => ?_, fun j hj hlt => ?_⟩
      · rcases List.mem_cons.mp b1 with b | b
        · rw [b]; simp
        · exact List.mem_cons_of_mem _ (List.mem_cons_of_mem _ b)
      · rcases List.mem_cons.mp hj with rfl | hj
        · exact b2 _ (by simp)
        · rcases List.mem_cons.mp hj with rfl | hj
          · omega
          · exact b2 j (by simp [hj])
      · rcases List.mem_cons.mp hj with rfl | hj
        · exact b3 _ (by simp) hlt
        · rcases List.mem_cons.mp hj with rfl | hj
          · rcases List.mem_cons.mp b1 with b | b
            · omega
            · have := h2.1 _ b
              rcases Nat.lt_or_ge a (arg key a is) with q | q
              · have := b3 a (by simp) q
                omega
              · omega
          · exact b3 j (by simp [hj]) hlt
theorem minP_arg (key : Nat → Int) : ∀ (is : List Nat) (a : Nat), (a :: is).Pairwise (· < ·) → minP (key a, (a : Int)) (is.map fun (i : Nat) => (key i, (i : Int))) = (key (arg key a is), ((arg key a is : Nat) : Int))
  | [], a, _ => rfl
  | i :: is, a, h => by
    rw [List.pairwise_cons] at h
    obtain ⟨h1, h2⟩ := h
    have hai := h1 i (by simp)
    rw [List.pairwise_cons] at h2
    show minP (if lessP (key i, (i : Int)) (key a, (a : Int)) = true then (key i, (i : Int)) else (key a, (a : Int))) (is.map fun (i : Nat) => (key i, (i : Int))) = _
    by_cases hk : key i < key a
    · rw [if_pos (by simp [lessP, hk]), show arg key a (i :: is) = arg key i is by simp [arg, hk]]
      exact minP_arg key is i (List.pairwise_cons.mpr h2)
    · rw [if_neg (by simp [lessP]; omega), show arg key a (i :: is) = arg key a is by simp [arg, hk]]
      exact minP_arg key is a (List.pairwise_cons.mpr ⟨fun j hj => h1 j (by simp [hj]), h2.2⟩)
def kb (L : List Int) (i : Nat) : Int := lv L i
def kw (L : List Int) (i : Nat) : Int := 0 - lv L i
def argO (key : Nat → Int) : List Nat → Option Nat
  | [] => none
  | a :: is => some (arg key a is)
/-- the box that a rule picks -/
def boxO (r : R) (z : Int) (L : List Int) : Option Nat := match r with
  | .nx => if L ≠ [] ∧ z ≤ lv L (L.length - 1) then some (L.length - 1) else none
  | .fi => (spots z L).head?
  | .be => argO (kb L) (spots z L)
  | .wo => argO (kw L) (spots z L)
theorem argO_mem {key : Nat → Int} {is : List Nat} {b : Nat} (hp : is.Pairwise (· < ·)) (h : argO key is = some b) : b ∈ is := by
  cases is with
  | nil => cases h
  | cons a is => cases h; exact (arg_spec key is a hp).1
theorem argO_none {key : Nat → Int} {is : List Nat} (h : argO key is = none) : is = [] := by
  cases is with
  | nil => rfl
  | cons a is => cases h
theorem boxO_some {r : R} {z : Int} {L : List Int} {b : Nat} (h : boxO r z L = some b) : b < L.length ∧ z ≤ lv L b := by
  cases r with
  | nx =>
    simp only [boxO] at h
    split at h
    · rename_i hc
      cases h
      have : 0 < L.length := List.length_pos_iff.mpr hc.1
      exact ⟨by omega, hc.2⟩
    · cases h
  | fi => exact mem_spots.mp (List.mem_of_mem_head? (by simpa [boxO] using h))
  | be => exact mem_spots.mp (argO_mem (spots_inc z L) h)
  | wo => exact mem_spots.mp (argO_mem (spots_inc z L) h)
theorem boxO_none {r : R} (hr : r ≠ .nx) {z : Int} {L : List Int} (h : boxO r z L = none) : ∀ i, i < L.length → lv L i < z := by
  have hs : spots z L = [] := by
    cases r with
    | nx => exact absurd rfl hr
    | fi => simpa [boxO] using h
    | be => exact argO_none h
    | wo => exact argO_none h
  intro i hi
  have : i ∉ spots z L := by rw [hs]; simp
  rw [mem_spots] at this
  omega
def boxN (r : R) (z : Int) (L : List Int) : Nat := (boxO r z L).getD L.length
def after (room z : Int) (r : R) (L : List Int) : List Int := match boxO r z L with
  | some b => L.set b (lv L b - z)
  | none => L ++ [room - z]
/-- what is left after the first t things -/
def Ls (room : Int) (r : R) (s : Nat → Int) : Nat → List Int
  | 0 => []
  | t + 1 => after room (s t) r (Ls room r s t)
def bx (room : Int) (r : R) (s : Nat → Int) (t : Nat) : Nat := boxN r (s t) (Ls room r s t)
theorem idx_is {L : List Int} {a : Int} {b : Nat} (hb : b < L.length) (ha : lv L b = a) (h : ∀ i, i < b → lv L i ≠ a) : L.idxOf a = b := by
  have hlv : ∀ i (hi : i < L.length), lv L i = L[i] := fun i hi => by simp [lv, hi]
  have hm : a ∈ L := by rw [← ha, hlv b hb]; exact List.getElem_mem hb
  have h1 := List.idxOf_lt_length_of_mem hm
  have h2 : lv L (L.idxOf a) = a := by rw [hlv _ h1]; exact List.getElem_idxOf h1
  rcases Nat.lt_trichotomy (L.idxOf a) b with q | q | q
  · exact absurd h2 (h _ q)
  · exact q
  · have := idx_min a L b q
    rw [List.getElem?_eq_getElem hb, ← hlv b hb, ha] at this
    exact absurd rfl this
end K83

set_option Elab.async false
set_option linter.all false
set_option autoImplicit false
set_option maxRecDepth 100000
namespace K83
open PySem PySem.Spec PyProof.Rows L2 L2.Tl
section
variable (room : Int) (r : R) (s : Nat → Int)
def kk (t : Nat) : Nat := (Ls room r s t).length
def lotN (t b : Nat) : List Nat := (List.range t).filter fun i => decide (bx room r s i = b)
theorem lotN_succ (t b : Nat) : lotN room r s (t + 1) b = lotN room r s t b ++ if bx room r s t = b then [t] else [] := by
  unfold lotN
  rw [List.range_succ, List.filter_append]
  congr 1
  by_cases h : bx room r s t = b <;> simp [h]
theorem mem_lotN {t b i : Nat} : i ∈ lotN room r s t b ↔ i < t ∧ bx room r s i = b := by simp [lotN]
theorem bx_le (t : Nat) : bx room r s t ≤ kk room r s t := by
  unfold bx boxN kk
  cases h : boxO r (s t) (Ls room r s t) with
  | none => simp
  | some b => have := (boxO_some h).1; simp; omega
theorem kk_succ (t : Nat) : kk room r s (t + 1) = if bx room r s t = kk room r s t then kk room r s t + 1 else kk room r s t := by
  unfold bx boxN kk
  rw [show Ls room r s (t + 1) = after room (s t) r (Ls room r s t) from rfl]
  unfold after
  cases h : boxO r (s t) (Ls room r s t) with
  | none => simp
  | some b =>
    have := (boxO_some h).1
    simp
    omega
theorem kk_mono (t : Nat) : kk room r s t ≤ kk room r s (t + 1) := by rw [kk_succ]; split <;> omega
theorem kk_le (t : Nat) : kk room r s t ≤ t := by
  induction t with
  | zero => simp [kk, Ls]
  | succ t ih => rw [kk_succ]; split <;> omega
theorem bx_lt_succ (t : Nat) : bx room r s t < kk room r s (t + 1) := by
  have := bx_le room r s t
  rw [kk_succ]; split <;> omega
theorem bx_lt {i t : Nat} (h : i < t) : bx room r s i < kk room r s t := by
  induction t with
  | zero => omega
  | succ t ih =>
    rcases Nat.lt_or_ge i t with q | q
    · exact Nat.lt_of_lt_of_le (ih q) (kk_mono room r s t)
    · have : i = t := by omega
      subst this
      exact bx_lt_succ room r s i
theorem occ {t b : Nat} (h : b < kk room r s t) : ∃ j, j < t ∧ bx room r s j = b := by
  induction t with
  | zero => simp [kk, Ls] at h
  | succ t ih =>
    rw [kk_succ] at h
    split at h
    · rename_i he
      rcases Nat.lt_or_ge b (kk room r s t) with q | q
      · obtain ⟨j, h1, h2⟩ := ih q
        exact ⟨j, by omega, h2⟩
      · exact ⟨t, by omega, by omega⟩
    · obtain ⟨j, h1, h2⟩ := ih h
      exact ⟨j, by omega, h2⟩
/-- an earlier box's thing came earlier -/
theorem earlier {b b' i : Nat} (h : b < b') (hi : bx room r s i = b') : ∃ j, j < i ∧ bx room r s j = b := occ room r s (by have := bx_le room r s i; omega)
theorem lv_set {L : List Int} {i j : Nat} {x : Int} (hj : i < L.length) : lv (L.set i x) j = if i = j then x else lv L j := by
  unfold lv
  rw [List.getD_eq_getElem?_getD, List.getElem?_set, List.getD_eq_getElem?_getD]
  by_cases h : i = j
  · subst h; simp [hj]
  · simp [h]
theorem lv_snoc {L : List Int} {j : Nat} {x : Int} : lv (L ++ [x]) j = if j = L.length then x else lv L j := by
  unfold lv
  rw [List.getD_eq_getElem?_getD, List.getElem?_append, List.getD_eq_getElem?_getD]
  by_cases h : j < L.length
  · have : ¬ j = L.length := by omega
    simp [h, this]
  · by_cases h2 : j = L.length
    · subst h2; simp
    · have h3 : ¬ j - L.length = 0 := by omega
      rw [if_neg h, if_neg h2, List.getElem?_eq_none (by simp; omega), List.getElem?_eq_none (by omega)]
/-- the left of box b is the room but for its things -/
theorem left_is (t b : Nat) (h : b < kk room r s t) : lv (Ls room r s t) b = room - ((lotN room r s t b).map s).sum := by
  induction t with
  | zero => simp [kk, Ls] at h
  | succ t ih =>
    rw [lotN_succ, show Ls room r s (t + 1) = after room (s t) r (Ls room r s t) from rfl]
    have hk := kk_succ room r s t
    unfold after bx boxN at *
    cases hb : boxO r (s t) (Ls room r s t) with
    | none =>
      rw [hb] at hk
      simp only [Option.getD_none] at hk ⊢
      rw [lv_snoc]
      by_cases he : b = (Ls room r s t).length
      · subst he
        have : lotN room r s t (Ls room r s t).length = [] := by
          unfold lotN
          rw [List.filter_eq_nil_iff]
          intro i hi
          have := bx_lt room r s (List.mem_range.mp hi)
          unfold kk at this
          simp
          omega
        simp [this]
      · rw [if_neg he, if_neg (Ne.symm he), ih (by unfold kk at *; simp at hk; omega)]
        simp
    | some c =>
      have hc := boxO_some hb
      rw [hb] at hk
      simp only [Option.getD_some] at hk ⊢
      rw [if_neg (by unfold kk; omega)] at hk
      rw [lv_set hc.1]
      by_cases he : c = b
      · subst he
        rw [if_pos rfl, if_pos rfl, ih (by omega)]
        simp
        omega
      · rw [if_neg he, if_neg he, ih (by omega)]
        simp
theorem left_nn (hs : ∀ i, s i ≤ room) (t b : Nat) (h : b < kk room r s t) : 0 ≤ lv (Ls room r s t) b := by
  induction t with
  | zero => simp [kk, Ls] at h
  | succ t ih =>
    have hk := kk_succ room r s t
    rw [show Ls room r s (t + 1) = after room (s t) r (Ls room r s t) from rfl]
    unfold after bx boxN at *
    cases hb : boxO r (s t) (Ls room r s t) with
    | none =>
      rw [hb] at hk
      simp only [Option.getD_none] at hk ⊢
      rw [lv_snoc]
      split
      · have := hs t; omega
      · exact ih (by unfold kk at *; simp at hk; omega)
    | some c =>
      have hc := boxO_some hb
      rw [hb] at hk
      simp only [Option.getD_some] at hk ⊢
      rw [if_neg (by unfold kk; omega)] at hk
      rw [lv_set hc.1]
      split
      · omega
      · exact ih (by omega)
/-- at most one box is half full or less -/
theorem any_fit (hr : r ≠ .nx) (hp : ∀ i, 0 ≤ s i) (t i j : Nat) (hij : i < j) (h : j < kk room r s t) : lv (Ls room r s t) i + lv (Ls room r s t) j < room := by
  induction t with
  | zero => simp [kk, Ls] at h
  | succ t ih =>
    have hk := kk_succ room r s t
    rw [show Ls room r s (t + 1) = after room (s t) r (Ls room r s t) from rfl]
    unfold after bx boxN at *
    cases hb : boxO r (s t) (Ls room r s t) with
    | none =>
      rw [hb] at hk
      simp only [Option.getD_none] at hk ⊢
      unfold kk at *
      simp at hk
      rw [lv_snoc, lv_snoc, if_neg (by omega : ¬ i = _)]
      split
      · have := boxO_none hr hb i (by omega)
        omega
      · exact ih (by omega)
    | some c =>
      have hc := boxO_some hb
      rw [hb] at hk
      simp only [Option.getD_some] at hk ⊢
      rw [if_neg (by unfold kk; omega)] at hk
      rw [lv_set hc.1, lv_set hc.1]
      have := ih (by omega)
      have := hp t
      split
      · rename_i q; subst q
        rw [if_neg (by omega)]
        omega
      · split
        · rename_i q; subst q
          omega
        · omega
end
end K83

set_option Elab.async false
set_option linter.all false
set_option autoImplicit false
set_option maxRecDepth 100000
namespace K83
open PySem PySem.Spec PyProof.Rows L2 L2.Tl
theorem v_is_count (i m : Int) : g_is_count [.fz (.int i), .fz (.int m)] = some (.val (.bl (decide (max m 0 ≤ i))), []) := rfl
/-- a list of ints -/
abbrev iL (is : List Int) : D := .lst (is.map .int)
theorem blsOf_mapF {α : Type} (p : α → Bool) (xs : List α) : blsOf (xs.map fun x => .bl (p x)) = some (xs.map p) := by
  rw [← blsOf_map, List.map_map]; rfl
theorem intsOf_mapF {α : Type} (p : α → Int) (xs : List α) : intsOf (xs.map fun x => .int (p x)) = some (xs.map p) := by
  rw [← intsOf_map, List.map_map]; rfl
@[simp] theorem isiD_lst (xs : List D) : isiD "list" (.lst xs) = some true := rfl
@[simp] theorem isiD_tup (xs : List D) : isiD "tuple" (.tup xs) = some true := rfl
@[simp] theorem isiD_str (x : Str) : isiD "str" (.str x) = some true := rfl
theorem sz63 {n : Nat} (h : n ≤ 1000000) : n ≤ sizeLine := Nat.le_trans h (by rw [sizeLine_eq]; decide)
theorem v_are_sizes (is : List Int) (h : ∀ i ∈ is, 1 ≤ i) (hl : is.length ≤ sizeLine) : g_are_sizes [.fz (iL is)] = some (.val (.bl true), []) := by
  simp -implicitDefEqProofs [g_are_sizes, m_are_sizes, f_are_sizes, hl]
  rw [lcM_mapF D.int (fun i => .bl (decide (1 ≤ i))) (fun i _ => by simp -implicitDefEqProofs [lcTurn, v_is_count]; omega)]
  simp -implicitDefEqProofs [blsOf_mapF]
  exact h
theorem v_check_sizes (is : List Int) (h : ∀ i ∈ is, 1 ≤ i) (hl : is.length ≤ sizeLine) : g_check_sizes [.fz (iL is)] = some (.val .non, []) := by
  simp -implicitDefEqProofs [g_check_sizes, m_check_sizes, f_check_sizes, v_are_sizes is h hl]
theorem v_check_room (r : Int) (h : 0 ≤ r) : g_check_room [.fz (.int r)] = some (.val .non, []) := by
  simp -implicitDefEqProofs [g_check_room, m_check_room, f_check_room, v_is_count, h]
/-! ### the acts -/
/-- the names that the law gives -/
def isNm (x : Str) : Prop := x = "a" ∨ x = "b" ∨ x = "c" ∨ x = "d" ∨ x = "e" ∨ x = "f" ∨ x = "g"
theorem v_is_word (x : Str) (h : isNm x) : g_is_word [.fz (.str x)] = some (.val (.bl true), []) := by
  rcases h with rfl | rfl | rfl | rfl | rfl | rfl | rfl <;> rfl
def aOpen : D := .tup [.str "open"]
def aPut (x : Str) (z b : Int) : D := .tup [.str "put", .str x, .int z, .int b]
theorem v_act_open : g_is_act [.fz aOpen] = some (.val (.bl true), []) := by rfl
theorem v_act_put (x : Str) (z b : Int) (hx : isNm x) (hz : 1 ≤ z) (hb : 0 ≤ b) : g_is_act [.fz (aPut x z b)] = some (.val (.bl true), []) := by
  have e1 : g_is_said [.fz (aPut x z b), .fz (.str "open"), .fz (.int 1)] = some (.val (.bl false), []) := rfl
  have e2 : g_is_said [.fz (aPut x z b), .fz (.str "close"), .fz (.int 2)] = some (.val (.bl false), []) := rfl
  have e3 : g_is_said [.fz (aPut x z b), .fz (.str "put"), .fz (.int 4)] = some (.val (.bl true), []) := rfl
  have d1 : dIx (aPut x z b) (.int 1) = some (.val (.str x)) := rfl
  have d2 : dIx (aPut x z b) (.int 2) = some (.val (.int z)) := rfl
  have d3 : dIx (aPut x z b) (.int 3) = some (.val (.int b)) := rfl
  have e4 := v_is_word x hx
  have c1 : g_is_count [.fz (.int z), .fz (.int 1)] = some (.val (.bl true), []) := by
    rw [v_is_count, decide_eq_true (by omega)]
  have c2 : g_is_count [.fz (.int b), .fz (.int 0)] = some (.val (.bl true), []) := by
    rw [v_is_count, decide_eq_true (by omega)]
  generalize aPut x z b = A at *
  simp -implicitDefEqProofs [g_is_act, m_is_act, f_is_act, e1, e2, e3, d1, d2, d3, e4, c1, c2]
/-! ### the state of a house -/
abbrev TH := List (Str × Int × Int)
def thK (x : Str × Int × Int) : D × D := (.str x.1, .tup [.int x.2.1, .int x.2.2])
def thD (T : TH) : D := .dct false (T.map thK)
def iN (l : List Nat) : List D := l.map fun (i : Nat) => .int i
def stD (room : Int) (k : Nat) (T : TH) : D := .dct false [(.str "room", .int room), (.str "open", .lst (iN (List.range k))), (.str "next", .int k), (.str "things", thD T)]
def sumOf (T : TH) (b : Int) : Int := ((T.filter fun x => decide (x.2.2 = b)).map fun x => x.2.1).sum
section
variable (room : Int) (k : Nat) (T : TH)
theorem ix_room : dIx (stD room k T) (.str "room") = some (.val (.int room)) := rfl
theorem ix_open : dIx (stD room k T) (.str "open") = some (.val (.lst (iN (List.range k)))) := rfl
theorem ix_next : dIx (stD room k T) (.str "next") = some (.val (.int k)) := rfl
theorem ix_things : dIx (stD room k T) (.str "things") = some (.val (thD T)) := rfl
theorem vals_th : valsOf (thD T) = some (T.map fun x => .tup [.int x.2.1, .int x.2.2]) := by
  show some ((T.map thK).map (·.2)) = _
  rw [List.map_map]; rfl
theorem seq_th : seqOf (thD T) = some (T.map fun x => .str x.1) := by
  show some ((T.map thK).map (·.1)) = _
  rw [List.map_map]; rfl
theorem v_spare_of (b : Int) (hl : T.length ≤ 1000) : g_spare_of [.fz (stD room k T), .fz (.int b)] = some (.val (.int (room - sumOf T b)), []) := by
  have e1 := ix_room room k T
  have e2 := ix_things room k T
  have e3 := vals_th T
  have hl2 : T.length ≤ sizeLine := sz63 (by omega)
  have e4 := fun (a : Option SV) => lcM_filterF (vs := [2, 3]) (t := .tp [2, 3]) (c := (fT (fV (fOp2 dEq (fVar 3) (fVar 1))))) (f := fVar 2) (δ := [a, some (.fz (.int b)), none, none]) (fun x : Str × Int × Int => .tup [.int x.2.1, .int x.2.2]) (fun x => decide (x.2.2 = b)) (fun x => .int x.2.1) (xs := T) (fun x hx => by
    by_cases hb : x.2.2 = b <;> simp -implicitDefEqProofs [lcTurn, hb])
  have e5 := intsOf_mapF (fun x : Str × Int × Int => x.2.1) (T.filter fun x => decide (x.2.2 = b))
  generalize stD room k T = S at *
  generalize thD T = TD at *
  unfold sumOf
  simp -implicitDefEqProofs [g_spare_of, m_spare_of, f_spare_of, e1, e2, e3, hl2, e4, e5]
/-- the things stand as the left list says -/
structure Ok (L : List Int) : Prop where
  len : T.length ≤ 7
  k : k = L.length
  k7 : L.length ≤ 7
  sp : ∀ b, b < L.length → room - sumOf T b = lv L b
variable {room k T}
theorem v_fits_there {L : List Int} (h : Ok room k T L) (z : Int) : g_fits_there [.fz (stD room k T), .fz (.int z)] = some (.new (.lst ((spots z L).map fun (i : Nat) => prI (lv L i, (i : Int)))), []) := by
  have e1 := ix_open room k T
  have e2 := fun b => v_spare_of room k T b (Nat.le_trans h.len (by decide))
  have hk := h.k7
  have hl : L.length ≤ sizeLine := sz63 (by omega)
  have h2 : 2 ≤ sizeLine := sz63 (by omega)
  have e4 := lcM_filterF (vs := [2]) (t := .nm 2) (c := (fT (fV (fOp2 dLe (fVar 1) (fV (fCall g_spare_of (fMv (fVar 0) (fMv (fVar 2) (fM0))) [])))))) (f := (fV (fTup (fA (fV (fCall g_spare_of (fMv (fVar 0) (fMv (fVar 2) (fM0))) [])) (fA (fVar 2) (fA0)))))) (δ := [some (.fz (stD room k T)), some (.fz (.int z)), none]) (fun i : Nat => .int i) (fun i => decide (z ≤ lv L i)) (fun i => prI (lv L i, (i : Int))) (xs := List.range L.length) (fun i hi => by
    have hi := List.mem_range.mp hi
    have e3 := e2 i
    rw [h.sp i hi] at e3
    generalize stD room k T = S at *
    by_cases hb : z ≤ lv L i <;> simp -implicitDefEqProofs [lcTurn, hb, e3, h2, prI])
  have hkk := h.k
  subst hkk
  generalize stD room L.length T = S at *
  unfold spots
  simp -implicitDefEqProofs [g_fits_there, m_fits_there, f_fits_there, e1, iN, hl, e4]
end
end K83

set_option Elab.async false
set_option linter.all false
set_option autoImplicit false
set_option maxRecDepth 100000
namespace K83
open PySem PySem.Spec PyProof.Rows L2 L2.Tl
/-! ### a house -/
def hoD (cH : Addr) (rs : List D) (n : Int) : D := .obj cH [("row", .lst rs), ("at", .int n)]
/-- a house at a state -/
def hoS (cH : Addr) (rs : List D) (a S b : D) : D := hoD cH (rs ++ [.tup [a, S, b]]) rs.length
section
variable (cH : Addr) (rs : List D) (a S b : D)
theorem atI_lastN : atI (rs ++ [.tup [a, S, b]]) (rs.length : Int) = some (.tup [a, S, b]) := atK (by simp)
theorem v_state : g_House_state cH [.inp (hoS cH rs a S b)] = some (.val S, [hoS cH rs a S b]) := by
  have e1 := atI_lastN rs a S b
  have e2 : atI [a, S, b] 1 = some S := atK (k := 1) rfl
  have l1 : List.lookup (("row" : Str)) [(("row" : Str), D.lst (rs ++ [.tup [a, S, b]])), (("at" : Str), D.int rs.length)] = some (D.lst (rs ++ [.tup [a, S, b]])) := rfl
  have l2 : List.lookup (("at" : Str)) [(("row" : Str), D.lst (rs ++ [.tup [a, S, b]])), (("at" : Str), D.int rs.length)] = some (D.int rs.length) := rfl
  unfold hoS hoD
  generalize [(("row" : Str), D.lst (rs ++ [.tup [a, S, b]])), (("at" : Str), D.int rs.length)] = fs at *
  simp -implicitDefEqProofs [g_House_state, m_House_state, f_House_state, l1, l2, e1, e2]
theorem v_check_house : g_check_house cH [.inp (hoS cH rs a S b)] = some (.val .non, [hoS cH rs a S b]) := by
  unfold hoS hoD
  simp -implicitDefEqProofs [g_check_house, m_check_house, f_check_house]
theorem v_check_size (z : Int) (hz : 1 ≤ z) : g_check_size cH [.inp (hoS cH rs a S b), .fz (.int z)] = some (.val .non, [hoS cH rs a S b]) := by
  have e1 := v_check_house cH rs a S b
  have c1 : g_is_count [.fz (.int z), .fz (.int 1)] = some (.val (.bl true), []) := by
    rw [v_is_count, decide_eq_true (by omega)]
  generalize hoS cH rs a S b = h at *
  simp -implicitDefEqProofs [g_check_size, m_check_size, f_check_size, e1, c1]
end
end K83

set_option Elab.async false
set_option linter.all false
set_option autoImplicit false
set_option maxRecDepth 100000
namespace K83
open PySem PySem.Spec PyProof.Rows L2 L2.Tl
/-! ### where a rule puts a thing -/
theorem ho_no (rs : List D) (a S b : D) : (let fs := [(("row" : Str), D.lst (rs ++ [.tup [a, S, b]])), (("at" : Str), D.int rs.length)]
    List.lookup (("state" : Str)) fs = none ∧ List.lookup (("do" : Str)) fs = none ∧ List.lookup (("boxes" : Str)) fs = none ∧ List.lookup (("spares" : Str)) fs = none ∧ List.lookup (("row" : Str)) fs = some (.lst (rs ++ [.tup [a, S, b]])) ∧ List.lookup (("at" : Str)) fs = some (.int rs.length)) := ⟨rfl, rfl, rfl, rfl, rfl, rfl⟩
def resO : Option Nat → D
  | some b => .int b
  | none => .non
theorem plain_prs (f : Nat → Int) (l : List Nat) : plainL (l.map fun (i : Nat) => prI (f i, (i : Int))) = true := plainL_of fun x hx => by
  obtain ⟨i, _, rfl⟩ := List.mem_map.mp hx
  rfl
theorem spots_len (z : Int) (L : List Int) : (spots z L).length ≤ L.length := by
  have := List.length_filter_le (fun i => decide (z ≤ lv L i)) (List.range L.length)
  simpa [spots] using this
section
variable (cH : Addr) (rs : List D) (a b : D) {room : Int} {k : Nat} {T : TH} {L : List Int}
theorem v_which_fit (h : Ok room k T L) (z : Int) (hz : 1 ≤ z) : g_which_fit cH [.inp (hoS cH rs a (stD room k T) b), .fz (.int z)] = some (.new (.lst (iN (spots z L))), [hoS cH rs a (stD room k T) b]) := by
  have e1 := v_check_size cH rs a (stD room k T) b z hz
  have e2 := v_state cH rs a (stD room k T) b
  have e3 := v_fits_there h z
  have hk := h.k7
  have hl : (spots z L).length ≤ sizeLine := sz63 (by have := spots_len z L; omega)
  have e4 := fun (x y : Option SV) => lcM_mapF (vs := [2, 3]) (t := .tp [2, 3]) (c := fYes) (f := fVar 3) (δ := [x, y, none, none]) (fun i : Nat => prI (lv L i, (i : Int))) (fun i => .int i) (xs := spots z L) (fun i hi => by
    simp -implicitDefEqProofs [lcTurn, prI])
  have l0 := ho_no rs a (stD room k T) b
  unfold hoS hoD at *
  generalize [(("row" : Str), D.lst (rs ++ [.tup [a, stD room k T, b]])), (("at" : Str), D.int rs.length)] = fs at *
  generalize stD room k T = S at *
  have l1 := l0.1
  simp -implicitDefEqProofs [g_which_fit, m_which_fit, f_which_fit, e1, e2, e3, e4, l1, hl, iN]
theorem v_first_fit (h : Ok room k T L) (z : Int) (hz : 1 ≤ z) : g_first_fit cH [.inp (hoS cH rs a (stD room k T) b), .fz (.int z)] = some (.val (resO (boxO .fi z L)), [hoS cH rs a (stD room k T) b]) := by
  have e1 := v_which_fit cH rs a b h z hz
  have hp : plainL (iN (spots z L)) = true := plainL_of fun x hx => by
    obtain ⟨i, _, rfl⟩ := List.mem_map.mp hx
    rfl
  have e2 := dNe_nil hp
  generalize hoS cH rs a (stD room k T) b = hh at *
  cases hs : spots z L with
  | nil =>
    rw [hs] at e1 e2
    simp -implicitDefEqProofs [g_first_fit, m_first_fit, f_first_fit, e1, e2, iN, boxO, hs, resO]
    simp -implicitDefEqProofs [iN] at e2
    simp -implicitDefEqProofs [e2]
  | cons i is =>
    rw [hs] at e1 e2
    have e3 : atI (iN (i :: is)) 0 = some (.int i) := atK (k := 0) rfl
    have e4 : (iN (i :: is)).isEmpty = false := rfl
    rw [e4] at e2
    generalize iN (i :: is) = II at *
    simp -implicitDefEqProofs [g_first_fit, m_first_fit, f_first_fit, e1, e2, e3, boxO, hs, resO]
theorem v_best_fit (h : Ok room k T L) (z : Int) (hz : 1 ≤ z) : g_best_fit cH [.inp (hoS cH rs a (stD room k T) b), .fz (.int z)] = some (.val (resO (boxO .be z L)), [hoS cH rs a (stD room k T) b]) := by
  have e1 := v_check_size cH rs a (stD room k T) b z hz
  have e2 := v_state cH rs a (stD room k T) b
  have e3 := v_fits_there h z
  have e4 := dNe_nil (plain_prs (lv L) (spots z L))
  have l0 := ho_no rs a (stD room k T) b
  unfold hoS hoD at *
  generalize [(("row" : Str), D.lst (rs ++ [.tup [a, stD room k T, b]])), (("at" : Str), D.int rs.length)] = fs at *
  generalize stD room k T = S at *
  have l1 := l0.1
  have hp := spots_inc z L
  cases hs : spots z L with
  | nil =>
    rw [hs] at e3 e4
    simp -implicitDefEqProofs at e3 e4
    simp -implicitDefEqProofs [g_best_fit, m_best_fit, f_best_fit, e1, e2, e3, e4, l1, boxO, hs, argO, resO]
  | cons i is =>
    rw [hs] at e3 e4 hp
    have e5 : gMinP [.lst ((i :: is).map fun (i : Nat) => prI (lv L i, (i : Int)))] = some (.val (prI (lv L (arg (kb L) i is), ((arg (kb L) i is : Nat) : Int)))) := by
      have q1 := pairsI_map ((i :: is).map fun (i : Nat) => (lv L i, (i : Int)))
      rw [List.map_map] at q1
      have q2 := minP_arg (kb L) is i hp
      show ((pairsI ((i :: is).map (prI ∘ fun (i : Nat) => (lv L i, (i : Int))))).bind _) = _
      rw [q1]
      show some (OV.val (prI (minP (kb L i, (i : Int)) (is.map fun (i : Nat) => (kb L i, (i : Int)))))) = _
      rw [q2]
      rfl
    have e6 : ((i :: is).map fun (i : Nat) => prI (lv L i, (i : Int))).isEmpty = false := rfl
    have e7 : ∀ x y : Int, dIx (prI (x, y)) (.int 1) = some (.val (.int y)) := fun x y => rfl
    rw [e6] at e4
    generalize (i :: is).map (fun (i : Nat) => prI (lv L i, (i : Int))) = II at *
    simp -implicitDefEqProofs [g_best_fit, m_best_fit, f_best_fit, e1, e2, e3, e4, l1, e5, e7, boxO, hs, argO, resO]
theorem v_widest_fit (h : Ok room k T L) (z : Int) (hz : 1 ≤ z) : g_widest_fit cH [.inp (hoS cH rs a (stD room k T) b), .fz (.int z)] = some (.val (resO (boxO .wo z L)), [hoS cH rs a (stD room k T) b]) := by
  have e1 := v_check_size cH rs a (stD room k T) b z hz
  have e2 := v_state cH rs a (stD room k T) b
  have e3 := v_fits_there h z
  have e4 := dNe_nil (plain_prs (kw L) (spots z L))
  have l0 := ho_no rs a (stD room k T) b
  have hk := h.k7
  have hl : (spots z L).length ≤ sizeLine := sz63 (by have := spots_len z L; omega)
  have h2 : 2 ≤ sizeLine := sz63 (by omega)
  have e8 := fun (x y : Option SV) => lcM_mapF (vs := [3, 4]) (t := .tp [3, 4]) (c := fYes) (f := (fV (fTup (fA (fV (fOp2 dSub (fC (.int 0)) (fVar 3))) (fA (fVar 4) (fA0)))))) (δ := [x, y, none, none, none]) (fun i : Nat => prI (lv L i, (i : Int))) (fun i => prI (kw L i, (i : Int))) (xs := spots z L) (fun i hi => by
    simp -implicitDefEqProofs [lcTurn, prI, h2, kw])
  unfold hoS hoD at *
  generalize [(("row" : Str), D.lst (rs ++ [.tup [a, stD room k T, b]])), (("at" : Str), D.int rs.length)] = fs at *
  generalize stD room k T = S at *
  have l1 := l0.1
  have hp := spots_inc z L
  have hbx : boxO .wo z L = argO (kw L) (spots z L) := rfl
  rw [hbx]
  generalize spots z L = sp at *
  cases sp with
  | nil =>
    simp -implicitDefEqProofs at e3 e4 e8
    simp -implicitDefEqProofs [g_widest_fit, m_widest_fit, f_widest_fit, e1, e2, e3, e4, e8, l1, argO, resO]
  | cons i is =>
    have e5 : gMinP [.lst ((i :: is).map fun (i : Nat) => prI (kw L i, (i : Int)))] = some (.val (prI (kw L (arg (kw L) i is), ((arg (kw L) i is : Nat) : Int)))) := by
      have q1 := pairsI_map ((i :: is).map fun (i : Nat) => (kw L i, (i : Int)))
      rw [List.map_map] at q1
      have q2 := minP_arg (kw L) is i hp
      show ((pairsI ((i :: is).map (prI ∘ fun (i : Nat) => (kw L i, (i : Int))))).bind _) = _
      rw [q1]
      show some (OV.val (prI (minP (kw L i, (i : Int)) (is.map fun (i : Nat) => (kw L i, (i : Int)))))) = _
      rw [q2]
    have e6 : ((i :: is).map fun (i : Nat) => prI (kw L i, (i : Int))).isEmpty = false := rfl
    have e7 : ∀ x y : Int, dIx (prI (x, y)) (.int 1) = some (.val (.int y)) := fun x y => rfl
    have e9 : ((i :: is).map fun (i : Nat) => prI (lv L i, (i : Int))).length ≤ sizeLine := by simpa using hl
    rw [e6] at e4
    generalize (i :: is).map (fun (i : Nat) => prI (kw L i, (i : Int))) = II at *
    generalize (i :: is).map (fun (i : Nat) => prI (lv L i, (i : Int))) = IJ at *
    simp -implicitDefEqProofs [g_widest_fit, m_widest_fit, f_widest_fit, e1, e2, e3, e4, l1, e5, e7, e8, e9, argO, resO]
end
end K83

set_option Elab.async false
set_option linter.all false
set_option autoImplicit false
set_option maxRecDepth 100000
namespace K83
open PySem PySem.Spec PyProof.Rows L2 L2.Tl
/-! ### dicts with ints as keys -/
def encR (ks : List Int) (g : Int → D) : D := .dct false (ks.map fun k => (.int k, g k))
@[simp] theorem kEq_int (i j : Int) : kEq (.int i) (.int j) = decide (i = j) := kEq_kD (.inl i) (.inl j) |>.trans (by simp)
theorem any_key (ks : List Int) (g : Int → D) (k : Int) : ((ks.map fun x => (D.int x, g x)).any fun kv => kEq kv.1 (.int k)) = decide (k ∈ ks) := by
  induction ks with
  | nil => simp
  | cons x ks ih =>
    simp only [List.map_cons, List.any_cons, kEq_int, ih]
    by_cases h : x = k
    · subst h; simp
    · simp [h, Ne.symm h]
theorem kvGet_R (ks : List Int) (g : Int → D) (k : Int) : kvGet (ks.map fun x => (D.int x, g x)) (.int k) = if k ∈ ks then some (g k) else none := by
  unfold kvGet
  induction ks with
  | nil => simp
  | cons x ks ih =>
    simp only [List.map_cons, List.find?_cons, kEq_int]
    by_cases h : x = k
    · subst h; simp
    · simp [h, Ne.symm h]
      simpa using ih
theorem dIx_R {ks : List Int} {g : Int → D} {k : Int} (h : k ∈ ks) : dIx (encR ks g) (.int k) = some (.val (g k)) := by
  show (if isKey false (.int k) = true then (kvGet (ks.map fun x => (D.int x, g x)) (.int k)).map OV.val else none) = _
  rw [if_pos (show isKey false (.int k) = true from rfl), kvGet_R, if_pos h]
  rfl
theorem kvMerge_nd (g : Int → D) : ∀ (ks : List Int) (done : List Int), (done ++ ks).Nodup → kvMerge (done.map fun x => (D.int x, g x)) (ks.map fun x => (D.int x, g x)) = (done ++ ks).map fun x => (D.int x, g x)
  | [], done, _ => by simp [kvMerge]
  | k :: ks, done, h => by
    have hk : k ∉ done := fun hm => by
      have := (List.nodup_append.mp h).2.2 k hm k (by simp)
      exact this rfl
    have e : kvPut (done.map fun x => (D.int x, g x)) (.int k) (g k) = (done ++ [k]).map fun x => (D.int x, g x) := by
      unfold kvPut
      rw [any_key, if_neg (by simpa using hk)]
      simp
    show kvMerge (kvPut _ _ _) _ = _
    rw [e, kvMerge_nd g ks (done ++ [k]) (by simpa using h)]
    simp
theorem kvMerge_R {ks : List Int} (g : Int → D) (h : ks.Nodup) : kvMerge [] (ks.map fun x => (D.int x, g x)) = ks.map fun x => (D.int x, g x) := by
  simpa using kvMerge_nd g ks [] (by simpa using h)
/-- 0 .. k - 1 -/
def rI (k : Nat) : List Int := (List.range k).map fun (i : Nat) => (i : Int)
theorem rI_nd (k : Nat) : (rI k).Nodup := by
  unfold rI
  rw [List.Nodup, List.pairwise_map]
  exact List.nodup_range.imp fun h => by simp; omega
theorem mem_rI {k : Nat} {i : Int} : i ∈ rI k ↔ 0 ≤ i ∧ i < k := by
  simp only [rI, List.mem_map, List.mem_range]
  constructor
  · rintro ⟨a, h, rfl⟩; omega
  · rintro ⟨h1, h2⟩; exact ⟨i.toNat, by omega, by omega⟩
theorem rI_inc (k : Nat) : (rI k).Pairwise (· < ·) := by
  unfold rI
  rw [List.pairwise_map]
  exact List.pairwise_lt_range.imp fun h => by simp; omega
theorem rI_len (k : Nat) : (rI k).length = k := by simp [rI]
theorem iN_range (k : Nat) : iN (List.range k) = (rI k).map .int := by simp [iN, rI]
theorem sortI_inc {l : List Int} (h : l.Pairwise (· < ·)) : sortI l = l := List.mergeSort_of_pairwise (h.imp fun h => by simp; omega)
theorem rI_max (k : Nat) : (rI k ++ [(-1 : Int)]).max? = some ((k : Int) - 1) := by
  refine List.max?_eq_some_iff.mpr ⟨?_, fun b hb => ?_⟩
  · rw [List.mem_append, mem_rI]
    by_cases h : k = 0
    · subst h; right; simp
    · left; omega
  · rw [List.mem_append, mem_rI] at hb
    rcases hb with hb | hb
    · omega
    · simp at hb; omega
section
variable (cH : Addr) (rs : List D) (a b : D) {room : Int} {k : Nat} {T : TH} {L : List Int}
theorem v_spares (h : Ok room k T L) : g_House_spares cH [.inp (hoS cH rs a (stD room k T) b)] = some (.new (encR (rI L.length) fun i => .int (lv L i.toNat)), [hoS cH rs a (stD room k T) b]) := by
  have e2 := v_state cH rs a (stD room k T) b
  have l0 := ho_no rs a (stD room k T) b
  have e1 := ix_open room k T
  have e3 := fun b => v_spare_of room k T b (Nat.le_trans h.len (by decide))
  have hk := h.k7
  have hkk := h.k
  subst hkk
  have hl : L.length ≤ sizeLine := sz63 (by omega)
  rw [iN_range] at e1
  have hsp : ∀ i : Int, i ∈ rI L.length → room - sumOf T i = lv L i.toNat := fun i hi => by
    rw [mem_rI] at hi
    rw [← h.sp i.toNat (by omega), Int.toNat_of_nonneg hi.1]
  have hh : List.lookup (("state" : Str)) [(("row" : Str), D.lst (rs ++ [.tup [a, stD room L.length T, b]])), (("at" : Str), D.int rs.length)] = none := l0.1
  unfold hoS hoD at *
  generalize [(("row" : Str), D.lst (rs ++ [.tup [a, stD room L.length T, b]])), (("at" : Str), D.int rs.length)] = fs at *
  generalize stD room L.length T = S at *
  have e4 := fun (x : Option SV) => dcM_mapF (vs := [2]) (t := .nm 2) (c := fYes) (fk := fVar 2) (fv := (fV (fCall g_spare_of (fMv (fVar 1) (fMv (fVar 2) (fM0))) []))) (δ := [x, some (.fz S), none]) D.int (fun i => (.int i, .int (lv L i.toNat))) (xs := rI L.length) (acc := []) (fun i hi => by
    have e5 := e3 i
    rw [hsp i hi] at e5
    simp -implicitDefEqProofs [dcTurn, isKey1, e5])
  have e6 := kvMerge_R (fun i => .int (lv L i.toNat)) (rI_nd L.length)
  have e7 := rI_len L.length
  have hl2 : (rI L.length).length ≤ sizeLine := by rw [e7]; exact hl
  unfold encR
  generalize rI L.length = RI at *
  simp -implicitDefEqProofs [g_House_spares, m_House_spares, f_House_spares, e1, e2, hh, e4, e6, hl2]
theorem v_spot_nx (h : Ok room k T L) (z : Int) (hz : 1 ≤ z) : g__law_spot cH [.inp (hoS cH rs a (stD room k T) b), .fz (.str "next"), .fz (.int z)] = some (.val (resO (boxO .nx z L)), [hoS cH rs a (stD room k T) b]) := by
  have e1 := v_spares cH rs a b h
  have l0 : List.lookup (("spares" : Str)) [(("row" : Str), D.lst (rs ++ [.tup [a, stD room k T, b]])), (("at" : Str), D.int rs.length)] = none := rfl
  have hk := h.k7
  have h1 : 1 ≤ sizeLine := sz63 (by omega)
  have hl2 : (rI L.length).length + 1 ≤ sizeLine := by rw [rI_len]; exact sz63 (by omega)
  have e2 : gSorted [encR (rI L.length) fun i => .int (lv L i.toNat)] = some (.new (iL (rI L.length))) := by
    show (intsOf (((rI L.length).map fun k => (D.int k, D.int (lv L k.toNat))).map (·.1))).map _ = _
    rw [List.map_map, show ((·.1) ∘ fun k => (D.int k, D.int (lv L k.toNat))) = D.int from rfl, intsOf_map]
    simp only [Option.map_some, sortI_inc (rI_inc L.length)]
  have e3 := rI_max L.length
  have e4 : ∀ j, j ∈ rI L.length → dIx (encR (rI L.length) fun i => .int (lv L i.toNat)) (.int j) = some (.val (.int (lv L j.toNat))) := fun j hj => dIx_R hj
  have d1 : dEq (.str "next") (.str "first") = some (.val (.bl false)) := rfl
  have d2 : dEq (.str "next") (.str "best") = some (.val (.bl false)) := rfl
  have d3 : dEq (.str "next") (.str "worst") = some (.val (.bl false)) := rfl
  have e5 : ∀ j, j ∈ rI L.length ↔ 0 ≤ j ∧ j < L.length := fun j => mem_rI
  unfold hoS hoD at *
  generalize [(("row" : Str), D.lst (rs ++ [.tup [a, stD room k T, b]])), (("at" : Str), D.int rs.length)] = fs at *
  generalize encR (rI L.length) (fun i => .int (lv L i.toNat)) = EN at *
  generalize rI L.length = RI at *
  have hi := intsOf_map (RI ++ [-1])
  rw [List.map_append, List.map_cons, List.map_nil] at hi
  by_cases hL : L = []
  · have : boxO .nx z L = none := by simp [boxO, hL]
    rw [this]
    subst hL
    simp -implicitDefEqProofs [g__law_spot, m__law_spot, f__law_spot, d1, d2, d3, e1, e2, l0, h1, hl2, hi, e3, resO]
  · have hpos : 0 < L.length := List.length_pos_iff.mpr hL
    have e6 := e4 ((L.length : Int) - 1) ((e5 _).mpr (by omega))
    rw [show ((L.length : Int) - 1).toNat = L.length - 1 by omega] at e6
    have e7 : (1 : Int) ≤ (L.length : Int) := by omega
    have e8 : ((L.length : Int) - 1) = ((L.length - 1 : Nat) : Int) := by omega
    rw [e8] at e3 e6
    have hbo : boxO .nx z L = if z ≤ lv L (L.length - 1) then some (L.length - 1) else none := by simp [boxO, hL]
    rw [hbo]
    clear e8 e7
    generalize L.length - 1 = m at *
    have e7 : (0 : Int) ≤ (m : Int) := by omega
    by_cases hz2 : z ≤ lv L m
    · rw [if_pos hz2]
      simp -implicitDefEqProofs [g__law_spot, m__law_spot, f__law_spot, d1, d2, d3, e1, e2, l0, h1, hl2, hi, e3, resO, e6, e7, hz2]
    · rw [if_neg hz2]
      simp -implicitDefEqProofs [g__law_spot, m__law_spot, f__law_spot, d1, d2, d3, e1, e2, l0, h1, hl2, hi, e3, resO, e6, e7, hz2]
theorem v_spot (r : R) (h : Ok room k T L) (z : Int) (hz : 1 ≤ z) : g__law_spot cH [.inp (hoS cH rs a (stD room k T) b), .fz (.str r.s), .fz (.int z)] = some (.val (resO (boxO r z L)), [hoS cH rs a (stD room k T) b]) := by
  have e1 := v_first_fit cH rs a b h z hz
  have e2 := v_best_fit cH rs a b h z hz
  have e3 := v_widest_fit cH rs a b h z hz
  have d1 : dEq (.str "first") (.str "first") = some (.val (.bl true)) := rfl
  have d2 : dEq (.str "best") (.str "first") = some (.val (.bl false)) := rfl
  have d3 : dEq (.str "best") (.str "best") = some (.val (.bl true)) := rfl
  have d4 : dEq (.str "worst") (.str "first") = some (.val (.bl false)) := rfl
  have d5 : dEq (.str "worst") (.str "best") = some (.val (.bl false)) := rfl
  have d6 : dEq (.str "worst") (.str "worst") = some (.val (.bl true)) := rfl
  cases r with
  | nx => exact v_spot_nx cH rs a b h z hz
  | fi =>
    generalize hoS cH rs a (stD room k T) b = hh at *
    simp -implicitDefEqProofs [g__law_spot, m__law_spot, f__law_spot, d1, e1, R.s]
  | be =>
    generalize hoS cH rs a (stD room k T) b = hh at *
    simp -implicitDefEqProofs [g__law_spot, m__law_spot, f__law_spot, d2, d3, e2, R.s]
  | wo =>
    generalize hoS cH rs a (stD room k T) b = hh at *
    simp -implicitDefEqProofs [g__law_spot, m__law_spot, f__law_spot, d4, d5, d6, e3, R.s]
end
end K83

set_option Elab.async false
set_option linter.all false
set_option autoImplicit false
set_option maxRecDepth 100000
namespace K83
open PySem PySem.Spec PyProof.Rows L2 L2.Tl
/-! ### box_there -/
theorem enumD_from : ∀ (l : List Int) (n : Nat), enumD n (l.map D.int) = (List.range l.length).map fun (i : Nat) => .tup [.int ((n + i : Nat) : Int), .int (lv l i)]
  | [], _ => rfl
  | x :: l, n => by
    rw [List.map_cons, List.length_cons, List.range_succ_eq_map, List.map_cons, List.map_map]
    show D.tup [.int (n : Int), .int x] :: enumD (n + 1) (l.map D.int) = _
    rw [enumD_from l (n + 1)]
    rw [show (D.int (n : Int)) = .int ((n + 0 : Nat) : Int) from rfl]
    refine congrArg _ (List.map_congr_left fun i _ => ?_)
    show D.tup [.int ((n + 1 + i : Nat) : Int), .int (lv l i)] = D.tup [.int ((n + (i + 1) : Nat) : Int), .int (lv (x :: l) (i + 1))]
    rw [show n + 1 + i = n + (i + 1) by omega]
    rfl
theorem atI_lv {L : List Int} {i : Nat} (h : i < L.length) : atI (L.map D.int) (i : Int) = some (.int (lv L i)) := atK (by simp [lv, h])
theorem dEq_R (r : R) : dEq (.str r.s) (.str "next") = some (.val (.bl (decide (r = .nx)))) ∧ dEq (.str r.s) (.str "first") = some (.val (.bl (decide (r = .fi)))) ∧ dEq (.str r.s) (.str "best") = some (.val (.bl (decide (r = .be)))) := by
  cases r <;> exact ⟨rfl, rfl, rfl⟩
theorem intsL (l : List Nat) : intsOf (iN l) = some (l.map fun (i : Nat) => (i : Int)) := intsOf_mapF (fun i : Nat => (i : Int)) l
/-- the first of the fitting ones with the least key stands first in the list -/
theorem arg_idx {z : Int} {L : List Int} {i : Nat} {is : List Nat} (hs : spots z L = i :: is) (key : Int → Int) (hk : ∀ x y, key x ≤ key y ∧ key y ≤ key x → x = y) (f : Nat → Int) (hf : ∀ j, f j = key (lv L j)) : L.idxOf (lv L (arg f i is)) = arg f i is := by
  obtain ⟨a1, a2, a3⟩ := arg_spec f is i (hs ▸ spots_inc z L)
  rw [← hs] at a1 a2 a3
  obtain ⟨m1, m2⟩ := mem_spots.mp a1
  refine idx_is m1 rfl fun j hj e => ?_
  have hm : j ∈ spots z L := mem_spots.mpr ⟨by omega, by omega⟩
  have := a3 j hm hj
  rw [hf, hf, e] at this
  omega
theorem v_box_there (r : R) (z : Int) (L : List Int) (hl : L.length ≤ 7) : g_box_there [.fz (.str r.s), .fz (.int z), .fz (iL L)] = some (.val (.int (boxN r z L)), []) := by
  obtain ⟨d1, d2, d3⟩ := dEq_R r
  have hl2 : L.length ≤ sizeLine := sz63 (by omega)
  have hl3 : (spots z L).length ≤ sizeLine := sz63 (by have := spots_len z L; omega)
  have en : gEnum [iL L] = some ((List.range L.length).map fun (i : Nat) => .tup [.int (i : Int), .int (lv L i)]) := by
    show some (enumD 0 (L.map D.int)) = _
    rw [enumD_from]
    refine congrArg some (List.map_congr_left fun i _ => ?_)
    simp
  have e1 := fun (x y : Option SV) => lcM_filterF (vs := [4, 5]) (t := .tp [4, 5]) (c := (fT (fV (fOp2 dLe (fVar 1) (fVar 5))))) (f := fVar 4) (δ := [x, some (.fz (.int z)), y, none, none, none]) (fun i : Nat => .tup [.int (i : Int), .int (lv L i)]) (fun i => decide (z ≤ lv L i)) (fun i => .int i) (xs := List.range L.length) (fun i hi => by
    by_cases hb : z ≤ lv L i <;> simp -implicitDefEqProofs [lcTurn, hb])
  have hsp : ((List.range L.length).filter fun i => decide (z ≤ lv L i)) = spots z L := rfl
  rw [hsp] at e1
  have e2 := fun (x y : Option SV) => lcM_mapF (vs := [4]) (t := .nm 4) (c := fYes) (f := (fV (fOp2 dIx (fVar 2) (fVar 4)))) (δ := [x, y, some (.fz (iL L)), some (.fz (.lst (iN (spots z L)))), none, none]) (fun i : Nat => .int i) (fun i => .int (lv L i)) (xs := spots z L) (fun i hi => by
    simp -implicitDefEqProofs [lcTurn, atI_lv (mem_spots.mp hi).1])
  have e3 : intsOf ((spots z L).map fun i => D.int (lv L i)) = some ((spots z L).map (lv L)) := intsOf_mapF _ _
  have e4 := dEq_nil (xs := iN (spots z L)) (plainL_of fun x hx => by
    obtain ⟨i, _, rfl⟩ := List.mem_map.mp hx
    rfl)
  have e5 : dNe (iL L) (.lst []) = some (.val (.bl (!L.isEmpty))) := by
    rw [dNe_nil (plainL_ints L)]
    simp
  have hin := spots_inc z L
  have e6 : ∀ a, a ∈ L → gIndex (iL L) [.int a] = some (.int (L.idxOf a : Nat)) := fun a ha => by
    show ((intsOf (L.map D.int)).bind fun is => if a ∈ is then some (D.int (is.idxOf a : Nat)) else none) = _
    rw [intsOf_map]
    simp [ha]
  have hlvm : ∀ i, i < L.length → lv L i ∈ L := fun i hi => by
    have : lv L i = L[i] := by simp [lv, hi]
    rw [this]; exact List.getElem_mem hi
  have hlast : L ≠ [] → atI (L.map D.int) (-1) = some (.int (lv L (L.length - 1))) := fun hL => by
    have hpos : 0 < L.length := List.length_pos_iff.mpr hL
    refine atI_last ?_
    rw [List.getLast?_eq_getElem?]
    rw [List.length_map, List.getElem?_map, List.getElem?_eq_getElem (by omega : L.length - 1 < L.length)]
    show some (D.int _) = some (D.int (L.getD (L.length - 1) 0))
    rw [List.getD_eq_getElem?_getD, List.getElem?_eq_getElem (by omega : L.length - 1 < L.length)]
    rfl
  have h1 : 1 ≤ sizeLine := sz63 (by omega)
  unfold boxN
  by_cases hr : r = .nx
  · rw [decide_eq_true hr] at d1
    subst hr
    generalize R.s .nx = rs at *
    generalize (spots z L).map (fun (i : Nat) => D.int (i : Int)) = Q1 at *
    by_cases hL : L = []
    · subst hL
      have e5' : dNe (iL []) (.lst []) = some (.val (.bl false)) := rfl
      have : boxO .nx z [] = none := by simp [boxO]
      rw [this]
      simp -implicitDefEqProofs at en e1
      simp -implicitDefEqProofs [g_box_there, m_box_there, f_box_there, en, e1, d1, e5']
    · have hLe : L.isEmpty = false := by simpa using hL
      rw [hLe] at e5
      have hpos : 0 < L.length := List.length_pos_iff.mpr hL
      have hla := hlast hL
      have hbo : boxO .nx z L = if z ≤ lv L (L.length - 1) then some (L.length - 1) else none := by simp [boxO, hL]
      have e8 : ((L.length : Int) - 1) = ((L.length - 1 : Nat) : Int) := by omega
      rw [hbo]
      by_cases hz2 : z ≤ lv L (L.length - 1)
      · rw [if_pos hz2]
        simp -implicitDefEqProofs [g_box_there, m_box_there, f_box_there, en, e1, d1, e5, hla, hl2, hz2]
        exact e8
      · rw [if_neg hz2]
        simp -implicitDefEqProofs [g_box_there, m_box_there, f_box_there, en, e1, d1, e5, hla, hl2, hz2]
  · rw [decide_eq_false hr] at d1
    have hx : ∀ sp, spots z L = sp → sp = [] ∨ ∃ i is, sp = i :: is := fun sp _ => by
      cases sp with
      | nil => exact .inl rfl
      | cons i is => exact .inr ⟨i, is, rfl⟩
    rcases hx _ rfl with hs | ⟨i, is, hs⟩
    · have hbo : boxO r z L = none := by cases r <;> simp [boxO, hs, argO] at hr ⊢
      rw [hs] at e1 e4
      have e4' : dEq (.lst []) (.lst []) = some (.val (.bl true)) := rfl
      rw [hbo]
      simp -implicitDefEqProofs at e1
      simp -implicitDefEqProofs [g_box_there, m_box_there, f_box_there, en, e1, d1, hl2, e4']
    · have hin2 := hs ▸ hin
      have e4' : dEq (.lst (iN (i :: is))) (.lst []) = some (.val (.bl false)) := by rw [hs] at e4; exact e4
      have e7 : atI (iN (i :: is)) 0 = some (.int i) := atK (k := 0) rfl
      have hq : (spots z L).map (fun (i : Nat) => D.int i) = iN (i :: is) := by rw [hs]; rfl
      rw [hq] at e1 e2
      have hl4 : (iN (i :: is)).length ≤ sizeLine := by rw [← hq]; simpa using hl3
      have hq2 : iN (spots z L) = iN (i :: is) := by rw [hs]
      rw [hq2] at e2
      obtain ⟨b1, b2, b3⟩ := arg_spec (kb L) is i hin2
      obtain ⟨w1, w2, w3⟩ := arg_spec (kw L) is i hin2
      have m1 := (mem_spots.mp (hs ▸ b1)).1
      have m2 := (mem_spots.mp (hs ▸ w1)).1
      have mn : ((spots z L).map (lv L)).min? = some (lv L (arg (kb L) i is)) := List.min?_eq_some_iff.mpr ⟨List.mem_map.mpr ⟨_, hs ▸ b1, rfl⟩, fun b hb => by
        obtain ⟨j, hj, rfl⟩ := List.mem_map.mp hb
        exact b2 j (hs ▸ hj)⟩
      have mx : ((spots z L).map (lv L)).max? = some (lv L (arg (kw L) i is)) := List.max?_eq_some_iff.mpr ⟨List.mem_map.mpr ⟨_, hs ▸ w1, rfl⟩, fun b hb => by
        obtain ⟨j, hj, rfl⟩ := List.mem_map.mp hb
        have := w2 j (hs ▸ hj)
        have q : ∀ x, kw L x = 0 - lv L x := fun _ => rfl
        rw [q, q] at this
        omega⟩
      have i1 := e6 _ (hlvm _ m1)
      have i2 := e6 _ (hlvm _ m2)
      rw [arg_idx hs id (fun x y h => by simp at h; omega) (kb L) fun j => rfl] at i1
      rw [arg_idx hs (fun x => 0 - x) (fun x y h => by omega) (kw L) fun j => rfl] at i2
      generalize (spots z L).map (fun i => D.int (lv L i)) = Q2 at *
      generalize iN (i :: is) = Q3 at *
      have hne : ∀ x : Int, dEq (.int x) (.int x) = some (.val (.bl true)) := fun x => by simp
      generalize R.s r = rss at *
      cases r with
      | nx => exact absurd rfl hr
      | fi =>
        have hbo : boxO .fi z L = some i := by simp [boxO, hs]
        rw [hbo]
        simp -implicitDefEqProofs at d2
        simp -implicitDefEqProofs [g_box_there, m_box_there, f_box_there, en, e1, d1, hl2, e4', d2, e7]
      | be =>
        have hbo : boxO .be z L = some (arg (kb L) i is) := by simp [boxO, hs, argO]
        rw [hbo]
        simp -implicitDefEqProofs at d2 d3
        simp -implicitDefEqProofs [g_box_there, m_box_there, f_box_there, en, e1, d1, hl2, e4', d2, e2, d3, e3, mn, i1, hl4]
      | wo =>
        have hbo : boxO .wo z L = some (arg (kw L) i is) := by simp [boxO, hs, argO]
        rw [hbo]
        simp -implicitDefEqProofs at d2 d3
        simp -implicitDefEqProofs [g_box_there, m_box_there, f_box_there, en, e1, d1, hl2, e4', d2, e2, d3, e3, mx, i2, hl4]
end K83

set_option Elab.async false
set_option linter.all false
set_option autoImplicit false
set_option maxRecDepth 100000
namespace K83
open PySem PySem.Spec PyProof.Rows L2 L2.Tl
/-! ### boxes_there -/
@[simp] theorem sAugS_eq (i : Nat) (fi f : Fe) (g : D → D → Option OV) (δ : Dl) : sAugS i fi g f δ = (rootAt i δ).bind fun _ => (fi δ).bind fun p => (peek p.1 p.2).bind fun y => (rootAt i p.2).bind fun d1 => match dIxL d1 y with
  | some (.val x) => (f p.2).bind fun q => (peek q.1 q.2).bind fun z => match g x z with
    | some (.val w) => (peek p.1 q.2).bind fun y' => (rootAt i q.2).bind fun d => (dSto d y' w).map fun d' => (.next, setRoot i d' q.2)
    | _ => none
  | _ => none := rfl
theorem dMul_lst (xs : List D) (k : Int) : dMul (.lst xs) (.int k) = if k < 2 ^ 60 ∧ -(2 ^ 60) < k ∧ xs.length * k.toNat ≤ sizeLine then some (.new (.lst (List.replicate k.toNat xs).flatten)) else none := rfl
theorem dMul_zero (s : Nat) (h : s ≤ 1000) : dMul (.lst [.int 0]) (.int s) = some (.new (.lst (List.replicate s (.int 0)))) := by
  have hc : (s : Int) < 2 ^ 60 ∧ -(2 ^ 60) < (s : Int) ∧ [D.int 0].length * (s : Int).toNat ≤ sizeLine := by
    refine ⟨by omega, by omega, ?_⟩
    rw [sizeLine_eq]
    simp
    omega
  rw [dMul_lst, if_pos hc]
  simp
theorem ixN_of {n k : Nat} (h : k < n) : ixN n (k : Int) = some k := by
  unfold ixN
  rw [if_pos (Int.natCast_nonneg k), if_pos (by omega)]
  simp
theorem dSto_ints {L : List Int} {b : Nat} (h : b < L.length) (x : Int) : dSto (iL L) (.int (b : Int)) (.int x) = some (iL (L.set b x)) := by
  show (ixN (L.map D.int).length (b : Int)).map _ = _
  rw [List.length_map, ixN_of h]
  show some (D.lst ((L.map D.int).set b (.int x))) = _
  rw [← List.map_set]
/-- the numbers of the boxes, so far -/
def fL (n t : Nat) (f : Nat → Nat) : List Int := (List.range n).map fun i => if i < t then (f i : Int) else 0
theorem fL_set {n t : Nat} (f : Nat → Nat) (h : t < n) : (fL n t f).set t (f t : Int) = fL n (t + 1) f := by
  refine List.ext_getElem? fun i => ?_
  unfold fL
  rw [List.getElem?_set]
  by_cases hi : t = i
  · subst hi
    simp [h]
  · rw [if_neg hi]
    simp only [List.getElem?_map]
    by_cases h2 : i < n
    · rw [List.getElem?_range h2]
      simp only [Option.map_some, Option.some.injEq]
      by_cases h3 : i < t
      · rw [if_pos h3, if_pos (by omega)]
      · rw [if_neg h3, if_neg (by omega)]
    · rw [List.getElem?_eq_none (by simp; omega)]
      rfl
theorem fL_all (n : Nat) (f : Nat → Nat) : fL n n f = (List.range n).map fun i => (f i : Int) := by
  unfold fL
  refine List.map_congr_left fun i hi => ?_
  rw [if_pos (List.mem_range.mp hi)]
theorem fL_len (n t : Nat) (f : Nat → Nat) : (fL n t f).length = n := by simp [fL]
def btB : Fs := (sSeq (sSet 7 (fV (fCallL 5 g_box_there (fMv (fVar 0) (fMv (fV (fOp2 dIx (fVar 1) (fVar 6))) (fMi (fVar 5) (fM0)))) [])))
    (sSeq (sOwnIf 5 (fT (fV (fOp2 dEq (fVar 7) (fV (fBl gLen (fQ (fVar 5) (fQ0))))))) (fOp2 dAdd (fVar 5) (fV (fLst (fA (fVar 2) (fA0))))))
    (sSeq (sAugS 5 (fVar 7) dSub (fV (fOp2 dIx (fVar 1) (fVar 6))))
    (sSto 4 (fVar 6) (fVar 7)))))
theorem bt_step (room : Int) (r : R) (is : List Int) (n t : Nat) (hn : is.length = n) (h7 : n ≤ 7) (ht : t < n) (x3 x6 x7 : Option SV) :
    ((tgSet (.nm 6) (.int (t : Int)) [some (.fz (.str r.s)), some (.fz (iL is)), some (.fz (.int room)), x3, some (.own (iL (fL n t (bx room r (lv is))))), some (.own (iL (Ls room r (lv is) t))), x6, x7]).bind btB) =
      some (.next, [some (.fz (.str r.s)), some (.fz (iL is)), some (.fz (.int room)), x3, some (.own (iL (fL n (t + 1) (bx room r (lv is))))), some (.own (iL (Ls room r (lv is) (t + 1)))), some (.fz (.int (t : Int))), some (.fz (.int (bx room r (lv is) t)))]) := by
  have hk := kk_le room r (lv is) t
  have hk2 : (Ls room r (lv is) t).length ≤ 7 := by unfold kk at hk; omega
  have e1 := v_box_there r (lv is t) (Ls room r (lv is) t) hk2
  have e2 : atI (is.map D.int) (t : Int) = some (.int (lv is t)) := atI_lv (by omega)
  have e3 := dSto_ints (L := fL n t (bx room r (lv is))) (b := t) (by rw [fL_len]; exact ht) (bx room r (lv is) t)
  rw [fL_set _ ht] at e3
  have hbx : boxN r (lv is t) (Ls room r (lv is) t) = bx room r (lv is) t := rfl
  have hLs : Ls room r (lv is) (t + 1) = after room (lv is t) r (Ls room r (lv is) t) := rfl
  have h1 : 1 ≤ sizeLine := sz63 (by omega)
  have hl : (Ls room r (lv is) t).length + 1 ≤ sizeLine := sz63 (by omega)
  rw [hLs]
  unfold after
  have hx : ∀ L : List D, dIxL (.lst L) = fun y => match y with | .int i => (atI L i).map OV.val | _ => none := by
    intro L; funext y; cases y <;> rfl
  rw [hbx] at e1
  have hbb : bx room r (lv is) t = (boxO r (lv is t) (Ls room r (lv is) t)).getD (Ls room r (lv is) t).length := rfl
  cases hb : boxO r (lv is t) (Ls room r (lv is) t) with
  | none =>
    rw [hb] at hbb
    simp only [Option.getD_none] at hbb
    rw [hbb] at e1 e3 ⊢
    generalize fL n t (bx room r (lv is)) = F0 at *
    generalize fL n (t + 1) (bx room r (lv is)) = F1 at *
    generalize Ls room r (lv is) t = L at *
    have e4 := dSto_ints (L := L ++ [room]) (b := L.length) (by simp) (room - lv is t)
    rw [show (L ++ [room]).set L.length (room - lv is t) = L ++ [room - lv is t] by simp] at e4
    have e5 : atI (L.map D.int ++ [D.int room]) (L.length : Int) = some (.int room) := atK (by simp)
    simp only [iL, List.map_append, List.map_cons, List.map_nil] at e4 ⊢
    simp -implicitDefEqProofs [btB, e1, e2, e3, e4, e5, h1, hl, hx]
  | some c =>
    have hc := boxO_some hb
    rw [hb] at hbb
    simp only [Option.getD_some] at hbb
    rw [hbb] at e1 e3 ⊢
    generalize fL n t (bx room r (lv is)) = F0 at *
    generalize fL n (t + 1) (bx room r (lv is)) = F1 at *
    generalize Ls room r (lv is) t = L at *
    have e4 := dSto_ints (L := L) (b := c) hc.1 (lv L c - lv is t)
    have e5 := atI_lv hc.1
    have e6 : ¬ (c : Int) = L.length := by omega
    have e7 : ¬ c = L.length := by omega
    show _ = some (Fl.next, [some (.fz (.str r.s)), some (.fz (iL is)), some (.fz (.int room)), x3, some (.own (iL F1)), some (.own (iL (L.set c (lv L c - lv is t)))), some (.fz (.int (t : Int))), some (.fz (.int (c : Int)))])
    generalize L.set c (lv L c - lv is t) = L2 at *
    simp -implicitDefEqProofs [btB, e1, e2, e3, e4, e5, h1, hl, hx, e6, e7]
theorem bt_loop (room : Int) (r : R) (is : List Int) (n : Nat) (hn : is.length = n) (h7 : n ≤ 7) (x3 : Option SV) : ∀ (j t : Nat) (x6 x7 : Option SV), t + j = n → ∃ y6 y7,
    loopM (.nm 6) btB ((List.range' t j).map fun (i : Nat) => D.int (i : Int)) [some (.fz (.str r.s)), some (.fz (iL is)), some (.fz (.int room)), x3, some (.own (iL (fL n t (bx room r (lv is))))), some (.own (iL (Ls room r (lv is) t))), x6, x7] =
      some (.next, [some (.fz (.str r.s)), some (.fz (iL is)), some (.fz (.int room)), x3, some (.own (iL (fL n n (bx room r (lv is))))), some (.own (iL (Ls room r (lv is) n))), y6, y7])
  | 0, t, x6, x7, h => by
    have : t = n := by omega
    subst this
    exact ⟨x6, x7, rfl⟩
  | j + 1, t, x6, x7, h => by
    obtain ⟨y6, y7, e⟩ := bt_loop room r is n hn h7 x3 j (t + 1) (some (.fz (.int (t : Int)))) (some (.fz (.int (bx room r (lv is) t)))) (by omega)
    refine ⟨y6, y7, ?_⟩
    rw [List.range'_succ, List.map_cons, ← e]
    exact loopM_next (bt_step room r is n t hn h7 (by omega) x3 x6 x7)
/-- the boxes of the first n things -/
def bL (room : Int) (r : R) (is : List Int) : List Int := (List.range is.length).map fun i => (bx room r (lv is) i : Int)
theorem v_boxes_there (room : Int) (r : R) (is : List Int) (h7 : is.length ≤ 7) : g_boxes_there [.fz (.str r.s), .fz (iL is), .fz (.int room), .fz (iL (rI is.length))] = some (.new (iL (bL room r is)), []) := by
  obtain ⟨y6, y7, e⟩ := bt_loop room r is is.length rfl h7 (some (.fz (iL (rI is.length)))) is.length 0 none none (by omega)
  have hf : f_boxes_there g_box_there = sSeq (sPar [4, 5] (fP (fOp2 dMul (fV (fLst (fA (fC (.int 0)) (fA0)))) (fV (fBl gLen (fQ (fVar 1) (fQ0))))) (fP (fLst (fA0)) (fP0))))
    (sSeq (sFor (.nm 6) (fiOf seqOf (fVar 3)) btB) (sRet (fMove 4))) := rfl
  have e0 : fL is.length 0 (bx room r (lv is)) = List.replicate is.length 0 := by
    unfold fL
    rw [List.eq_replicate_iff]
    refine ⟨by simp, fun b hb => ?_⟩
    obtain ⟨i, _, rfl⟩ := List.mem_map.mp hb
    simp
  have e1 : ((List.range' 0 is.length).map fun (i : Nat) => D.int (i : Int)) = (rI is.length).map D.int := by
    rw [rI, List.map_map, List.range_eq_range']; rfl
  rw [e1, e0, fL_all] at e
  have e2 : (List.replicate is.length (0 : Int)).map D.int = List.replicate is.length (.int 0) := by simp
  unfold iL at e
  rw [e2] at e
  have e3 := dMul_zero is.length (by omega)
  have h1 : 1 ≤ sizeLine := sz63 (by omega)
  have e4 : (Ls room r (lv is) 0).map D.int = [] := rfl
  rw [e4] at e
  unfold bL
  generalize (List.range is.length).map (fun i => (bx room r (lv is) i : Int)) = BB at e ⊢
  generalize List.replicate is.length (D.int 0) = RZ at *
  simp -implicitDefEqProofs [g_boxes_there, m_boxes_there, hf, e3, h1, e]
theorem v_plain_boxes (room : Int) (r : R) (is : List Int) (h7 : is.length ≤ 7) : g_plain_boxes [.fz (.str r.s), .fz (iL is), .fz (.int room)] = some (.new (iL (bL room r is)), []) := by
  have e1 := v_boxes_there room r is h7
  have h0 : (is.length : Int) ≤ 16777216 := by omega
  have e2 : rngI (is.length : Int) = rI is.length := by unfold rngI rI; simp
  generalize bL room r is = BB at *
  rw [← e2] at e1
  simp -implicitDefEqProofs [g_plain_boxes, m_plain_boxes, f_plain_boxes, e1, h0]
end K83

set_option Elab.async false
set_option linter.all false
set_option autoImplicit false
set_option maxRecDepth 100000
namespace K83
open PySem PySem.Spec PyProof.Rows L2 L2.Tl
/-! ### dicts with texts as keys -/
theorem kEq_str (x y : Str) : kEq (.str x) (.str y) = decide (x = y) := rfl
theorem any_th (T : TH) (x : Str) : ((T.map thK).any fun kv => kEq kv.1 (.str x)) = decide (x ∈ T.map (·.1)) := by
  induction T with
  | nil => simp
  | cons y T ih =>
    simp only [List.map_cons, List.any_cons, ih]
    show (kEq (.str y.1) (.str x) || _) = _
    rw [kEq_str]
    by_cases h : y.1 = x
    · simp [h]
    · simp [h, Ne.symm h]
theorem get_th {T : TH} (nd : (T.map (·.1)).Nodup) {y : Str × Int × Int} (hy : y ∈ T) : kvGet (T.map thK) (.str y.1) = some (.tup [.int y.2.1, .int y.2.2]) := by
  unfold kvGet
  induction T with
  | nil => cases hy
  | cons z T ih =>
    rw [List.map_cons, List.nodup_cons] at nd
    simp only [List.map_cons, List.find?_cons]
    have hk : kEq (thK z).1 (.str y.1) = decide (z.1 = y.1) := kEq_str _ _
    rw [hk]
    rcases List.mem_cons.mp hy with rfl | hy
    · simp [thK]
    · have : ¬ z.1 = y.1 := fun e => nd.1 (e ▸ List.mem_map.mpr ⟨y, hy, rfl⟩)
      simp only [decide_eq_false this]
      exact ih nd.2 hy
theorem ix_th {T : TH} (nd : (T.map (·.1)).Nodup) {y : Str × Int × Int} (hy : y ∈ T) : dIx (thD T) (.str y.1) = some (.val (.tup [.int y.2.1, .int y.2.2])) := by
  show (if isKey false (.str y.1) = true then (kvGet (T.map thK) (.str y.1)).map OV.val else none) = _
  rw [if_pos (show isKey false (.str y.1) = true from rfl), get_th nd hy]
  rfl
theorem put_th {T : TH} {y : Str × Int × Int} (h : y.1 ∉ T.map (·.1)) : kvPut (T.map thK) (.str y.1) (.tup [.int y.2.1, .int y.2.2]) = (T ++ [y]).map thK := by
  unfold kvPut
  rw [any_th, if_neg (by simpa using h)]
  simp [thK]
theorem merge_th : ∀ (T D0 : TH), ((D0 ++ T).map (·.1)).Nodup → kvMerge (D0.map thK) (T.map thK) = (D0 ++ T).map thK
  | [], D0, _ => by simp [kvMerge]
  | y :: T, D0, nd => by
    show kvMerge (kvPut (D0.map thK) (.str y.1) (.tup [.int y.2.1, .int y.2.2])) (T.map thK) = _
    have hy : y.1 ∉ D0.map (·.1) := fun hm => by
      rw [List.map_append] at nd
      exact (List.nodup_append.mp nd).2.2 _ hm _ (by simp) rfl
    rw [put_th hy, merge_th T (D0 ++ [y]) (by simpa using nd)]
    simp
theorem merge0_th {T : TH} (nd : (T.map (·.1)).Nodup) : kvMerge [] (T.map thK) = T.map thK := by
  simpa using merge_th T [] (by simpa using nd)
theorem in_th {T : TH} {x : Str} (h : x ∉ T.map (·.1)) : dIn (.str x) (thD T) = some (.val (.bl false)) := by
  show (if isKey false (.str x) = true then some (kvGet (T.map thK) (.str x)).isSome else none).map _ = _
  rw [if_pos (show isKey false (.str x) = true from rfl)]
  have : kvGet (T.map thK) (.str x) = none := by
    unfold kvGet
    rw [Option.map_eq_none_iff, List.find?_eq_none]
    intro kv hkv
    have := any_th T x
    rw [decide_eq_false h, List.any_eq_false] at this
    exact this kv hkv
  rw [this]
  rfl
theorem dIn_ints (x : Int) (is : List Int) : dIn (.int x) (.lst (is.map .int)) = some (.val (.bl (decide (x ∈ is)))) := by
  have h1 : inOk (.int x) (is.map .int) = true := by simp [inOk]
  show (if inOk (.int x) (is.map .int) = true then some ((is.map D.int).any fun y => D.eqv y (.int x)) else none).map _ = _
  rw [if_pos h1]
  simp only [Option.map_some]
  congr 3
  rw [List.any_map]
  induction is with
  | nil => rfl
  | cons a is ih =>
    have h2 : inOk (.int x) (is.map .int) = true := by simp [inOk]
    rw [List.any_cons, ih h2]
    show ((a == x) || _) = _
    by_cases h : a = x
    · subst h; simp
    · simp [h, Ne.symm h]
/-! ### with_things, acted -/
theorem v_with_things (room : Int) (k : Nat) (T0 T : TH) (nd : (T.map (·.1)).Nodup) (so : sortS (T.map (·.1)) = T.map (·.1)) (hl : T.length ≤ 7) : g_with_things [.fz (stD room k T0), .fz (thD T)] = some (.new (stD room k T), []) := by
  have e1 : gSortedS [thD T] = some (.new (.lst (T.map fun y => .str y.1))) := by
    have hs : strsOf ((T.map thK).map (·.1)) = some (T.map (·.1)) := by
      rw [List.map_map]
      clear nd so hl
      induction T with
      | nil => rfl
      | cons y T ih =>
        show (strsOf (T.map _)).map _ = _
        rw [ih]; rfl
    show ((strsOf ((T.map thK).map (·.1))).bind fun ks => if ks.length < 64 then some (OV.new (.lst ((sortS ks).map .str))) else none) = _
    rw [hs]
    simp only [Option.bind_some]
    rw [if_pos (by simp; omega), so, List.map_map]
    rfl
  have e2 := fun (a : Option SV) => dcM_mapF (vs := [2]) (t := .nm 2) (c := fYes) (fk := fVar 2) (fv := (fV (fOp2 dIx (fVar 1) (fVar 2)))) (δ := [a, some (.fz (thD T)), none]) (fun y : Str × Int × Int => .str y.1) thK (xs := T) (acc := []) (fun y hy => by
    simp -implicitDefEqProofs [dcTurn, ix_th nd hy, thK, isKey1])
  have e3 := merge0_th nd
  have hl2 : T.length ≤ sizeLine := sz63 (by omega)
  have e4 : kvMerge (kvMerge [] [(D.str "room", D.int room), (.str "open", .lst (iN (List.range k))), (.str "next", .int k), (.str "things", thD T0)]) (kvMerge [] [(D.str "things", D.dct false (T.map thK))]) = [(.str "room", .int room), (.str "open", .lst (iN (List.range k))), (.str "next", .int k), (.str "things", .dct false (T.map thK))] := rfl
  have e5 : isKey1 (.str "things") = true := rfl
  have hl3 : (T.map fun y => D.str y.1).length ≤ sizeLine := by simpa using hl2
  show _ = some (OV.new (.dct false [(.str "room", .int room), (.str "open", .lst (iN (List.range k))), (.str "next", .int k), (.str "things", .dct false (T.map thK))]), [])
  unfold stD
  generalize T.map (fun y => D.str y.1) = Q1 at *
  simp -implicitDefEqProofs [g_with_things, m_with_things, f_with_things, e1, e2, e3, e4, e5, hl3]
end K83

set_option Elab.async false
set_option linter.all false
set_option autoImplicit false
set_option maxRecDepth 100000
namespace K83
open PySem PySem.Spec PyProof.Rows L2 L2.Tl
/-! ### the acts' effects -/
theorem iN_snoc (k : Nat) : iN (List.range k) ++ [.int (k : Int)] = iN (List.range (k + 1)) := by
  simp [iN, List.range_succ]
def doneA (i : Int) : D := .tup [.str "done", .int i]
theorem v_acted_open (room : Int) (k : Nat) (T : TH) (hk : k ≤ 7) : g_acted [.fz (stD room k T), .fz aOpen] = some (.val (.tup [stD room (k + 1) T, doneA k]), []) := by
  have d0 : dIx aOpen (.int 0) = some (.val (.str "open")) := rfl
  have d1 : dIn (.str "open") (.tup [.str "open", .str "close"]) = some (.val (.bl true)) := rfl
  have d2 : dEq (.str "open") (.str "open") = some (.val (.bl true)) := rfl
  have e1 := ix_next room k T
  have e2 := ix_open room k T
  have h2 : 2 ≤ sizeLine := sz63 (by omega)
  have h1 : 1 ≤ sizeLine := sz63 (by omega)
  have hk1 : (iN (List.range k)).length + 1 ≤ sizeLine := sz63 (by simp [iN]; omega)
  have e3 := iN_snoc k
  have i1 : isKey1 (.str "open") = true := rfl
  have i2 : isKey1 (.str "next") = true := rfl
  have e4 : ∀ X : List D, kvMerge (kvMerge [] [(D.str "room", D.int room), (.str "open", .lst (iN (List.range k))), (.str "next", .int k), (.str "things", thD T)]) (kvMerge [] [(D.str "open", D.lst X), (.str "next", .int ((k : Int) + 1))]) = [(.str "room", .int room), (.str "open", .lst X), (.str "next", .int ((k : Int) + 1)), (.str "things", thD T)] := fun X => rfl
  have e5 : ((k : Int) + 1) = ((k + 1 : Nat) : Int) := by push_cast; rfl
  have o1 : g_opened [.fz (stD room k T), .fz aOpen] = some (.val (.tup [stD room (k + 1) T, doneA k]), []) := by
    have s1 : stD room k T = .dct false [(D.str "room", D.int room), (.str "open", .lst (iN (List.range k))), (.str "next", .int k), (.str "things", thD T)] := rfl
    have s2 : stD room (k + 1) T = .dct false [(D.str "room", D.int room), (.str "open", .lst (iN (List.range k) ++ [.int (k : Int)])), (.str "next", .int ((k : Int) + 1)), (.str "things", thD T)] := by
      rw [e3, e5]; rfl
    rw [s1] at e1 e2
    rw [s1, s2]
    unfold doneA
    generalize aOpen = A at *
    generalize iN (List.range k) = II at *
    simp -implicitDefEqProofs [g_opened, m_opened, f_opened, d0, d2, e1, e2, h1, h2, hk1, i1, i2, e4]
  generalize stD room k T = S at *
  generalize stD room (k + 1) T = S2 at *
  generalize aOpen = A at *
  simp -implicitDefEqProofs [g_acted, m_acted, f_acted, d0, d1, h2, o1]
theorem v_acted_put (room : Int) (k : Nat) (T : TH) (x : Str) (z : Int) (b : Nat) (hl : T.length ≤ 6) (nd : ((T ++ [(x, z, (b : Int))]).map (·.1)).Nodup) (so : sortS ((T ++ [(x, z, (b : Int))]).map (·.1)) = (T ++ [(x, z, (b : Int))]).map (·.1)) (hz : z ≤ room - sumOf T b) :
    g_acted [.fz (stD room k T), .fz (aPut x z b)] = some (.val (.tup [stD room k (T ++ [(x, z, (b : Int))]), doneA (room - sumOf T b - z)]), []) := by
  have d0 : dIx (aPut x z b) (.int 0) = some (.val (.str "put")) := rfl
  have d1 : dIn (.str "put") (.tup [.str "open", .str "close"]) = some (.val (.bl false)) := rfl
  have d2 : dIx (aPut x z b) (.int 1) = some (.val (.str x)) := rfl
  have d3 : dIx (aPut x z b) (.int 2) = some (.val (.int z)) := rfl
  have d4 : dIx (aPut x z b) (.int (-1)) = some (.val (.int b)) := rfl
  have d5 : dEq (.str "put") (.str "put") = some (.val (.bl true)) := rfl
  have d6 : dEq (.str "put") (.str "move") = some (.val (.bl false)) := rfl
  have d7 : dEq (.str "put") (.str "take") = some (.val (.bl false)) := rfl
  have d8 : dEq (.bl false) (.bl true) = some (.val (.bl false)) := rfl
  have hx : x ∉ T.map (·.1) := fun hm => by
    rw [List.map_append] at nd
    exact (List.nodup_append.mp nd).2.2 _ hm _ (by simp) rfl
  have nd0 : (T.map (·.1)).Nodup := by
    rw [List.map_append] at nd
    exact (List.nodup_append.mp nd).1
  have e1 := ix_things room k T
  have e2 := in_th hx
  have e3 := v_spare_of room k T b (by omega)
  have e4 := v_with_things room k T (T ++ [(x, z, (b : Int))]) nd so (by simp; omega)
  have h2 : 2 ≤ sizeLine := sz63 (by omega)
  have i1 : isKey1 (.str x) = true := rfl
  have e5 : kvMerge (kvMerge [] (T.map thK)) (kvMerge [] [(D.str x, .tup [.int z, .int b])]) = (T ++ [(x, z, (b : Int))]).map thK := by
    rw [merge0_th nd0]
    exact put_th (y := (x, z, (b : Int))) hx
  have hl2 : T.length ≤ 1000 := by omega
  have ht : thD T = .dct false (T.map thK) := rfl
  have ht2 : thD (T ++ [(x, z, (b : Int))]) = .dct false ((T ++ [(x, z, (b : Int))]).map thK) := rfl
  have hzz : ¬ room - sumOf T b < z := by omega
  have hg : dGt (.int z) (.int (room - sumOf T b)) = some (.val (.bl false)) := by
    have : decide (room - sumOf T b < z) = false := decide_eq_false hzz
    rw [← this]
    simp
  rw [ht] at e1 e2
  rw [ht2] at e4
  have hl3 : (T.map thK).length ≤ 1000 := by simpa using hl2
  unfold doneA
  generalize (T ++ [(x, z, (b : Int))]).map thK = TT at *
  generalize stD room k (T ++ [(x, z, (b : Int))]) = S2 at *
  generalize T.map thK = T1 at *
  generalize stD room k T = S at *
  generalize aPut x z b = A at *
  generalize room - sumOf T b = LL at *
  simp -implicitDefEqProofs [g_acted, m_acted, f_acted, d0, d1, d2, d3, d4, d5, d6, d7, d8, e1, e2, e3, e4, e5, h2, i1, hl3, hg]
end K83

set_option Elab.async false
set_option linter.all false
set_option autoImplicit false
set_option maxRecDepth 100000
namespace K83
open PySem PySem.Spec PyProof.Rows L2 L2.Tl
theorem v_copied (i : Int) : g_copied 6 [.fz (doneA i)] = some (.val (doneA i), []) := by
  have h1 : ∀ k, g_copied (k + 1) [.fz (.str "done")] = some (.val (.str "done"), []) := fun k => rfl
  have h2 : ∀ k, g_copied (k + 1) [.fz (.int i)] = some (.val (.int i), []) := fun k => rfl
  have hz : 2 ≤ sizeLine := sz63 (by omega)
  have t1 : ∀ T, isiD T (doneA i) = some (kitTab T "tuple") := fun T => rfl
  have e1 := fun (x : Option SV) => lcM_map (vs := [1]) (t := .nm 1) (c := fYes) (f := (fV (fCall (g_copied 5) (fMv (fVar 1) (fM0)) []))) (δ := [x, none, none]) (fun d => d) (ds := [D.str "done", .int i]) (fun d hd => by
    simp only [List.mem_cons, List.not_mem_nil, or_false] at hd
    rcases hd with rfl | rfl
    · simp -implicitDefEqProofs [lcTurn, h1 4]
    · simp -implicitDefEqProofs [lcTurn, h2 4])
  have s1 : seqOf (doneA i) = some [D.str "done", .int i] := rfl
  have g1 : gTuple [.lst [D.str "done", .int i]] = some (.val (doneA i)) := rfl
  show m_copied (g_copied 5) _ = _
  rw [List.map_id'] at e1
  generalize doneA i = A at *
  simp -implicitDefEqProofs [m_copied, f_copied, t1, kitTab, s1, hz, e1, g1]
def hF (X n : D) : List (Str × D) := [(("row" : Str), X), (("at" : Str), n)]
section
variable (X Y n : D)
@[simp] theorem hF_row : List.lookup (("row" : Str)) (hF X n) = some X := rfl
@[simp] theorem hF_at : List.lookup (("at" : Str)) (hF X n) = some n := rfl
@[simp] theorem hF_state : List.lookup (("state" : Str)) (hF X n) = none := rfl
@[simp] theorem hF_do : List.lookup (("do" : Str)) (hF X n) = none := rfl
@[simp] theorem hF_boxes : List.lookup (("boxes" : Str)) (hF X n) = none := rfl
@[simp] theorem hF_len : (hF X n).length = 2 := rfl
@[simp] theorem hF_prow : putFD (("row" : Str)) Y (hF X n) = hF Y n := rfl
@[simp] theorem hF_pat : putFD (("at" : Str)) Y (hF X n) = hF X Y := rfl
end
theorem v_do (cH : Addr) (rs : List D) (a S b act S' : D) (i : Int) (hrs : rs.length ≤ 100) (h1 : g_is_act [.fz act] = some (.val (.bl true), [])) (h2 : g_fits [.fz S, .fz act] = some (.val (.bl true), [])) (h3 : g_acted [.fz S, .fz act] = some (.val (.tup [S', doneA i]), [])) :
    g_House_do cH [.inp (hoS cH rs a S b), .fz act] = some (.val (doneA i), [hoS cH (rs ++ [.tup [a, S, b]]) act S' (doneA i)]) := by
  have hs : ∀ rs a S b, hoS cH rs a S b = .obj cH (hF (.lst (rs ++ [.tup [a, S, b]])) (.int rs.length)) := fun _ _ _ _ => rfl
  have e2 := v_state cH rs a S b
  have c1 := v_copied i
  have hz1 : 1 ≤ sizeLine := sz63 (by omega)
  have hz3 : 3 ≤ sizeLine := sz63 (by omega)
  have e3 : cutD (rs ++ [.tup [a, S, b]]) none (some ((rs.length : Int) + 1)) = rs ++ [.tup [a, S, b]] := by
    rw [cutD_to (by omega)]
    have : ((rs.length : Int) + 1).toNat = (rs ++ [D.tup [a, S, b]]).length := by simp
    rw [this, List.take_length]
  have e4 : (rs ++ [D.tup [a, S, b]]).length + 1 ≤ sizeLine := sz63 (by simp; omega)
  have e5 : ((rs.length : Int) + 1) = ((rs ++ [D.tup [a, S, b]]).length : Int) := by simp
  have e6 : dCut (.lst (rs ++ [.tup [a, S, b]])) none (some ((rs.length : Int) + 1)) = some (.new (.lst (rs ++ [.tup [a, S, b]]))) := by
    show some (OV.new (.lst (cutD _ _ _))) = _
    rw [e3]
  rw [hs] at e2 ⊢
  rw [hs, ← e5]
  generalize rs ++ [D.tup [a, S, b]] = R1 at *
  clear e5
  generalize (rs.length : Int) = n at *
  generalize doneA i = DA at *
  simp -implicitDefEqProofs [g_House_do, m_House_do, f_House_do, h1, h2, h3, e2, c1, hz1, hz3, e4, e3, e6]
end K83

set_option Elab.async false
set_option linter.all false
set_option autoImplicit false
set_option maxRecDepth 100000
namespace K83
open PySem PySem.Spec PyProof.Rows L2 L2.Tl
theorem v_fits_open (room : Int) (k : Nat) (T : TH) : g_fits [.fz (stD room k T), .fz aOpen] = some (.val (.bl true), []) := by
  have d0 : dIx aOpen (.int 0) = some (.val (.str "open")) := rfl
  have d1 : dIn (.str "open") (.tup [.str "open", .str "take"]) = some (.val (.bl true)) := rfl
  have hz : 2 ≤ sizeLine := sz63 (by omega)
  generalize aOpen = A at *
  simp -implicitDefEqProofs [g_fits, m_fits, f_fits, d0, d1, hz]
theorem v_fits_put (room : Int) (k : Nat) (T : TH) (x : Str) (z : Int) (b : Nat) (hb : b < k) : g_fits [.fz (stD room k T), .fz (aPut x z b)] = some (.val (.bl true), []) := by
  have d0 : dIx (aPut x z b) (.int 0) = some (.val (.str "put")) := rfl
  have d1 : dIn (.str "put") (.tup [.str "open", .str "take"]) = some (.val (.bl false)) := rfl
  have d4 : dIx (aPut x z b) (.int (-1)) = some (.val (.int b)) := rfl
  have hz : 2 ≤ sizeLine := sz63 (by omega)
  have e1 := ix_open room k T
  rw [iN_range] at e1
  have e2 := dIn_ints (b : Int) (rI k)
  rw [decide_eq_true (mem_rI.mpr ⟨by omega, by omega⟩)] at e2
  generalize aPut x z b = A at *
  generalize stD room k T = S at *
  simp -implicitDefEqProofs [g_fits, m_fits, f_fits, d0, d1, d4, hz, e1, e2]
/-! ### the things of the first t turns -/
def nmL : List Str := ["a", "b", "c", "d", "e", "f", "g"]
def nm (i : Nat) : Str := nmL.getD i "a"
theorem nm_is (i : Nat) : isNm (nm i) := by
  unfold nm
  by_cases h : i < 7
  · have : i = 0 ∨ i = 1 ∨ i = 2 ∨ i = 3 ∨ i = 4 ∨ i = 5 ∨ i = 6 := by omega
    rcases this with rfl | rfl | rfl | rfl | rfl | rfl | rfl
    · exact .inl rfl
    · exact .inr (.inl rfl)
    · exact .inr (.inr (.inl rfl))
    · exact .inr (.inr (.inr (.inl rfl)))
    · exact .inr (.inr (.inr (.inr (.inl rfl))))
    · exact .inr (.inr (.inr (.inr (.inr (.inl rfl)))))
    · exact .inr (.inr (.inr (.inr (.inr (.inr rfl)))))
  · rw [List.getD_eq_getElem?_getD, List.getElem?_eq_none (by show nmL.length ≤ i; have : nmL.length = 7 := rfl; omega)]
    exact .inl rfl
theorem nm_take {t : Nat} (h : t ≤ 7) : (List.range t).map nm = nmL.take t := by
  refine List.ext_getElem? fun i => ?_
  rw [List.getElem?_map, List.getElem?_take]
  by_cases hi : i < t
  · rw [List.getElem?_range hi, if_pos hi]
    have h7 : i < nmL.length := by have : nmL.length = 7 := rfl; omega
    simp only [Option.map_some]
    unfold nm
    rw [List.getD_eq_getElem?_getD, List.getElem?_eq_getElem h7]
    rfl
  · rw [if_neg hi, List.getElem?_eq_none (by simp; omega)]
    rfl
theorem nmL_pw : nmL.Pairwise (fun a b => sLe a b = true ∧ a ≠ b) := by
  unfold nmL
  decide +kernel
theorem take_nd (t : Nat) : (nmL.take t).Nodup := (nmL_pw.sublist (List.take_sublist t nmL)).imp fun h => h.2
theorem take_so (t : Nat) : sortS (nmL.take t) = nmL.take t := List.mergeSort_of_pairwise ((nmL_pw.sublist (List.take_sublist t nmL)).imp fun h => h.1)
section
variable (room : Int) (r : R) (s : Nat → Int)
def TT (t : Nat) : TH := (List.range t).map fun i => (nm i, s i, (bx room r s i : Int))
theorem TT_len (t : Nat) : (TT room r s t).length = t := by simp [TT]
theorem TT_succ (t : Nat) : TT room r s (t + 1) = TT room r s t ++ [(nm t, s t, (bx room r s t : Int))] := by simp [TT, List.range_succ]
theorem TT_names {t : Nat} (h : t ≤ 7) : (TT room r s t).map (·.1) = nmL.take t := by
  rw [← nm_take h, TT, List.map_map]
  rfl
theorem TT_sum (t b : Nat) : sumOf (TT room r s t) b = ((lotN room r s t b).map s).sum := by
  unfold sumOf TT lotN
  rw [List.filter_map, List.map_map]
  have : ((fun x : Str × Int × Int => decide (x.2.2 = (b : Int))) ∘ fun i => (nm i, s i, (bx room r s i : Int))) = fun i => decide (bx room r s i = b) := by
    funext i
    exact decide_eq_decide.mpr (by show ((bx room r s i : Int) = b) ↔ _; omega)
  rw [this]
  rfl
theorem TT_ok (t : Nat) (ht : t ≤ 7) : Ok room (kk room r s t) (TT room r s t) (Ls room r s t) := by
  refine ⟨by rw [TT_len]; exact ht, rfl, by have := kk_le room r s t; unfold kk at this; omega, fun b hb => ?_⟩
  rw [TT_sum, left_is room r s t b hb]
theorem TT_new (t : Nat) : sumOf (TT room r s t) (kk room r s t) = 0 := by
  rw [TT_sum]
  have : lotN room r s t (kk room r s t) = [] := by
    unfold lotN
    rw [List.filter_eq_nil_iff]
    intro i hi
    have := bx_lt room r s (List.mem_range.mp hi)
    simp
    omega
  rw [this]
  rfl
end
end K83

set_option Elab.async false
set_option linter.all false
set_option autoImplicit false
set_option maxRecDepth 100000
namespace K83
open PySem PySem.Spec PyProof.Rows L2 L2.Tl
/-! ### one thing is put: the law's inner loop -/
def hB (cH : Addr) : Fs := (sSeq (sSet 11 (fV (fCall (g__law_spot cH) (fMi (fVar 7) (fMv (fVar 6) (fMv (fVar 10) (fM0)))) [])))
    (sSeq (sIf (fT (fV (fOp2 dIs (fVar 11) (fC .non)))) (sSet 11 (fV (fOp2 dIx (fV (fMeth cH "do" (g_House_do cH) (fVar 7) (fMv (fV (fTup (fA (fC (.str "open")) (fA0)))) (fM0)) [])) (fC (.int 1))))) (sNext))
    (sSeq (sIf (fT (fV (fOp2 dNe (fV (fOp2 dIx (fV (fMeth cH "do" (g_House_do cH) (fVar 7) (fMv (fV (fTup (fA (fC (.str "put")) (fA (fVar 9) (fA (fVar 10) (fA (fVar 11) (fA0))))))) (fM0)) [])) (fC (.int 0)))) (fC (.str "done"))))) (sRet (fO (fC (.bl false)))) (sNext))
    (sEx (fMut isL 8 gApp (fA (fVar 11) (fA0)))))))
/-- the house after t things -/
def HoAt (cH : Addr) (room : Int) (r : R) (s : Nat → Int) (t : Nat) (h : D) : Prop := ∃ rs a b, h = hoS cH rs a (stD room (kk room r s t) (TT room r s t)) b ∧ rs.length ≤ 2 * t
section
variable (cH : Addr) (room : Int) (r : R) (s : Nat → Int)
/-- a thing is put into a box that is open -/
theorem put_turn (t k : Nat) (ht : t < 7) (hz : 1 ≤ s t) (rs : List D) (a b : D) (hrs : rs.length ≤ 2 * t + 1) (hk : k = kk room r s (t + 1)) (hsz : s t ≤ room - sumOf (TT room r s t) (bx room r s t)) :
    ∃ h2, HoAt cH room r s (t + 1) h2 ∧ ∃ i, g_House_do cH [.inp (hoS cH rs a (stD room k (TT room r s t)) b), .fz (aPut (nm t) (s t) (bx room r s t))] = some (.val (doneA i), [h2]) := by
  have e0 := TT_succ room r s t
  have e1 := v_acted_put room k (TT room r s t) (nm t) (s t) (bx room r s t) (by rw [TT_len]; omega) (by rw [← e0, TT_names room r s (by omega)]; exact take_nd _) (by rw [← e0, TT_names room r s (by omega)]; exact take_so _) hsz
  have e2 := v_fits_put room k (TT room r s t) (nm t) (s t) (bx room r s t) (by rw [hk]; exact bx_lt_succ room r s t)
  have e3 := v_act_put (nm t) (s t) (bx room r s t) (nm_is t) hz (by omega)
  have e4 := v_do cH rs a _ b _ _ _ (by omega) e3 e2 e1
  refine ⟨_, ⟨rs ++ [.tup [a, stD room k (TT room r s t), b]], aPut (nm t) (s t) (bx room r s t), doneA (room - sumOf (TT room r s t) (bx room r s t) - s t), ?_, ?_⟩, _, e4⟩
  · rw [← e0, hk]
  · rw [List.length_append]
    show rs.length + 1 ≤ _
    omega
theorem dIs_resO (o : Option Nat) : dIs (resO o) .non = some (.val (.bl o.isNone)) := by
  cases o <;> rfl
theorem h_turn (t : Nat) (ht : t < 7) (hz : 1 ≤ s t) (hr : s t ≤ room) (h : D) (hh : HoAt cH room r s t h) (is : List Int) (hl : is.length ≤ 1000) (x0 x1 x2 x3 x4 x5 x9 x10 x11 x12 x13 x14 x15 : Option SV) :
    ∃ h2, HoAt cH room r s (t + 1) h2 ∧ ((tgSet (.tp [9, 10]) (.tup [.str (nm t), .int (s t)]) [x0, x1, x2, x3, x4, x5, some (.fz (.str r.s)), some (.own h), some (.own (iL is)), x9, x10, x11, x12, x13, x14, x15]).bind (hB cH)) =
      some (.next, [x0, x1, x2, x3, x4, x5, some (.fz (.str r.s)), some (.own h2), some (.own (iL (is ++ [(bx room r s t : Int)]))), some (.fz (.str (nm t))), some (.fz (.int (s t))), some (.fz (.int (bx room r s t))), x12, x13, x14, x15]) := by
  obtain ⟨rs, a, b, rfl, hrs⟩ := hh
  have ok := TT_ok room r s t (by omega)
  have e1 := v_spot cH rs a b r ok (s t) hz
  have e2 := dIs_resO (boxO r (s t) (Ls room r s t))
  have hobj : ∀ rs a S b, ∃ fs, hoS cH rs a S b = .obj cH fs ∧ List.lookup (("do" : Str)) fs = none := fun rs a S b => ⟨_, rfl, rfl⟩
  have hbb : bx room r s t = (boxO r (s t) (Ls room r s t)).getD (Ls room r s t).length := rfl
  have hkk := kk_succ room r s t
  have hkle := kk_le room r s t
  have hlen : (is.map D.int).length < sizeLine := by rw [sizeLine_eq]; simp; omega
  have h4 : 4 ≤ sizeLine := sz63 (by omega)
  have h1 : 1 ≤ sizeLine := sz63 (by omega)
  have d0 : ∀ i, dIx (doneA i) (.int 0) = some (.val (.str "done")) := fun i => rfl
  have d1 : ∀ i, dIx (doneA i) (.int 1) = some (.val (.int i)) := fun i => rfl
  have d2 : dNe (.str "done") (.str "done") = some (.val (.bl false)) := rfl
  have hput : ∀ b, D.tup [.str "put", .str (nm t), .int (s t), .int b] = aPut (nm t) (s t) b := fun b => rfl
  have hop : D.tup [.str "open"] = aOpen := rfl
  cases hb : boxO r (s t) (Ls room r s t) with
  | some c =>
    have hc := boxO_some hb
    rw [hb] at e1 e2 hbb
    simp only [Option.getD_some] at hbb
    rw [if_neg (by unfold kk; omega)] at hkk
    obtain ⟨h2, g1, i, g2⟩ := put_turn cH room r s t (kk room r s t) ht hz rs a b (by omega) hkk.symm (by rw [hbb, TT_sum, ← left_is room r s t c hc.1]; exact hc.2)
    refine ⟨h2, g1, ?_⟩
    obtain ⟨rs2, a2, b2, hh2, _⟩ := g1
    obtain ⟨fs, f1, f2⟩ := hobj rs a (stD room (kk room r s t) (TT room r s t)) b
    obtain ⟨fs2, f3, f4⟩ := hobj rs2 a2 (stD room (kk room r s (t + 1)) (TT room r s (t + 1))) b2
    rw [f3] at hh2
    subst hh2
    rw [hbb] at g2 ⊢
    rw [f1] at e1 g2 ⊢
    unfold aPut at g2
    generalize nm t = nt at *
    generalize s t = st at *
    simp -implicitDefEqProofs [resO] at e1
    have e3 : dIs (.int (c : Int)) .non = some (.val (.bl false)) := rfl
    simp -implicitDefEqProofs [hB, e1, e3, f2, h4, g2, d0, d2, isL, gApp, hlen]
    simpa using hlen
  | none =>
    rw [hb] at e1 e2 hbb
    simp only [Option.getD_none] at hbb
    have hbk : bx room r s t = kk room r s t := hbb
    rw [if_pos hbk] at hkk
    have o1 := v_acted_open room (kk room r s t) (TT room r s t) (by omega)
    have o2 := v_do cH rs a _ b _ _ _ (by omega) v_act_open (v_fits_open room (kk room r s t) (TT room r s t)) o1
    obtain ⟨h2, g1, i, g2⟩ := put_turn cH room r s t (kk room r s t + 1) ht hz (rs ++ [.tup [a, stD room (kk room r s t) (TT room r s t), b]]) aOpen (doneA (kk room r s t)) (by rw [List.length_append]; show rs.length + 1 ≤ _; omega) hkk.symm (by rw [hbk, TT_new]; omega)
    refine ⟨h2, g1, ?_⟩
    obtain ⟨rs2, a2, b2, hh2, _⟩ := g1
    obtain ⟨fs, f1, f2⟩ := hobj rs a (stD room (kk room r s t) (TT room r s t)) b
    obtain ⟨fs2, f3, f4⟩ := hobj rs2 a2 (stD room (kk room r s (t + 1)) (TT room r s (t + 1))) b2
    obtain ⟨fs3, f5, f6⟩ := hobj (rs ++ [.tup [a, stD room (kk room r s t) (TT room r s t), b]]) aOpen (stD room (kk room r s t + 1) (TT room r s t)) (doneA (kk room r s t))
    rw [f3] at hh2
    subst hh2
    rw [hbk] at g2 ⊢
    rw [f1] at e1 o2 ⊢
    rw [f5] at o2 g2
    unfold aPut at g2
    unfold aOpen at o2
    generalize nm t = nt at *
    generalize s t = st at *
    generalize kk room r s t = kt at *
    simp -implicitDefEqProofs [resO] at e1
    have e3 : dIs .non .non = some (.val (.bl true)) := rfl
    simp -implicitDefEqProofs [hB, e1, e3, f2, f6, h4, h1, g2, o2, d0, d1, d2, isL, gApp, hlen]
    simpa using hlen
end
end K83

set_option Elab.async false
set_option linter.all false
set_option autoImplicit false
set_option maxRecDepth 100000
namespace K83
open PySem PySem.Spec PyProof.Rows L2 L2.Tl
/-! ### a new house; all the things -/
theorem v_init (cH : Addr) (room : Int) (hr : 0 ≤ room) : g_House_init cH [.inp (.obj cH []), .fz (.int room)] = some (.val .non, [hoS cH [] .non (stD room 0 []) .non]) := by
  have e1 := v_check_room room hr
  have h3 : 3 ≤ sizeLine := sz63 (by omega)
  have h1 : 1 ≤ sizeLine := sz63 (by omega)
  have i1 : isKey1 (.str "room") = true := rfl
  have i2 : isKey1 (.str "open") = true := rfl
  have i3 : isKey1 (.str "next") = true := rfl
  have i4 : isKey1 (.str "things") = true := rfl
  have m1 : kvMerge [] [(D.str "room", .int room), (.str "open", .lst []), (.str "next", .int 0), (.str "things", .dct false [])] = [(D.str "room", .int room), (.str "open", .lst []), (.str "next", .int 0), (.str "things", .dct false [])] := rfl
  have p1 : ∀ X, putFD (("row" : Str)) X [] = [(("row" : Str), X)] := fun X => rfl
  have p2 : ∀ X Y, putFD (("at" : Str)) Y [(("row" : Str), X)] = [(("row" : Str), X), (("at" : Str), Y)] := fun X Y => rfl
  have hs : hoS cH [] .non (stD room 0 []) .non = .obj cH [(("row" : Str), .lst [.tup [.non, .dct false [(D.str "room", .int room), (.str "open", .lst []), (.str "next", .int 0), (.str "things", .dct false [])], .non]]), (("at" : Str), .int 0)] := rfl
  rw [hs]
  simp -implicitDefEqProofs [g_House_init, m_House_init, f_House_init, e1, h3, h1, i1, i2, i3, i4, m1, p1, p2]
section
variable (cH : Addr) (room : Int) (r : R) (s : Nat → Int)
theorem HoAt_zero : HoAt cH room r s 0 (hoS cH [] .non (stD room 0 []) .non) := ⟨[], .non, .non, rfl, by simp⟩
theorem h_loop (n : Nat) (hn : n ≤ 7) (hz : ∀ i, i < n → 1 ≤ s i ∧ s i ≤ room) (x0 x1 x2 x3 x4 x5 x12 x13 x14 x15 : Option SV) : ∀ (j t : Nat) (h : D) (x9 x10 x11 : Option SV), t + j = n → HoAt cH room r s t h →
    ∃ h2 y9 y10 y11, HoAt cH room r s n h2 ∧ (y11 = x11 ∨ ∃ z, y11 = some (.fz z)) ∧ loopM (.tp [9, 10]) (hB cH) ((List.range' t j).map fun i => .tup [.str (nm i), .int (s i)]) [x0, x1, x2, x3, x4, x5, some (.fz (.str r.s)), some (.own h), some (.own (iL ((List.range t).map fun i => (bx room r s i : Int)))), x9, x10, x11, x12, x13, x14, x15] =
      some (.next, [x0, x1, x2, x3, x4, x5, some (.fz (.str r.s)), some (.own h2), some (.own (iL ((List.range n).map fun i => (bx room r s i : Int)))), y9, y10, y11, x12, x13, x14, x15])
  | 0, t, h, x9, x10, x11, ht, hh => by
    have : t = n := by omega
    subst this
    exact ⟨h, x9, x10, x11, hh, .inl rfl, rfl⟩
  | j + 1, t, h, x9, x10, x11, ht, hh => by
    obtain ⟨hz1, hz2⟩ := hz t (by omega)
    obtain ⟨h2, g1, g2⟩ := h_turn cH room r s t (by omega) hz1 hz2 h hh ((List.range t).map fun i => (bx room r s i : Int)) (by simp; omega) x0 x1 x2 x3 x4 x5 x9 x10 x11 x12 x13 x14 x15
    have hs : (List.range t).map (fun i => (bx room r s i : Int)) ++ [(bx room r s t : Int)] = (List.range (t + 1)).map fun i => (bx room r s i : Int) := by simp [List.range_succ]
    rw [hs] at g2
    obtain ⟨h3, y9, y10, y11, k1, k2, k3⟩ := h_loop n hn hz x0 x1 x2 x3 x4 x5 x12 x13 x14 x15 j (t + 1) h2 (some (.fz (.str (nm t)))) (some (.fz (.int (s t)))) (some (.fz (.int (bx room r s t)))) (by omega) g1
    refine ⟨h3, y9, y10, y11, k1, ?_, ?_⟩
    · rcases k2 with k2 | k2
      · exact .inr ⟨_, k2⟩
      · exact .inr k2
    · rw [List.range'_succ, List.map_cons, ← k3]
      exact loopM_next g2
end
end K83

set_option Elab.async false
set_option linter.all false
set_option autoImplicit false
set_option maxRecDepth 100000
namespace K83
open PySem PySem.Spec PyProof.Rows L2 L2.Tl
/-! ### sorting what stands in order -/
theorem itemLt_int (a b : Int) : itemLt (.inl a) (.inl b) = decide (a < b) := rfl
theorem itemLt_str (a b : List Nat) : itemLt (.inr a) (.inr b) = ltCps a b := by rw [Tl.ltCps_eq]; rfl
theorem dLe_int (a b : Int) : PySem.W.dataLe false pdOf (.int a) (.int b) = decide (a ≤ b) := by
  show (!(PyProof.Rows.lexLt itemOrd [.inl b] [.inl a])) = _
  rw [lex_cons]
  simp [itemOrd, PyProof.Rows.lexLt, itemLt_int]
  by_cases h : b < a
  · simp [h]
  · simp [h]; omega
theorem dLe_str (a b : Str) : PySem.W.dataLe false pdOf (.str a) (.str b) = sLe a b := by
  show (!(PyProof.Rows.lexLt itemOrd [.inr b.cps.toList] [.inr a.cps.toList])) = _
  rw [lex_cons, ← sLe_not]
  simp [itemOrd, PyProof.Rows.lexLt, itemLt_str]
theorem pd_iL (is : List Int) : (iL is).pd = some (.list (is.map .int)) := by
  have : ∀ is : List Int, pdL (is.map D.int) = some (is.map .int) := fun is => by
    induction is with
    | nil => rfl
    | cons i is ih => simp [pdL, D.pd, ih]
  simp [D.pd, this]
theorem pdOf_iL (is : List Int) : pdOf (iL is) = .list (is.map .int) := by
  unfold pdOf
  rw [pd_iL]
  rfl
theorem dLe_lst (x y : Int) (a b : List Int) (h : x < y) : PySem.W.dataLe false pdOf (iL (x :: a)) (iL (y :: b)) = true := by
  show (!(PyProof.Rows.lexLt itemOrd (PySem.W.keyToks (pdOf (iL (y :: b)))) (PySem.W.keyToks (pdOf (iL (x :: a)))))) = _
  rw [pdOf_iL, pdOf_iL]
  show (!(PyProof.Rows.lexLt itemOrd (.inl 1 :: .inl y :: PySem.W.keyToksAll (b.map .int)) (.inl 1 :: .inl x :: PySem.W.keyToksAll (a.map .int)))) = _
  rw [lex_cons, lex_cons]
  have h1 : ¬ y < x := by omega
  simp [itemOrd, itemLt_int, h, h1]
/-! what gSorted answers then -/
theorem gSorted_of {ds : List D} {ps : List PyData} (h1 : pdL ds = some ps) (h2 : sortable ps = true) (h3 : ds.length ≤ sizeLine) (h4 : ds.Pairwise fun a b => PySem.W.dataLe false pdOf a b = true) : gSorted [.lst ds] = some (.new (.lst ds)) := by
  show ((pdL ds).bind fun ps => if sortable ps = true ∧ ds.length ≤ sizeLine then some (OV.new (.lst (sortD ds))) else none) = _
  rw [h1]
  simp only [Option.bind_some]
  rw [if_pos ⟨h2, h3⟩, sortD, List.mergeSort_of_pairwise h4]
theorem pdL_iL (L : List (List Int)) : pdL (L.map iL) = some (L.map fun is => .list (is.map .int)) := by
  induction L with
  | nil => rfl
  | cons l L ih => simp only [List.map_cons, pdL, pd_iL, ih]
theorem alike_ints : ∀ a b : List Int, PySem.W.alikeAll (a.map .int) (b.map .int) = true
  | [], _ => by cases ‹List Int› <;> rfl
  | _ :: _, [] => rfl
  | x :: a, y :: b => by simp [PySem.W.alikeAll, PySem.W.alike, alike_ints a b]
theorem sortable_iL (L : List (List Int)) : sortable (L.map fun is => .list (is.map .int)) = true := by
  simp only [sortable, Bool.and_eq_true, Bool.or_eq_true, List.all_eq_true, List.mem_map, forall_exists_index, and_imp, forall_apply_eq_imp_iff₂, decide_eq_true_eq]
  refine ⟨⟨fun a _ b _ => alike_ints a b, .inr fun a _ => rfl⟩, fun a _ => ?_⟩
  have : ∀ is : List Int, PySem.PyData.depthAll (is.map PyData.int) ≤ 1 := fun is => by
    induction is with
    | nil => simp [PySem.PyData.depthAll]
    | cons i is ih => simp [PySem.PyData.depthAll, PySem.PyData.depth] at ih ⊢; omega
  have := this a
  simp [PySem.PyData.depth]
  omega
theorem pdL_strs (l : List Str) : pdL (l.map D.str) = some (l.map .str) := by
  induction l with
  | nil => rfl
  | cons x l ih => simp only [List.map_cons, pdL, D.pd, ih]
theorem sortable_strs (l : List Str) : sortable (l.map PyData.str) = true := by
  simp only [sortable, Bool.and_eq_true, Bool.or_eq_true, List.all_eq_true, List.mem_map, forall_exists_index, and_imp, forall_apply_eq_imp_iff₂, decide_eq_true_eq]
  refine ⟨⟨fun a _ b _ => rfl, ?_⟩, fun a _ => by simp [PySem.PyData.depth]⟩
  exact .inr fun a _ => rfl
theorem pdL_ints (l : List Int) : pdL (l.map D.int) = some (l.map .int) := by
  induction l with
  | nil => rfl
  | cons x l ih => simp only [List.map_cons, pdL, D.pd, ih]
theorem sortable_ints (l : List Int) : sortable (l.map PyData.int) = true := by
  simp only [sortable, Bool.and_eq_true, Bool.or_eq_true, List.all_eq_true, List.mem_map, forall_exists_index, and_imp, forall_apply_eq_imp_iff₂, decide_eq_true_eq]
  refine ⟨⟨fun a _ b _ => rfl, ?_⟩, fun a _ => by simp [PySem.PyData.depth]⟩
  exact .inr fun a _ => rfl
/-- ints, in whatever order: they come out in order -/
theorem gSorted_ints {l m : List Int} (hp : l.Perm m) (hm : m.Pairwise (· < ·)) (hl : l.length ≤ sizeLine) : gSorted [iL l] = some (.new (iL m)) := by
  show ((pdL (l.map D.int)).bind fun ps => if sortable ps = true ∧ (l.map D.int).length ≤ sizeLine then some (OV.new (.lst (sortD (l.map D.int)))) else none) = _
  rw [pdL_ints]
  simp only [Option.bind_some]
  rw [if_pos ⟨sortable_ints l, by simpa using hl⟩]
  have h1 : (sortD (l.map D.int)) = (sortI l).map D.int := by
    unfold sortD sortI
    exact (List.map_mergeSort (r := fun a b : Int => decide (a ≤ b)) (s := PySem.W.dataLe false pdOf) (f := D.int) (fun a _ b _ => (dLe_int a b).symm)).symm
  have h2 : sortI l = m := by
    have h3 := sortI_perm l
    have h4 : (sortI l).Pairwise (fun a b => decide (a ≤ b) = true) := List.pairwise_mergeSort (le := fun a b : Int => decide (a ≤ b)) (fun a b c h1 h2 => by simp at *; omega) (fun a b => by simp; omega) l
    exact List.Perm.eq_of_pairwise (le := fun a b : Int => decide (a ≤ b) = true) (fun a b _ _ h1 h2 => by simp at h1 h2; omega) h4 (hm.imp fun h => by simp; omega) (h3.trans hp)
  rw [h1, h2]
end K83

set_option Elab.async false
set_option linter.all false
set_option autoImplicit false
set_option maxRecDepth 100000
namespace K83
open PySem PySem.Spec PyProof.Rows L2 L2.Tl
/-! ### the lots -/
section
variable (room : Int) (r : R) (s : Nat → Int)
/-- the things of box b, of the first t -/
def lotI (t b : Nat) : List Int := (lotN room r s t b).map fun (i : Nat) => (i : Int)
def lots (n : Nat) : List (List Int) := (List.range (kk room r s n)).map (lotI room r s n)
theorem lotI_succ (t b : Nat) : lotI room r s (t + 1) b = lotI room r s t b ++ if bx room r s t = b then [(t : Int)] else [] := by
  unfold lotI
  rw [lotN_succ, List.map_append]
  congr 1
  split <;> rfl
theorem mem_lotI {t b : Nat} {i : Int} : i ∈ lotI room r s t b ↔ ∃ j, i = (j : Nat) ∧ j < t ∧ bx room r s j = b := by
  unfold lotI
  rw [List.mem_map]
  constructor
  · rintro ⟨j, h, rfl⟩
    exact ⟨j, rfl, (mem_lotN room r s).mp h⟩
  · rintro ⟨j, rfl, h⟩
    exact ⟨j, (mem_lotN room r s).mpr h, rfl⟩
theorem lotI_inc (t b : Nat) : (lotI room r s t b).Pairwise (· < ·) := by
  unfold lotI lotN
  rw [List.pairwise_map]
  exact (List.Pairwise.filter _ List.pairwise_lt_range).imp fun h => by omega
theorem lotI_len (t b : Nat) : (lotI room r s t b).length ≤ t := by
  unfold lotI lotN
  rw [List.length_map]
  have := List.length_filter_le (fun i => decide (bx room r s i = b)) (List.range t)
  simpa using this
theorem lotI_cons {t b : Nat} (h : b < kk room r s t) : ∃ j l, lotI room r s t b = ((j : Nat) : Int) :: l ∧ bx room r s j = b ∧ j < t ∧ ∀ i, i < j → bx room r s i ≠ b := by
  have hne : lotI room r s t b ≠ [] := fun z => by
    obtain ⟨j, h1, h2⟩ := occ room r s h
    have : (j : Int) ∈ lotI room r s t b := (mem_lotI room r s).mpr ⟨j, rfl, h1, h2⟩
    rw [z] at this
    cases this
  obtain ⟨x, l, hx⟩ := List.exists_cons_of_ne_nil hne
  have hm : x ∈ lotI room r s t b := by rw [hx]; simp
  obtain ⟨j, rfl, h1, h2⟩ := (mem_lotI room r s).mp hm
  refine ⟨j, l, hx, h2, h1, fun i hi he => ?_⟩
  have hin : (i : Int) ∈ lotI room r s t b := (mem_lotI room r s).mpr ⟨i, rfl, by omega, he⟩
  have hp := lotI_inc room r s t b
  rw [hx] at hin hp
  rw [List.pairwise_cons] at hp
  rcases List.mem_cons.mp hin with e | e
  · omega
  · have := hp.1 _ e
    omega
theorem lots_len (n : Nat) : (lots room r s n).length = kk room r s n := by simp [lots]
theorem lots_sorted (n : Nat) : ((lots room r s n).map iL).Pairwise fun a b => PySem.W.dataLe false pdOf a b = true := by
  unfold lots
  rw [List.map_map, List.pairwise_map]
  refine (List.pairwise_lt_range (n := kk room r s n)).imp_of_mem fun {b b'} hb hb' hlt => ?_
  obtain ⟨j, l, h1, h2, _, h3⟩ := lotI_cons room r s (List.mem_range.mp hb)
  obtain ⟨j', l', g1, g2, _, g3⟩ := lotI_cons room r s (List.mem_range.mp hb')
  show PySem.W.dataLe false pdOf (iL (lotI room r s n b)) (iL (lotI room r s n b')) = true
  rw [h1, g1]
  refine dLe_lst _ _ _ _ ?_
  obtain ⟨i, hi, he⟩ := earlier room r s hlt g2
  have : ¬ i < j := fun q => h3 i q he
  omega
theorem v_sorted_lots (n : Nat) (hn : n ≤ 7) : gSorted [.lst ((lots room r s n).map iL)] = some (.new (.lst ((lots room r s n).map iL))) :=
  gSorted_of (pdL_iL _) (sortable_iL _) (sz63 (by rw [List.length_map, lots_len]; have := kk_le room r s n; omega)) (lots_sorted room r s n)
/-- a lot's size -/
theorem lot_sum (is : List Int) (n b : Nat) (hn : n = is.length) : ((lotI room r (lv is) n b).map fun i => lv is i.toNat).sum = ((lotN room r (lv is) n b).map (lv is)).sum := by
  unfold lotI
  rw [List.map_map]
  rfl
/-- all the lots, one behind the other -/
theorem lots_perm (n : Nat) : (lots room r s n).flatten.Perm (rI n) := by
  induction n with
  | zero =>
    have : kk room r s 0 = 0 := rfl
    simp [lots, this, rI]
  | succ t ih =>
    have hr : rI (t + 1) = rI t ++ [(t : Int)] := by simp [rI, List.range_succ]
    rw [hr]
    refine List.Perm.trans ?_ (List.Perm.append_right _ ih)
    have key : ∀ k (f : Nat → List Int) (b : Nat) (x : Int), b < k → ((List.range k).map fun c => f c ++ if b = c then [x] else []).flatten.Perm (((List.range k).map f).flatten ++ [x]) := by
      intro k f b x
      induction k with
      | zero => intro h; omega
      | succ k ihk =>
        intro h
        rw [List.range_succ, List.map_append, List.map_append, List.flatten_append, List.flatten_append]
        simp only [List.map_cons, List.map_nil, List.flatten_cons, List.flatten_nil, List.append_nil]
        by_cases hb : b = k
        · subst hb
          have : ((List.range b).map fun c => f c ++ if b = c then [x] else []) = (List.range b).map f := List.map_congr_left fun c hc => by
            have := List.mem_range.mp hc
            rw [if_neg (by omega), List.append_nil]
          rw [this, if_pos rfl, List.append_assoc]
        · rw [if_neg hb, List.append_nil]
          refine ((ihk (by omega)).append_right _).trans ?_
          rw [List.append_assoc, List.append_assoc]
          exact List.Perm.append_left _ List.perm_append_comm
    have hk := kk_succ room r s t
    have hl : lots room r s (t + 1) = (List.range (kk room r s (t + 1))).map fun c => lotI room r s t c ++ if bx room r s t = c then [(t : Int)] else [] := by
      unfold lots
      exact List.map_congr_left fun c _ => lotI_succ room r s t c
    rw [hl]
    refine (key _ _ _ _ (bx_lt_succ room r s t)).trans ?_
    refine List.Perm.append_right _ ?_
    rw [hk]
    split
    · rw [List.range_succ, List.map_append, List.flatten_append]
      have : lotI room r s t (kk room r s t) = [] := by
        rw [List.eq_nil_iff_forall_not_mem]
        intro i hi
        obtain ⟨j, rfl, h1, h2⟩ := (mem_lotI room r s).mp hi
        have := bx_lt room r s h1
        omega
      simp [this, lots]
    · exact .refl _
end
end K83

set_option Elab.async false
set_option linter.all false
set_option autoImplicit false
set_option maxRecDepth 100000
namespace K83
open PySem PySem.Spec PyProof.Rows L2 L2.Tl
/-! ### by_boxes -/
def kN (k : Nat) : List Key := (List.range k).map fun (b : Nat) => (Sum.inl (b : Int) : Key)
theorem keyAt_map (f : Nat → Key) (hf : ∀ a b, f a = f b → a = b) : ∀ (m a i : Nat), keyAt ((List.range' a m).map f) (f (a + i)) = if i < m then some i else none
  | 0, a, i => by simp [keyAt]
  | m + 1, a, i => by
    rw [List.range'_succ, List.map_cons]
    show (if f a = f (a + i) then some 0 else (keyAt ((List.range' (a + 1) m).map f) (f (a + i))).map (· + 1)) = _
    by_cases hi : i = 0
    · subst hi; simp
    · have h1 : ¬ f a = f (a + i) := fun e => by have := hf _ _ e; omega
      rw [if_neg h1, show a + i = a + 1 + (i - 1) by omega, keyAt_map f hf m (a + 1) (i - 1)]
      by_cases hm : i < m + 1
      · rw [if_pos (by omega), if_pos hm]
        simp
        omega
      · rw [if_neg (by omega), if_neg hm]
        rfl
theorem keyAt_kN (k b : Nat) : keyAt (kN k) (Sum.inl (b : Int)) = if b < k then some b else none := by
  have := keyAt_map (fun (b : Nat) => (Sum.inl (b : Int) : Key)) (fun a b h => by have := Sum.inl.inj h; omega) k 0 b
  rw [Nat.zero_add] at this
  unfold kN
  rw [List.range_eq_range']
  exact this
section
variable (room : Int) (r : R) (s : Nat → Int)
def lsN (t : Nat) : List (List D) := (List.range (kk room r s t)).map fun b => (lotI room r s t b).map D.int
theorem grp_step (t : Nat) (ht : t < 7) : grpPut (kN (kk room r s t)) (lsN room r s t) (Sum.inl (bx room r s t : Int)) (.int (t : Int)) = some (kN (kk room r s (t + 1)), lsN room r s (t + 1)) := by
  have hk := kk_succ room r s t
  have hkl := kk_le room r s t
  have hle := bx_le room r s t
  unfold grpPut
  rw [if_pos (by simp [kN]; omega), keyAt_kN]
  by_cases hb : bx room r s t < kk room r s t
  · rw [if_pos hb]
    rw [if_neg (by omega)] at hk
    have h1 : (lsN room r s t)[bx room r s t]? = some ((lotI room r s t (bx room r s t)).map D.int) := by
      unfold lsN
      rw [List.getElem?_map, List.getElem?_range hb]
      rfl
    simp only [h1, Option.bind_some]
    have h2 := lotI_len room r s t (bx room r s t)
    rw [if_pos (by rw [sizeLine_eq, List.length_map]; omega), hk]
    refine congrArg some (Prod.ext rfl ?_)
    show (lsN room r s t).set _ _ = _
    refine List.ext_getElem? fun i => ?_
    rw [List.getElem?_set]
    unfold lsN
    rw [hk]
    simp only [List.length_map, List.length_range, List.getElem?_map]
    by_cases hi : i < kk room r s t
    · rw [List.getElem?_range hi]
      simp only [Option.map_some]
      by_cases he : bx room r s t = i
      · rw [if_pos he, if_pos (by omega), lotI_succ, if_pos he, he]
        simp
      · rw [if_neg he, lotI_succ, if_neg he]
        simp
    · rw [if_neg (by omega), List.getElem?_eq_none (by simp; omega)]
      rfl
  · rw [if_neg hb]
    have hbk : bx room r s t = kk room r s t := by omega
    rw [if_pos hbk] at hk
    refine congrArg some (Prod.ext ?_ ?_)
    · show kN _ ++ [_] = _
      rw [hk, hbk]
      unfold kN
      rw [List.range_succ, List.map_append]
      rfl
    · show lsN _ _ _ _ ++ [[_]] = _
      unfold lsN
      rw [hk, List.range_succ, List.map_append]
      have h0 : lotI room r s t (kk room r s t) = [] := by
        rw [List.eq_nil_iff_forall_not_mem]
        intro i hi
        obtain ⟨j, rfl, h1, h2⟩ := (mem_lotI room r s).mp hi
        have := bx_lt room r s h1
        omega
      congr 1
      · refine List.map_congr_left fun b hb' => ?_
        have := List.mem_range.mp hb'
        rw [lotI_succ, if_neg (by omega), List.append_nil]
      · simp only [List.map_cons, List.map_nil, List.cons.injEq, and_true]
        rw [lotI_succ, h0, if_pos hbk]
        rfl
theorem grp_loop (n : Nat) (hn : n ≤ 7) (x0 x1 x2 : Option SV) : ∀ (j t : Nat) (x4 x5 : Option SV), t + j = n → ∃ y4 y5, (y4 = x4 ∨ ∃ d, y4 = some (.fz d)) ∧ (y5 = x5 ∨ ∃ d, y5 = some (.fz d)) ∧
    loopG 3 (.tp [4, 5]) (fVar 5) (fVar 4) ((List.range' t j).map fun (i : Nat) => .tup [.int (i : Int), .int (bx room r s i)]) ([x0, x1, x2, none, x4, x5, none, none], kN (kk room r s t), lsN room r s t) = some ([x0, x1, x2, none, y4, y5, none, none], kN (kk room r s n), lsN room r s n)
  | 0, t, x4, x5, h => by
    have : t = n := by omega
    subst this
    exact ⟨x4, x5, .inl rfl, .inl rfl, rfl⟩
  | j + 1, t, x4, x5, h => by
    obtain ⟨y4, y5, h4, h5, e⟩ := grp_loop n hn x0 x1 x2 j (t + 1) (some (.fz (.int (t : Int)))) (some (.fz (.int (bx room r s t)))) (by omega)
    refine ⟨y4, y5, ?_, ?_, ?_⟩
    · rcases h4 with h4 | h4
      · exact .inr ⟨_, h4⟩
      · exact .inr h4
    · rcases h5 with h5 | h5
      · exact .inr ⟨_, h5⟩
      · exact .inr h5
    · rw [List.range'_succ, List.map_cons, ← e]
      have e1 := grp_step room r s t (by omega)
      have dk : dKey (.int (bx room r s t : Int)) = some (Sum.inl (bx room r s t : Int)) := rfl
      have hl : ∀ d ds (g : Gs), loopG 3 (.tp [4, 5]) (fVar 5) (fVar 4) (d :: ds) g = (tgSet (.tp [4, 5]) d g.1).bind fun δ1 => if noAt 3 δ1 = true then (grpTurn 3 (fVar 5) (fVar 4) (δ1, g.2)).bind fun g' => loopG 3 (.tp [4, 5]) (fVar 5) (fVar 4) ds g' else none := fun _ _ _ => rfl
      have ht : ∀ g : Gs, grpTurn 3 (fVar 5) (fVar 4) g = (fVar 5 g.1).bind fun p => if noAt 3 p.2 = true then (peek p.1 p.2).bind fun dk => (dKey dk).bind fun k => (fVar 4 p.2).bind fun q => (esc q.1 q.2).bind fun s => if noAt 3 s.2 = true then (grpPut g.2.1 g.2.2 k s.1).map fun w => (s.2, w.1, w.2) else none else none := fun _ => rfl
      rw [hl]
      generalize kN (kk room r s t) = K1 at *
      generalize lsN room r s t = L1 at *
      simp -implicitDefEqProofs [ht, dk, e1]
end
end K83

set_option Elab.async false
set_option linter.all false
set_option autoImplicit false
set_option maxRecDepth 100000
namespace K83
open PySem PySem.Spec PyProof.Rows L2 L2.Tl
def szI (is lot : List Int) : Int := (lot.map fun i => lv is i.toNat).sum
theorem v_size_there (is lot : List Int) (h : ∀ i ∈ lot, 0 ≤ i ∧ i < is.length) (hl : lot.length ≤ sizeLine) : g_size_there [.fz (iL is), .fz (iL lot)] = some (.val (.int (szI is lot)), []) := by
  have e1 := lcM_mapF (vs := [2]) (t := .nm 2) (c := fYes) (f := (fV (fOp2 dIx (fVar 0) (fVar 2)))) (δ := [some (.fz (iL is)), some (.fz (iL lot)), none]) D.int (fun i => .int (lv is i.toNat)) (xs := lot) (fun i hi => by
    obtain ⟨h0, h1⟩ := h i hi
    have e : i = ((i.toNat : Nat) : Int) := by omega
    have e2 : atI (is.map D.int) i = some (.int (lv is i.toNat)) := by
      have := atI_lv (L := is) (i := i.toNat) (by omega)
      rw [← e] at this
      exact this
    simp -implicitDefEqProofs [lcTurn, e2])
  have e2 := intsOf_mapF (fun i : Int => lv is i.toNat) lot
  unfold szI
  simp -implicitDefEqProofs [g_size_there, m_size_there, f_size_there, hl, e1, e2]
section
variable (room : Int) (r : R) (is : List Int)
theorem szI_lot (b : Nat) : szI is (lotI room r (lv is) is.length b) = ((lotN room r (lv is) is.length b).map (lv is)).sum := lot_sum room r is is.length b rfl
theorem szI_le (hs : ∀ i, lv is i ≤ room) {b : Nat} (hb : b < kk room r (lv is) is.length) : szI is (lotI room r (lv is) is.length b) ≤ room := by
  rw [szI_lot]
  have h1 := left_is room r (lv is) is.length b hb
  have h2 := left_nn room r (lv is) hs is.length b hb
  omega
theorem lot_in {b : Nat} : ∀ i ∈ lotI room r (lv is) is.length b, 0 ≤ i ∧ i < is.length := fun i hi => by
  obtain ⟨j, rfl, h1, h2⟩ := (mem_lotI room r (lv is)).mp hi
  omega
theorem bL_enum : gEnum [iL (bL room r is)] = some ((List.range' 0 is.length).map fun (i : Nat) => .tup [.int (i : Int), .int (bx room r (lv is) i)]) := by
  show some (enumD 0 ((bL room r is).map D.int)) = _
  have hl : (bL room r is).length = is.length := by simp [bL]
  rw [enumD_from, hl, ← List.range_eq_range']
  refine congrArg some (List.map_congr_left fun i hi => ?_)
  have hi := List.mem_range.mp hi
  have : lv (bL room r is) i = bx room r (lv is) i := by
    unfold lv bL
    rw [List.getD_eq_getElem?_getD, List.getElem?_map, List.getElem?_range hi]
    rfl
  rw [this, Nat.zero_add]
/-- the groups as a dict -/
theorem grp_dict : ((kN (kk room r (lv is) is.length)).zip (lsN room r (lv is) is.length)).map (fun kv => (kD kv.1, D.lst kv.2)) = (rI (kk room r (lv is) is.length)).map fun b => (D.int b, iL (lotI room r (lv is) is.length b.toNat)) := by
  unfold kN lsN rI
  rw [List.map_map]
  have : ∀ (k : Nat) (f : Nat → Key) (g : Nat → List D), ((List.range k).map f).zip ((List.range k).map g) = (List.range k).map fun i => (f i, g i) := fun k f g => by
    rw [List.zip_map']
  rw [this, List.map_map]
  rfl
theorem lots_rI : (rI (kk room r (lv is) is.length)).map (fun b => iL (lotI room r (lv is) is.length b.toNat)) = (lots room r (lv is) is.length).map iL := by
  unfold rI lots
  rw [List.map_map, List.map_map]
  rfl
theorem v_by_boxes (h7 : is.length ≤ 7) (hs : ∀ i, lv is i ≤ room) : g_by_boxes [.fz (iL is), .fz (.int room), .fz (iL (bL room r is))] = some (.val (.lst ((lots room r (lv is) is.length).map iL)), []) := by
  have hk := kk_le room r (lv is) is.length
  obtain ⟨y4, y5, h4, h5, e1⟩ := grp_loop room r (lv is) is.length h7 (some (.fz (iL is))) (some (.fz (.int room))) (some (.fz (iL (bL room r is)))) is.length 0 none none (by omega)
  have e2 := bL_enum room r is
  have e3 := grp_dict room r is
  have k0 : kN (kk room r (lv is) 0) = [] := rfl
  have l0 : lsN room r (lv is) 0 = [] := rfl
  rw [k0, l0] at e1
  have e4 : ∀ (x0 x1 x2 x4 : Option SV), lcM [5] (.nm 5) fYes (fV (fOp2 dIx (fVar 3) (fVar 5))) ((rI (kk room r (lv is) is.length)).map D.int) [x0, x1, x2, some (.fz (encR (rI (kk room r (lv is) is.length)) fun b => iL (lotI room r (lv is) is.length b.toNat))), x4, none, none, none] = some ((lots room r (lv is) is.length).map iL, [x0, x1, x2, some (.fz (encR (rI (kk room r (lv is) is.length)) fun b => iL (lotI room r (lv is) is.length b.toNat))), x4, none, none, none]) := fun x0 x1 x2 x4 => by
    rw [← lots_rI]
    exact lcM_mapF D.int (fun b => iL (lotI room r (lv is) is.length b.toNat)) (xs := rI (kk room r (lv is) is.length)) (fun b hb => by
      have := dIx_R (ks := rI (kk room r (lv is) is.length)) (g := fun b => iL (lotI room r (lv is) is.length b.toNat)) hb
      generalize encR (rI (kk room r (lv is) is.length)) (fun b => iL (lotI room r (lv is) is.length b.toNat)) = EN at *
      simp -implicitDefEqProofs [lcTurn, this])
  have e5 := v_sorted_lots room r (lv is) is.length h7
  have e6 : ∀ (x2 x3 x4 x5 x6 : Option SV), lcM [7] (.nm 7) (fT (fV (fOp2 dGt (fV (fCall g_size_there (fMv (fVar 0) (fMv (fVar 7) (fM0))) [])) (fVar 1)))) (fVar 7) ((lots room r (lv is) is.length).map iL) [some (.fz (iL is)), some (.fz (.int room)), x2, x3, x4, x5, x6, none] = some ([], [some (.fz (iL is)), some (.fz (.int room)), x2, x3, x4, x5, x6, none]) := fun x2 x3 x4 x5 x6 => by
    have hh := lcM_filterF (vs := [7]) (t := .nm 7) (c := (fT (fV (fOp2 dGt (fV (fCall g_size_there (fMv (fVar 0) (fMv (fVar 7) (fM0))) [])) (fVar 1))))) (f := fVar 7) (δ := [some (.fz (iL is)), some (.fz (.int room)), x2, x3, x4, x5, x6, none]) iL (fun _ => false) iL (xs := lots room r (lv is) is.length) (fun lot hlot => by
      obtain ⟨b, hb, rfl⟩ := List.mem_map.mp hlot
      have hb := List.mem_range.mp hb
      have q1 := v_size_there is (lotI room r (lv is) is.length b) (lot_in room r is) (sz63 (by have := lotI_len room r (lv is) is.length b; omega))
      have q2 := szI_le room r is hs hb
      have q3 : ¬ room < szI is (lotI room r (lv is) is.length b) := by omega
      simp -implicitDefEqProofs [lcTurn, q1, q3])
    rw [List.filter_eq_nil_iff.mpr (by simp)] at hh
    exact hh
  have hsq : seqOf (encR (rI (kk room r (lv is) is.length)) fun b => iL (lotI room r (lv is) is.length b.toNat)) = some ((rI (kk room r (lv is) is.length)).map D.int) := by
    show some (((rI (kk room r (lv is) is.length)).map fun k => (D.int k, _)).map (·.1)) = _
    rw [List.map_map]; rfl
  have hle : ((rI (kk room r (lv is) is.length)).map D.int).length ≤ sizeLine := sz63 (by rw [List.length_map, rI_len]; omega)
  have hll : ((lots room r (lv is) is.length).map iL).length ≤ sizeLine := sz63 (by rw [List.length_map, lots_len]; omega)
  have henc : D.dct false ((rI (kk room r (lv is) is.length)).map fun b => (D.int b, iL (lotI room r (lv is) is.length b.toNat))) = encR (rI (kk room r (lv is) is.length)) fun b => iL (lotI room r (lv is) is.length b.toNat) := rfl
  have dn : dNe (.lst []) (.lst []) = some (.val (.bl false)) := rfl
  rw [← e3] at henc
  have henc2 : D.dct false (((kN (kk room r (lv is) is.length)).zip (lsN room r (lv is) is.length)).map fun (kv : Key × List D) => (kD kv.1, D.lst kv.2)) = encR (rI (kk room r (lv is) is.length)) fun b => iL (lotI room r (lv is) is.length b.toNat) := henc
  generalize encR (rI (kk room r (lv is) is.length)) (fun b => iL (lotI room r (lv is) is.length b.toNat)) = EN at *
  generalize (lots room r (lv is) is.length).map iL = LL at *
  generalize (rI (kk room r (lv is) is.length)).map D.int = RI at *
  generalize kN (kk room r (lv is) is.length) = K1 at *
  generalize lsN room r (lv is) is.length = L1 at *
  generalize bL room r is = BB at *
  rcases h4 with rfl | ⟨d4, rfl⟩ <;> rcases h5 with rfl | ⟨d5, rfl⟩ <;>
    simp -implicitDefEqProofs [g_by_boxes, m_by_boxes, f_by_boxes, e1, e2, henc2, hsq, hle, hll, e4, e5, e6, dn]
end
end K83

set_option Elab.async false
set_option linter.all false
set_option autoImplicit false
set_option maxRecDepth 100000
namespace K83
open PySem PySem.Spec PyProof.Rows L2 L2.Tl
/-! ### the checks -/
@[simp] theorem fAS_eq (f : Fe) (r : Fa) (δ : Dl) : fAS f r δ = (f δ).bind fun p => (esc p.1 p.2).bind fun q => match q.1 with
  | .lst xs => (r q.2).map fun s => (xs ++ s.1, s.2)
  | .tup xs => (r q.2).map fun s => (xs ++ s.1, s.2)
  | _ => none := rfl
theorem v_check_rule (r : R) : g_check_rule [.fz (.str r.s)] = some (.val .non, []) := by
  cases r <;> rfl
theorem v_check_held (is : List Int) (room : Int) (h1 : ∀ i ∈ is, 1 ≤ i ∧ i ≤ room) (h0 : 0 ≤ room) (hl : is.length ≤ 7) : g_check_held [.fz (iL is), .fz (.int room)] = some (.val .non, []) := by
  have e1 := v_check_sizes is (fun i hi => (h1 i hi).1) (sz63 (by omega))
  have e2 : g_is_count [.fz (.int room), .fz (.int 0)] = some (.val (.bl true), []) := by
    rw [v_is_count, decide_eq_true (by omega)]
  have hz : is.length + 1 ≤ sizeLine := sz63 (by omega)
  obtain ⟨m, hm⟩ : ∃ m, (0 :: is).max? = some m := by
    cases h : (0 :: is).max? with
    | none => simp at h
    | some m => exact ⟨m, rfl⟩
  have hm2 : m ≤ room := by
    have := (List.max?_eq_some_iff.mp hm).1
    rcases List.mem_cons.mp this with q | q
    · omega
    · exact (h1 m q).2
  have hm3 : ¬ room < m := by omega
  have e3 : intsOf (.int 0 :: is.map D.int) = some (0 :: is) := intsOf_map (0 :: is)
  simp -implicitDefEqProofs [g_check_held, m_check_held, f_check_held, e1, e2, hz, e3, hm, hm3]
theorem v_check_all (r : R) (is : List Int) (room : Int) (h1 : ∀ i ∈ is, 1 ≤ i ∧ i ≤ room) (h0 : 0 ≤ room) (hl : is.length ≤ 7) : g_check_all [.fz (.str r.s), .fz (iL is), .fz (.int room)] = some (.val .non, []) := by
  have e1 := v_check_rule r
  have e2 := v_check_held is room h1 h0 hl
  simp -implicitDefEqProofs [g_check_all, m_check_all, f_check_all, e1, e2]
theorem v_boxes_by (r : R) (is : List Int) (room : Int) (h1 : ∀ i ∈ is, 1 ≤ i ∧ i ≤ room) (h0 : 0 ≤ room) (hl : is.length ≤ 7) : g_boxes_by [.fz (.str r.s), .fz (iL is), .fz (.int room)] = some (.new (iL (bL room r is)), []) := by
  have e1 := v_check_all r is room h1 h0 hl
  have e2 := v_plain_boxes room r is hl
  generalize bL room r is = BB at *
  simp -implicitDefEqProofs [g_boxes_by, m_boxes_by, f_boxes_by, e1, e2]
theorem lv_le {is : List Int} {room : Int} (h1 : ∀ i ∈ is, 1 ≤ i ∧ i ≤ room) (h0 : 0 ≤ room) (i : Nat) : lv is i ≤ room := by
  unfold lv
  by_cases hi : i < is.length
  · rw [List.getD_eq_getElem?_getD, List.getElem?_eq_getElem hi]
    exact (h1 _ (List.getElem_mem hi)).2
  · rw [List.getD_eq_getElem?_getD, List.getElem?_eq_none (by omega)]
    exact h0
theorem v_packed_by (r : R) (is : List Int) (room : Int) (h1 : ∀ i ∈ is, 1 ≤ i ∧ i ≤ room) (h0 : 0 ≤ room) (hl : is.length ≤ 7) : g_packed_by [.fz (.str r.s), .fz (iL is), .fz (.int room)] = some (.val (.lst ((lots room r (lv is) is.length).map iL)), []) := by
  have e1 := v_check_all r is room h1 h0 hl
  have e2 := v_plain_boxes room r is hl
  have e3 := v_by_boxes room r is hl (lv_le h1 h0)
  generalize bL room r is = BB at *
  generalize (lots room r (lv is) is.length).map iL = LL at *
  simp -implicitDefEqProofs [g_packed_by, m_packed_by, f_packed_by, e1, e2, e3]
theorem v_check_things (is : List Int) (room : Int) (h1 : ∀ i ∈ is, 1 ≤ i ∧ i ≤ room) (h0 : 0 ≤ room) (hl : is.length ≤ 7) : g_check_things [.fz (iL is), .fz (.int room)] = some (.val .non, []) := by
  have e1 := v_check_sizes is (fun i hi => (h1 i hi).1) (sz63 (by omega))
  have e2 := v_check_room room h0
  simp -implicitDefEqProofs [g_check_things, m_check_things, f_check_things, e1, e2]
/-! ### is_packing -/
theorem zip_tail : ∀ {l : List Int}, l.Pairwise (· < ·) → ∀ a b, (a, b) ∈ l.zip l.tail → a < b
  | [], _, a, b, h => by simp at h
  | [_], _, a, b, h => by simp at h
  | x :: y :: l, hp, a, b, h => by
    rw [List.pairwise_cons] at hp
    simp only [List.tail_cons, List.zip_cons_cons, List.mem_cons, Prod.mk.injEq] at h
    rcases h with ⟨rfl, rfl⟩ | h
    · exact hp.1 _ (by simp)
    · exact zip_tail hp.2 a b h
theorem v_is_lot (is lot : List Int) (h0 : lot.Pairwise (· < ·)) (h : ∀ i ∈ lot, 0 ≤ i ∧ i < is.length) (hl : lot.length ≤ sizeLine) : g_is_lot_there [.fz (iL is), .fz (iL lot)] = some (.val (.bl true), []) := by
  simp -implicitDefEqProofs [g_is_lot_there, m_is_lot_there, f_is_lot_there, hl]
  rw [lcM_mapF D.int (fun i => .bl true) (fun i hi => by simp -implicitDefEqProofs [lcTurn, v_is_count, h i hi])]
  simp -implicitDefEqProofs [blsOf_mapF (fun _ => true), cutD_from]
  rw [← List.map_tail, zipD_ints]
  simp -implicitDefEqProofs
  rw [if_pos (by omega)]
  rw [lcM_mapF (fun p : Int × Int => D.tup [.int p.1, .int p.2]) (fun p => .bl (decide (p.1 < p.2))) (fun p hp => by simp -implicitDefEqProofs [lcTurn])]
  simp -implicitDefEqProofs [blsOf_mapF (fun p : Int × Int => decide (p.1 < p.2))]
  exact fun a b hab => zip_tail h0 a b hab
theorem eqvL_iL : ∀ L : List (List Int), eqvL (L.map iL) (L.map iL) = true
  | [] => rfl
  | l :: L => by
    show (D.eqv (iL l) (iL l) && eqvL (L.map iL) (L.map iL)) = true
    rw [eqvL_iL L]
    show (eqvL (l.map .int) (l.map .int) && true) = true
    rw [eqvL_ints]
    simp
theorem dNe_lots (L : List (List Int)) : dNe (.lst (L.map iL)) (.lst (L.map iL)) = some (.val (.bl false)) := by
  have h1 : plainL (L.map iL) = true := plainL_of fun x hx => by
    obtain ⟨l, _, rfl⟩ := List.mem_map.mp hx
    simp
  have h2 : depL (L.map iL) ≤ 1 := depL_of fun x hx => by
    obtain ⟨l, _, rfl⟩ := List.mem_map.mp hx
    simp
  have h3 : eqOk (.lst (L.map iL)) (.lst (L.map iL)) = true := by
    simp only [eqOk, Bool.and_eq_true, decide_eq_true_eq]
    refine ⟨h1, h1, ?_⟩
    simp
    omega
  unfold dNe
  rw [if_pos h3]
  show some (OV.val (.bl (!eqvL (L.map iL) (L.map iL)))) = _
  rw [eqvL_iL]
  rfl
theorem cat_loop (x0 x1 x2 : Option SV) : ∀ (L : List (List Int)) (acc : List Int) (x3 : Option SV), acc.length + L.flatten.length ≤ 1000 → ∃ y3, loopM (.nm 3) (sSet 4 (fV (fOp2 dAdd (fVar 4) (fVar 3)))) (L.map iL) [x0, x1, x2, x3, some (.fz (iL acc))] = some (.next, [x0, x1, x2, y3, some (.fz (iL (acc ++ L.flatten)))])
  | [], acc, x3, _ => ⟨x3, by simp [loopM]⟩
  | l :: L, acc, x3, h => by
    simp only [List.flatten_cons, List.length_append] at h
    obtain ⟨y3, e⟩ := cat_loop x0 x1 x2 L (acc ++ l) (some (.fz (iL l))) (by simp only [List.length_append]; omega)
    refine ⟨y3, ?_⟩
    rw [List.map_cons, List.flatten_cons, ← List.append_assoc, ← e]
    refine loopM_next ?_
    have hz : acc.length + l.length ≤ sizeLine := sz63 (by omega)
    simp -implicitDefEqProofs [hz]
section
variable (room : Int) (r : R) (is : List Int)
theorem v_packing_there (h7 : is.length ≤ 7) (hs : ∀ i, lv is i ≤ room) : g_is_packing_there [.fz (iL is), .fz (.int room), .fz (.lst ((lots room r (lv is) is.length).map iL))] = some (.val (.bl true), []) := by
  have hk := kk_le room r (lv is) is.length
  have hp := lots_perm room r (lv is) is.length
  have hfl : (lots room r (lv is) is.length).flatten.length = is.length := by rw [hp.length_eq, rI_len]
  have e1 : ∀ (x1 x4 : Option SV), lcM [3] (.nm 3) fYes (fAnd (fV (fCall g_is_lot_there (fMv (fVar 0) (fMv (fVar 3) (fM0))) [])) (fV (fOp2 dNe (fVar 3) (fV (fLst (fA0)))))) ((lots room r (lv is) is.length).map iL) [some (.fz (iL is)), x1, some (.fz (.lst ((lots room r (lv is) is.length).map iL))), none, x4] = some ((lots room r (lv is) is.length).map (fun _ => D.bl true), [some (.fz (iL is)), x1, some (.fz (.lst ((lots room r (lv is) is.length).map iL))), none, x4]) := fun x1 x4 =>
    lcM_mapF iL (fun _ => .bl true) (xs := lots room r (lv is) is.length) (fun lot hlot => by
      obtain ⟨b, hb, rfl⟩ := List.mem_map.mp hlot
      have hb := List.mem_range.mp hb
      have q1 := v_is_lot is (lotI room r (lv is) is.length b) (lotI_inc room r (lv is) is.length b) (lot_in room r is) (sz63 (by have := lotI_len room r (lv is) is.length b; omega))
      have q2 : dNe (iL (lotI room r (lv is) is.length b)) (.lst []) = some (.val (.bl true)) := by
        rw [dNe_nil (plainL_ints _)]
        obtain ⟨j, l, z, _⟩ := lotI_cons room r (lv is) hb
        rw [z]
        rfl
      generalize lotI room r (lv is) is.length b = lo at *
      simp -implicitDefEqProofs [lcTurn, q1, q2])
  have e2 : blsOf ((lots room r (lv is) is.length).map (fun _ => D.bl true)) = some ((lots room r (lv is) is.length).map fun _ => true) := blsOf_mapF (fun _ => true) _
  have e3 : ((lots room r (lv is) is.length).map fun _ => true).all id = true := by simp
  have e6 : ∀ (x2 x4 : Option SV), lcM [3] (.nm 3) (fT (fV (fOp2 dGt (fV (fCall g_size_there (fMv (fVar 0) (fMv (fVar 3) (fM0))) [])) (fVar 1)))) (fVar 3) ((lots room r (lv is) is.length).map iL) [some (.fz (iL is)), some (.fz (.int room)), x2, none, x4] = some ([], [some (.fz (iL is)), some (.fz (.int room)), x2, none, x4]) := fun x2 x4 => by
    have hh := lcM_filterF (vs := [3]) (t := .nm 3) (c := (fT (fV (fOp2 dGt (fV (fCall g_size_there (fMv (fVar 0) (fMv (fVar 3) (fM0))) [])) (fVar 1))))) (f := fVar 3) (δ := [some (.fz (iL is)), some (.fz (.int room)), x2, none, x4]) iL (fun _ => false) iL (xs := lots room r (lv is) is.length) (fun lot hlot => by
      obtain ⟨b, hb, rfl⟩ := List.mem_map.mp hlot
      have hb := List.mem_range.mp hb
      have q1 := v_size_there is (lotI room r (lv is) is.length b) (lot_in room r is) (sz63 (by have := lotI_len room r (lv is) is.length b; omega))
      have q2 := szI_le room r is hs hb
      have q3 : ¬ room < szI is (lotI room r (lv is) is.length b) := by omega
      simp -implicitDefEqProofs [lcTurn, q1, q3])
    rw [List.filter_eq_nil_iff.mpr (by simp)] at hh
    exact hh
  have e5 := v_sorted_lots room r (lv is) is.length h7
  have e7 := dNe_lots (lots room r (lv is) is.length)
  have dn : dNe (.lst []) (.lst []) = some (.val (.bl false)) := rfl
  obtain ⟨y3, e8⟩ := cat_loop (some (.fz (iL is))) (some (.fz (.int room))) (some (.fz (.lst ((lots room r (lv is) is.length).map iL)))) (lots room r (lv is) is.length) [] none (by rw [hfl]; simp; omega)
  rw [List.nil_append] at e8
  have e9 := gSorted_ints hp (rI_inc is.length) (sz63 (by rw [hfl]; omega))
  have e10 : dEq (iL (rI is.length)) (iL (rI is.length)) = some (.val (.bl true)) := by
    rw [dEq_ints]
    simp
  have hll : ((lots room r (lv is) is.length).map iL).length ≤ sizeLine := sz63 (by rw [List.length_map, lots_len]; omega)
  have h0 : (is.length : Int) ≤ 16777216 := by omega
  have er : rngI (is.length : Int) = rI is.length := by unfold rngI rI; simp
  have ei : iL ([] : List Int) = .lst [] := rfl
  rw [ei] at e8
  generalize (lots room r (lv is) is.length).flatten = FL at *
  generalize (lots room r (lv is) is.length).map iL = LL at *
  generalize (lots room r (lv is) is.length).map (fun _ => D.bl true) = LB at *
  generalize (lots room r (lv is) is.length).map (fun _ => true) = LT at *
  generalize rI is.length = RI at *
  simp -implicitDefEqProofs [g_is_packing_there, m_is_packing_there, f_is_packing_there, e1, e2, e3, e5, e6, e7, e8, e9, e10, dn, hll, h0, er]
theorem v_is_packing (h1 : ∀ i ∈ is, 1 ≤ i ∧ i ≤ room) (h0 : 0 ≤ room) (hl : is.length ≤ 7) : g_is_packing [.fz (iL is), .fz (.int room), .fz (.lst ((lots room r (lv is) is.length).map iL))] = some (.val (.bl true), []) := by
  have e1 := v_check_things is room h1 h0 hl
  have e2 := v_packing_there room r is hl (lv_le h1 h0)
  generalize (lots room r (lv is) is.length).map iL = LL at *
  simp -implicitDefEqProofs [g_is_packing, m_is_packing, f_is_packing, e1, e2]
end
end K83

set_option Elab.async false
set_option linter.all false
set_option autoImplicit false
set_option maxRecDepth 100000
namespace K83
open PySem PySem.Spec PyProof.Rows L2 L2.Tl
/-! ### the boxes of the house -/
section
variable (room : Int) (r : R) (s : Nat → Int)
/-- the names in box b -/
def nmB (n b : Nat) : List Str := (lotN room r s n b).map nm
theorem nmB_sorted {n : Nat} (h : n ≤ 7) (b : Nat) : ((nmB room r s n b).map D.str).Pairwise fun x y => PySem.W.dataLe false pdOf x y = true := by
  have h1 : (nmB room r s n b).Sublist ((List.range n).map nm) := List.Sublist.map nm List.filter_sublist
  rw [nm_take h] at h1
  rw [List.pairwise_map]
  exact (nmL_pw.sublist (h1.trans (List.take_sublist n nmL))).imp fun {x y} q => by rw [dLe_str]; exact q.1
theorem v_names_in (k n : Nat) (hn : n ≤ 7) (b : Nat) : g_names_in [.fz (stD room k (TT room r s n)), .fz (.int (b : Int))] = some (.new (.lst ((nmB room r s n b).map D.str)), []) := by
  have e1 := ix_things room k (TT room r s n)
  have e2 := seq_th (TT room r s n)
  have nd : ((TT room r s n).map (·.1)).Nodup := by rw [TT_names room r s hn]; exact take_nd n
  have hl : ((TT room r s n).map fun x => D.str x.1).length ≤ sizeLine := sz63 (by rw [List.length_map, TT_len]; omega)
  have e3 : ∀ x0 : Option SV, lcM [3] (.nm 3) (fT (fV (fOp2 dEq (fV (fOp2 dIx (fV (fOp2 dIx (fVar 2) (fVar 3))) (fC (.int 1)))) (fVar 1)))) (fVar 3) ((TT room r s n).map fun x => .str x.1) [x0, some (.fz (.int (b : Int))), some (.fz (thD (TT room r s n))), none] = some ((nmB room r s n b).map D.str, [x0, some (.fz (.int (b : Int))), some (.fz (thD (TT room r s n))), none]) := fun x0 => by
    have hh := lcM_filterF (vs := [3]) (t := .nm 3) (c := (fT (fV (fOp2 dEq (fV (fOp2 dIx (fV (fOp2 dIx (fVar 2) (fVar 3))) (fC (.int 1)))) (fVar 1))))) (f := fVar 3) (δ := [x0, some (.fz (.int (b : Int))), some (.fz (thD (TT room r s n))), none]) (fun x : Str × Int × Int => .str x.1) (fun x => decide (x.2.2 = (b : Int))) (fun x => .str x.1) (xs := TT room r s n) (fun x hx => by
      have q1 := ix_th nd hx
      have q2 : ∀ y z : Int, atI [D.int y, .int z] 1 = some (.int z) := fun y z => atK (k := 1) rfl
      generalize thD (TT room r s n) = TD at *
      by_cases hb : x.2.2 = (b : Int) <;> simp -implicitDefEqProofs [lcTurn, q1, q2, hb])
    rw [hh]
    refine congrArg some (Prod.ext ?_ rfl)
    unfold nmB lotN TT
    rw [List.filter_map, List.map_map, List.map_map]
    have : ((fun x : Str × Int × Int => decide (x.2.2 = (b : Int))) ∘ fun i => (nm i, s i, (bx room r s i : Int))) = fun i => decide (bx room r s i = b) := by
      funext i
      exact decide_eq_decide.mpr (by show ((bx room r s i : Int) = b) ↔ _; omega)
    rw [this]
    rfl
  have hlb : (nmB room r s n b).length ≤ n := by
    unfold nmB lotN
    rw [List.length_map]
    have := List.length_filter_le (fun i => decide (bx room r s i = b)) (List.range n)
    simpa using this
  have e4 := gSorted_of (pdL_strs (nmB room r s n b)) (sortable_strs _) (sz63 (by rw [List.length_map]; omega)) (nmB_sorted room r s hn b)
  generalize (nmB room r s n b).map D.str = NB at *
  generalize (TT room r s n).map (fun x => D.str x.1) = NT at *
  generalize thD (TT room r s n) = TD at *
  generalize stD room k (TT room r s n) = S at *
  simp -implicitDefEqProofs [g_names_in, m_names_in, f_names_in, e1, e2, hl, e3, e4]
theorem v_boxes (cH : Addr) (n : Nat) (hn : n ≤ 7) (h : D) (hh : HoAt cH room r s n h) : g_House_boxes cH [.inp h] = some (.new (encR (rI (kk room r s n)) fun b => .lst ((nmB room r s n b.toNat).map D.str)), [h]) := by
  obtain ⟨rs, a, b, rfl, _⟩ := hh
  have e2 := v_state cH rs a (stD room (kk room r s n) (TT room r s n)) b
  have e1 := ix_open room (kk room r s n) (TT room r s n)
  have hk := kk_le room r s n
  rw [iN_range] at e1
  have hh : List.lookup (("state" : Str)) [(("row" : Str), D.lst (rs ++ [.tup [a, stD room (kk room r s n) (TT room r s n), b]])), (("at" : Str), D.int rs.length)] = none := rfl
  have e3 : ∀ i : Int, i ∈ rI (kk room r s n) → g_names_in [.fz (stD room (kk room r s n) (TT room r s n)), .fz (.int i)] = some (.new (.lst ((nmB room r s n i.toNat).map D.str)), []) := fun i hi => by
    have := v_names_in room r s (kk room r s n) n hn i.toNat
    rw [mem_rI] at hi
    rw [Int.toNat_of_nonneg hi.1] at this
    exact this
  unfold hoS hoD at *
  generalize [(("row" : Str), D.lst (rs ++ [.tup [a, stD room (kk room r s n) (TT room r s n), b]])), (("at" : Str), D.int rs.length)] = fs at *
  generalize stD room (kk room r s n) (TT room r s n) = S at *
  have e4 := fun (x : Option SV) => dcM_mapF (vs := [2]) (t := .nm 2) (c := fYes) (fk := fVar 2) (fv := (fV (fCall g_names_in (fMv (fVar 1) (fMv (fVar 2) (fM0))) []))) (δ := [x, some (.fz S), none]) D.int (fun i => (.int i, .lst ((nmB room r s n i.toNat).map D.str))) (xs := rI (kk room r s n)) (acc := []) (fun i hi => by
    have e5 := e3 i hi
    simp -implicitDefEqProofs [dcTurn, isKey1, e5])
  have e6 := kvMerge_R (fun i => .lst ((nmB room r s n i.toNat).map D.str)) (rI_nd (kk room r s n))
  have hl2 : (rI (kk room r s n)).length ≤ sizeLine := sz63 (by rw [rI_len]; omega)
  unfold encR
  generalize rI (kk room r s n) = RI at *
  simp -implicitDefEqProofs [g_House_boxes, m_House_boxes, f_House_boxes, e1, e2, hh, e4, e6, hl2]
end
end K83

set_option Elab.async false
set_option linter.all false
set_option autoImplicit false
set_option maxRecDepth 100000
namespace K83
open PySem PySem.Spec PyProof.Rows L2 L2.Tl
/-! ### the law's purses and draws -/
def pu (a b c d : Int) : D := .lst [.int a, .int b, .int c, .int d]
theorem pow18 : dPow (.int 10) (.int 18) = some (.val (.int 1000000000000000000)) := by
  have h : (0 : Int) ≤ 18 ∧ (Builtin.Int.intBits 10 : Int) * 18 ≤ 2 ^ 27 := by decide +kernel
  simp only [dPow, if_pos h]
  rfl
def big60 : Int := 10 ^ 60
theorem pow60 : dPow (.int 10) (.int 60) = some (.val (.int big60)) := by
  have h : (0 : Int) ≤ 60 ∧ (Builtin.Int.intBits 10 : Int) * 60 ≤ 2 ^ 27 := by decide +kernel
  simp only [dPow, if_pos h]
  rfl
def big480 : Int := big60 ^ 8
theorem pow480 : dPow (.int big60) (.int 8) = some (.val (.int big480)) := by
  have h : (0 : Int) ≤ 8 ∧ (Builtin.Int.intBits big60 : Int) * 8 ≤ 2 ^ 27 := by decide +kernel
  simp only [dPow, if_pos h]
  rfl
theorem big480_pos : 0 < big480 := by unfold big480 big60; decide +kernel
theorem v_purse (ns : List Int) (at' : Int) (h0 : 0 ≤ at') : ∃ a b, g__law_purse [.fz (.kl ns), .fz (.int at')] = some (.new (pu a b 0 at'), []) := by
  have e1 : ∃ is : List Int, cutD (ns.map D.int) (some at') (some (at' + 1)) = is.map .int := by
    rw [cutD_both h0 (by omega), ← List.map_drop, ← List.map_take]
    exact ⟨_, rfl⟩
  obtain ⟨is, e1⟩ := e1
  have e2 := intsOf_map is
  have hz : 4 ≤ sizeLine := by rw [sizeLine_eq]; decide
  refine ⟨max (is.sum - 1000000000000000000) 0 % big480, is.sum % 2147483629, ?_⟩
  simp -implicitDefEqProofs [g__law_purse, m__law_purse, f__law_purse, e1, e2, pow18, pow60, pow480, big480_pos, hz, pu]
theorem v_purses (ns : List Int) (hl : ns.length ≤ 63) : ∃ a b, g__law_purses [.fz (.kl ns), .fz (.int 1)] = some (pu a b 0 0) := by
  obtain ⟨a, b, e⟩ := v_purse ns 0 (Int.le_refl _)
  refine ⟨a, b, ?_⟩
  have hm : max 1 (min 1 (ns.length : Int)) = 1 := by omega
  have hb : b62 1 = true := b62_of (by omega) (by omega)
  have hr : rngD 0 1 1 = [.int 0] := rfl
  simp -implicitDefEqProofs [g__law_purses, m__law_purses, Tl.runN, f__law_purses, f1Lc, hm, hb, hr, e]
theorem v_mixed (a b c : Int) (hb : 0 ≤ b) (hb2 : b ≤ 1000000) : ∃ x, g__law_mixed [.fz (.int a), .fz (.int b), .fz (.int c)] = some (.val (.int x), []) := by
  have h1 : ∀ i : Int, mulOk i 69069 = true := fun i => mulOk_r (by omega) (by omega)
  have h2 : ∀ i : Int, mulOk 104729 i = true := fun i => mulOk_l (by omega) (by omega)
  have h3 : ∀ i : Int, mulOk i b = true := fun i => mulOk_r (by omega) (by omega)
  have h4 : ∀ i : Int, mulOk 7919 i = true := fun i => mulOk_l (by omega) (by omega)
  have h5 : ∀ i j : Int, mulOk (i % 2147483647) j = true := fun i j => mulOk_m (by omega) (by omega)
  have h6 : ∀ i j : Int, mulOk (i % 2147483629) j = true := fun i j => mulOk_m (by omega) (by omega)
  refine ⟨((a * 69069 + 104729 * b * b + 7919 * c + b) % 2147483647 * ((a * 69069 + 104729 * b * b + 7919 * c + b) % 2147483647) + 40503) % 2147483629 * 48271 % 2147483587, ?_⟩
  simp -implicitDefEqProofs [g__law_mixed, m__law_mixed, f__law_mixed, h1, h2, h3, h4, h5, h6]
theorem bits28 (m : Int) (h0 : 0 < m) (h1 : m ≤ 127) : (Builtin.Int.intBits m : Int) / 28 = 0 := by
  have : ∀ k : Fin 128, (Builtin.Int.intBits (k.val : Int) : Int) / 28 = 0 := by decide +kernel
  have h := this ⟨m.toNat, by omega⟩
  rwa [show ((m.toNat : Nat) : Int) = m by omega] at h
theorem v_draw (a b c d m : Int) (h0 : 0 < m) (h1 : m ≤ 127) (hc : 0 ≤ c) (hc2 : c ≤ 1000) : ∃ x a' b' c' d', 0 ≤ x ∧ x < m ∧ 0 ≤ c' ∧ c' ≤ c + 1 ∧ g__law_draw [.inp (pu a b c d), .fz (.int m)] = some (.val (.int x), [pu a' b' c' d']) := by
  have i0 : ∀ a b c d : Int, atI [D.int a, .int b, .int c, .int d] 0 = some (.int a) := fun a b c d => atK (k := 0) rfl
  have i1 : ∀ a b c d : Int, atI [D.int a, .int b, .int c, .int d] 1 = some (.int b) := fun a b c d => atK (k := 1) rfl
  have i2 : ∀ a b c d : Int, atI [D.int a, .int b, .int c, .int d] 2 = some (.int c) := fun a b c d => atK (k := 2) rfl
  have i3 : ∀ a b c d : Int, atI [D.int a, .int b, .int c, .int d] 3 = some (.int d) := fun a b c d => atK (k := 3) rfl
  have s0 : ∀ a b c d x : Int, dSto (.lst [D.int a, .int b, .int c, .int d]) (.int 0) (.int x) = some (.lst [D.int x, .int b, .int c, .int d]) := fun a b c d x => rfl
  have s2 : ∀ a b c d x : Int, dSto (.lst [D.int a, .int b, .int c, .int d]) (.int 2) (.int x) = some (.lst [D.int a, .int b, .int x, .int d]) := fun a b c d x => rfl
  have hdv : ∀ i : Int, dDiv (.int i) (.int m) = some (.val (.int (i / m))) := fun i => by
    have h : (0 : Int) < m ∧ m.natAbs.log2 < 9000 := ⟨h0, Nat.lt_of_le_of_lt (Nat.log2_le_self _) (by omega)⟩
    simp only [dDiv, if_pos h]
  by_cases ha : 0 < a
  · refine ⟨a % m, a / m, b, c, d, Int.emod_nonneg _ (by omega), Int.emod_lt_of_pos _ h0, hc, by omega, ?_⟩
    simp -implicitDefEqProofs [g__law_draw, m__law_draw, f__law_draw, pu, i0, ha, h0, s0, hdv]
  · obtain ⟨x, hx⟩ := v_mixed b (c + 1) d (by omega) (by omega)
    refine ⟨(0 * 2147483587 + x) % m, a, b, c + 1, d, Int.emod_nonneg _ (by omega), Int.emod_lt_of_pos _ h0, by omega, by omega, ?_⟩
    have hdb := bits28 m h0 h1
    have hdd : dDiv (.int (Builtin.Int.intBits m : Int)) (.int 28) = some (.val (.int 0)) := by
      have h : (0 : Int) < 28 ∧ (28 : Int).natAbs.log2 < 9000 := by decide +kernel
      simp only [dDiv, if_pos h, hdb]
    have hb1 : b62 1 = true := b62_of (by omega) (by omega)
    have hr : rngD 0 1 1 = [.int 0] := rfl
    have hm1 : ∀ i : Int, mulOk i 2147483587 = true := fun i => mulOk_r (by omega) (by omega)
    simp -implicitDefEqProofs [g__law_draw, m__law_draw, f__law_draw, pu, i0, i1, i2, i3, ha, h0, s2, hdd, hb1, hr, loopM, hm1, hx]
/-! ### _law_same -/
def Sm' (k : Nat) (d : D) : Prop := g__law_same k [.fz d, .fz d] = some (.val (.bl true), [])
theorem same_int (k : Nat) (i : Int) : Sm' (k + 1) (.int i) := by
  have h1 : ∀ T, isiD T (.int i) = some (kitTab T "int") := fun T => rfl
  have h2 : tyN (.int i) = some "int" := rfl
  have h3 : dIs (.int i) .non = some (.val (.bl false)) := rfl
  have h4 : dEq (.bl false) (.bl false) = some (.val (.bl true)) := rfl
  have h5 : dEq (.bl true) (.bl true) = some (.val (.bl true)) := rfl
  show m__law_same (g__law_same k) _ = _
  simp -implicitDefEqProofs [m__law_same, f__law_same, h1, h2, h3, h4, h5, kitTab]
theorem same_bl (k : Nat) (i : Bool) : Sm' (k + 1) (.bl i) := by
  have h1 : ∀ T, isiD T (.bl i) = some (kitTab T "bool") := fun T => rfl
  have h2 : tyN (.bl i) = some "bool" := rfl
  have h3 : dIs (.bl i) .non = some (.val (.bl false)) := rfl
  have h4 : dEq (.bl false) (.bl false) = some (.val (.bl true)) := rfl
  have h5 : dEq (.bl true) (.bl true) = some (.val (.bl true)) := rfl
  have h6 : dEq (.bl i) (.bl i) = some (.val (.bl true)) := by cases i <;> rfl
  show m__law_same (g__law_same k) _ = _
  simp -implicitDefEqProofs [m__law_same, f__law_same, h1, h2, h3, h4, h5, h6, kitTab]
theorem zipD_self : ∀ ds : List D, zipD ds ds = ds.map fun d => .tup [d, d]
  | [] => rfl
  | d :: ds => by simp [zipD, zipD_self ds]
theorem same_lst (k : Nat) (ds : List D) (hl : ds.length ≤ 100000) (h : ∀ d ∈ ds, Sm' k d) : Sm' (k + 1) (.lst ds) := by
  have h1 : ∀ T, isiD T (.lst ds) = some (kitTab T "list") := fun T => rfl
  have h2 : tyN (.lst ds) = some "list" := rfl
  have h4 : dEq (.bl false) (.bl false) = some (.val (.bl true)) := rfl
  have h5 : dEq (.bl true) (.bl true) = some (.val (.bl true)) := rfl
  have hl2 : ds.length ≤ 16777216 := by omega
  have e1 := fun (a b c d : Option SV) => lcM_mapF (vs := [4, 5]) (t := .tp [4, 5]) (c := fYes) (f := (fV (fCall (g__law_same k) (fMv (fVar 4) (fMv (fVar 5) (fM0))) []))) (δ := [a, b, c, d, none, none]) (fun d : D => .tup [d, d]) (fun _ => .bl true) (xs := ds) (fun d hd => by
    have := h d hd
    unfold Sm' at this
    simp -implicitDefEqProofs [lcTurn, this])
  have e2 : blsOf (ds.map fun _ => D.bl true) = some (ds.map fun _ => true) := blsOf_mapF (fun _ => true) ds
  have e3 : (ds.map fun _ => true).all id = true := by simp
  show m__law_same (g__law_same k) _ = _
  generalize ds.map (fun _ => true) = TT at *
  generalize ds.map (fun _ => D.bl true) = BB at *
  simp -implicitDefEqProofs [m__law_same, f__law_same, h1, h2, h4, h5, kitTab, zipD_self, sizeLine_eq, hl2, e1, e2, e3]
theorem same_ints (k : Nat) (is : List Int) (hl : is.length ≤ 100000) : Sm' (k + 2) (iL is) := same_lst (k + 1) _ (by simpa using hl) fun d hd => by
  obtain ⟨i, _, rfl⟩ := List.mem_map.mp hd
  exact same_int k i

theorem same_str (k : Nat) (i : Str) : Sm' (k + 1) (.str i) := by
  have h1 : ∀ T, isiD T (.str i) = some (kitTab T "str") := fun T => rfl
  have h2 : tyN (.str i) = some "str" := rfl
  have h3 : dIs (.str i) .non = some (.val (.bl false)) := rfl
  have h4 : dEq (.bl false) (.bl false) = some (.val (.bl true)) := rfl
  have h5 : dEq (.bl true) (.bl true) = some (.val (.bl true)) := rfl
  have h6 : dEq (.str i) (.str i) = some (.val (.bl true)) := by
    show (if eqOk (.str i) (.str i) = true then some (OV.val (.bl (D.eqv (.str i) (.str i)))) else none) = _
    rw [if_pos (by rfl)]
    simp [D.eqv]
  show m__law_same (g__law_same k) _ = _
  simp -implicitDefEqProofs [m__law_same, f__law_same, h1, h2, h3, h4, h5, h6, kitTab]
theorem dIn_R {x : Int} {ks : List Int} (g : Int → D) (h : x ∈ ks) : dIn (.int x) (encR ks g) = some (.val (.bl true)) := by
  show (if isKey false (.int x) = true then some (kvGet (ks.map fun k => (D.int k, g k)) (.int x)).isSome else none).map _ = _
  rw [if_pos (show isKey false (.int x) = true from rfl), kvGet_R ks g, if_pos h]
  rfl
theorem same_dct (k : Nat) (ks : List Int) (g : Int → D) (hl : ks.length ≤ 100000) (h : ∀ x ∈ ks, Sm' k (g x)) : Sm' (k + 1) (encR ks g) := by
  have h1 : ∀ T, isiD T (encR ks g) = some (kitTab T "dict") := fun T => rfl
  have h5 : dEq (.bl true) (.bl true) = some (.val (.bl true)) := rfl
  have hl2 : (ks.map D.int).length ≤ sizeLine := by rw [sizeLine_eq, List.length_map]; omega
  have s1 : seqOf (encR ks g) = some (ks.map D.int) := by
    show some ((ks.map fun k => (D.int k, g k)).map (·.1)) = _
    rw [List.map_map]; rfl
  have g1 : gLen [encR ks g] = some (.val (.int ks.length)) := by
    show some (OV.val (.int ((ks.map fun k => (D.int k, g k)).length : Nat))) = _
    rw [List.length_map]
  have i1 : ∀ x ∈ ks, dIx (encR ks g) (.int x) = some (.val (g x)) := fun x hx => dIx_R hx
  have i2 : ∀ x ∈ ks, dIn (.int x) (encR ks g) = some (.val (.bl true)) := fun x hx => dIn_R g hx
  generalize encR ks g = E at *
  have e1 := fun (c : Option SV) => lcM_mapF (vs := [3]) (t := .nm 3) (c := fYes) (f := (fV (fOp2 dIn (fVar 3) (fVar 0)))) (δ := [some (.fz E), some (.fz E), c, none, none, none]) D.int (fun _ => .bl true) (xs := ks) (fun x hx => by
    simp -implicitDefEqProofs [lcTurn, i2 x hx])
  have e2 := fun (c : Option SV) => lcM_mapF (vs := [3]) (t := .nm 3) (c := fYes) (f := (fV (fCall (g__law_same k) (fMv (fV (fOp2 dIx (fVar 0) (fVar 3))) (fMv (fV (fOp2 dIx (fVar 1) (fVar 3))) (fM0))) []))) (δ := [some (.fz E), some (.fz E), c, none, none, none]) D.int (fun _ => .bl true) (xs := ks) (fun x hx => by
    have := h x hx
    unfold Sm' at this
    simp -implicitDefEqProofs [lcTurn, i1 x hx, this])
  have e3 : blsOf (ks.map fun _ => D.bl true) = some (ks.map fun _ => true) := blsOf_mapF (fun _ => true) ks
  have e4 : (ks.map fun _ => true).all id = true := by simp
  have h6 : dEq (.int ks.length) (.int ks.length) = some (.val (.bl true)) := by simp
  show m__law_same (g__law_same k) _ = _
  generalize ks.map (fun _ => true) = TT0 at *
  generalize ks.map (fun _ => D.bl true) = BB at *
  generalize ks.map D.int = KK0 at *
  simp -implicitDefEqProofs [m__law_same, f__law_same, h1, h5, h6, kitTab, s1, g1, hl2, e1, e2, e3, e4]
end K83

set_option Elab.async false
set_option linter.all false
set_option autoImplicit false
set_option maxRecDepth 100000
namespace K83
open PySem PySem.Spec PyProof.Rows L2 L2.Tl
/-! ### the law, part by part -/
def r1 (cH : Addr) : Fs := (sPar [7, 8] (fP (fMake cH (g_House_init cH) (fA (fVar 2) (fA0)) []) (fP (fLst (fA0)) (fP0))))
def r2 (cH : Addr) : Fs := (sFor (.tp [9, 10]) (fiA gZip (fA (fVar 5) (fA (fVar 3) (fA0)))) (hB cH))
def r3 : Fs := (sSet 12 (fV (fLc [11] (fiA gRng1 (fA (fV (fOp2 dAdd (fV (fBl gMax (fQ (fV (fOp2 dAdd (fVar 8) (fV (fLst (fA (fNeg (fC (.int 1))) (fA0)))))) (fQ0)))) (fC (.int 1)))) (fA0))) (.nm 11) (fYes) (fV (fLc [13] (fiA gRng1 (fA (fV (fBl gLen (fQ (fVar 3) (fQ0)))) (fA0))) (.nm 13) (fT (fV (fOp2 dEq (fV (fOp2 dIx (fVar 8) (fVar 13))) (fVar 11)))) (fVar 13))))))
def r4 : Fs := (sSet 14 (fV (fLst (fA (fV (fCall g_boxes_by (fMv (fVar 6) (fMv (fVar 3) (fMv (fVar 2) (fM0)))) [])) (fA (fV (fCall g_packed_by (fMv (fVar 6) (fMv (fVar 3) (fMv (fVar 2) (fM0)))) [])) (fA (fV (fCall g_is_packing (fMv (fVar 3) (fMv (fVar 2) (fMv (fVar 12) (fM0)))) [])) (fA0)))))))
def r5 : Fs := (sIf (fTN (fT (fV (fCall (g__law_same 6) (fMv (fVar 14) (fMv (fV (fLst (fA (fVar 8) (fA (fVar 12) (fA (fC (.bl true)) (fA0)))))) (fM0))) [])))) (sRet (fO (fC (.bl false)))) (sNext))
def r6 (cH : Addr) : Fs := (sIf (fTN (fT (fV (fCall (g__law_same 6) (fMv (fV (fMeth cH "boxes" (g_House_boxes cH) (fVar 7) fM0 [])) (fMv (fV (fBl gDict (fQ (fV (fLc [11, 15] (fiA gEnum (fA (fVar 12) (fA0))) (.tp [11, 15]) (fYes) (fV (fTup (fA (fVar 11) (fA (fV (fLc [13] (fiOf seqOf (fVar 15)) (.nm 13) (fYes) (fV (fOp2 dIx (fVar 5) (fVar 13))))) (fA0))))))) (fQ0)))) (fM0))) [])))) (sRet (fO (fC (.bl false)))) (sNext))
def r7 : Fs := (sIf (fTA (fT (fV (fOp2 dNe (fVar 6) (fC (.str "next"))))) (fT (fV (fOp2 dGt (fV (fBl gLen (fQ (fV (fLc [15] (fiOf seqOf (fVar 12)) (.nm 15) (fT (fV (fOp2 dLe (fV (fOp2 dMul (fC (.int 2)) (fV (fBl gSum (fQ (fV (fLc [13] (fiOf seqOf (fVar 15)) (.nm 13) (fYes) (fV (fOp2 dIx (fVar 3) (fVar 13))))) (fQ0)))))) (fVar 2)))) (fVar 15))) (fQ0)))) (fC (.int 1)))))) (sRet (fO (fC (.bl false)))) (sNext))
def rB (cH : Addr) : Fs := sSeq (r1 cH) (sSeq (r2 cH) (sSeq r3 (sSeq r4 (sSeq r5 (sSeq (r6 cH) r7)))))
def p1 : Fs := (sSet 2 (fV (fOp2 dAdd (fC (.int 2)) (fV (fCall g__law_draw (fMi (fVar 1) (fMv (fC (.int 11)) (fM0))) [])))))
def p2 : Fs := (sSet 3 (fV (fLc [4] (fiA gRng1 (fA (fV (fCall g__law_draw (fMi (fVar 1) (fMv (fC (.int 8)) (fM0))) [])) (fA0))) (.nm 4) (fYes) (fV (fOp2 dAdd (fC (.int 1)) (fV (fCall g__law_draw (fMi (fVar 1) (fMv (fVar 2) (fM0))) [])))))))
def p3 : Fs := (sSet 5 (fV (fCut (fV (fLst (fA (fC (.str "a")) (fA (fC (.str "b")) (fA (fC (.str "c")) (fA (fC (.str "d")) (fA (fC (.str "e")) (fA (fC (.str "f")) (fA (fC (.str "g")) (fA0)))))))))) (fPart0) (fPart (fV (fBl gLen (fQ (fVar 3) (fQ0))))))))
def p4 (cH : Addr) : Fs := (sFor (.nm 6) (fiOf seqOf (fV (fLst (fA (fC (.str "next")) (fA (fC (.str "first")) (fA (fC (.str "best")) (fA (fC (.str "worst")) (fA0)))))))) (rB cH))
theorem f_law_is (cH : Addr) : f_law cH (g__law_purses) (g__law_draw) (g__law_spot cH) (g_is_packing) (g_packed_by) (g_boxes_by) (g__law_same 6) (g_House_do cH) (g_House_boxes cH) (g_House_init cH) =
    sSeq (sFor1 1 (f1Call g__law_purses (fA (fVar 0) (fA (fC (.int 1)) (fA0)))) (sSeq p1 (sSeq p2 (sSeq p3 (p4 cH))))) (sRet (fO (fC (.bl true)))) := rfl
/-- plain: none, or let go -/
def plO (z : Option SV) : Prop := z = none ∨ ∃ d, z = some (.fz d)
theorem rng_rI (k : Nat) : rngD 0 1 k = (rI k).map D.int := by
  unfold rngD rI
  rw [List.map_map]
  refine List.map_congr_left fun i _ => ?_
  show D.int ((0 : Int) + (i : Int) * 1) = D.int (i : Int)
  congr 1
  omega
section
variable (cH : Addr) (room : Int) (r : R) (is : List Int)
theorem bL_lv (i : Nat) (h : i < is.length) : lv (bL room r is) i = bx room r (lv is) i := by
  unfold lv bL
  rw [List.getD_eq_getElem?_getD, List.getElem?_map, List.getElem?_range h]
  rfl
theorem bL_max : (bL room r is ++ [(-1 : Int)]).max? = some ((kk room r (lv is) is.length : Int) - 1) := by
  refine List.max?_eq_some_iff.mpr ⟨?_, fun b hb => ?_⟩
  · rw [List.mem_append]
    by_cases h : kk room r (lv is) is.length = 0
    · right; rw [h]; simp
    · left
      obtain ⟨j, h1, h2⟩ := occ room r (lv is) (t := is.length) (b := kk room r (lv is) is.length - 1) (by omega)
      exact List.mem_map.mpr ⟨j, List.mem_range.mpr h1, by rw [h2]; omega⟩
  · rw [List.mem_append] at hb
    rcases hb with hb | hb
    · obtain ⟨j, hj, rfl⟩ := List.mem_map.mp hb
      have := bx_lt room r (lv is) (List.mem_range.mp hj)
      omega
    · simp at hb; omega
theorem r1_at (hr : 0 ≤ room) (x0 x1 x3 x4 x5 x6 x7 x8 x9 x10 x11 x12 x13 x14 x15 : Option SV) : r1 cH [x0, x1, some (.fz (.int room)), x3, x4, x5, x6, x7, x8, x9, x10, x11, x12, x13, x14, x15] =
    some (.next, [x0, x1, some (.fz (.int room)), x3, x4, x5, x6, some (.own (hoS cH [] .non (stD room 0 []) .non)), some (.own (iL [])), x9, x10, x11, x12, x13, x14, x15]) := by
  have e1 := v_init cH room hr
  have ei : iL ([] : List Int) = .lst [] := rfl
  rw [ei]
  generalize hoS cH [] .non (stD room 0 []) .non = h0 at *
  simp -implicitDefEqProofs [r1, e1]
theorem r3_at (h7 : is.length ≤ 7) (x0 x1 x2 x4 x5 x6 x7 x9 x10 x11 x12 x14 x15 : Option SV) (hx : plO x11) : r3 [x0, x1, x2, some (.fz (iL is)), x4, x5, x6, x7, some (.own (iL (bL room r is))), x9, x10, x11, x12, none, x14, x15] =
    some (.next, [x0, x1, x2, some (.fz (iL is)), x4, x5, x6, x7, some (.own (iL (bL room r is))), x9, x10, x11, some (.fz (.lst ((lots room r (lv is) is.length).map iL))), none, x14, x15]) := by
  have hk := kk_le room r (lv is) is.length
  have hbl : (bL room r is).length = is.length := by simp [bL]
  have e1 : intsOf ((bL room r is).map D.int ++ [D.int (-1)]) = some (bL room r is ++ [-1]) := by
    have := intsOf_map (bL room r is ++ [-1])
    rw [List.map_append, List.map_cons, List.map_nil] at this
    exact this
  have e2 := bL_max room r is
  have h1 : 1 ≤ sizeLine := sz63 (by omega)
  have hl1 : (bL room r is).length + 1 ≤ sizeLine := sz63 (by rw [hbl]; omega)
  have hb1 : b62 (kk room r (lv is) is.length : Int) = true := b62_of (by omega) (by omega)
  have hb2 : b62 (is.length : Int) = true := b62_of (by omega) (by omega)
  have hl2 : (rI (kk room r (lv is) is.length)).length ≤ sizeLine := sz63 (by rw [rI_len]; omega)
  have hl3 : (rI is.length).length ≤ sizeLine := sz63 (by rw [rI_len]; omega)
  have g1 := rng_rI (kk room r (lv is) is.length)
  have g2 := rng_rI is.length
  have e3 : ∀ (b : Int) (x9 x10 x12 x14 x15 : Option SV), lcM [13] (.nm 13) (fT (fV (fOp2 dEq (fV (fOp2 dIx (fVar 8) (fVar 13))) (fVar 11)))) (fVar 13) ((rI is.length).map D.int) [x0, x1, x2, some (.fz (iL is)), x4, x5, x6, x7, some (.own (iL (bL room r is))), x9, x10, some (.fz (.int b)), x12, none, x14, x15] =
      some (((rI is.length).filter fun i => decide ((bx room r (lv is) i.toNat : Int) = b)).map D.int, [x0, x1, x2, some (.fz (iL is)), x4, x5, x6, x7, some (.own (iL (bL room r is))), x9, x10, some (.fz (.int b)), x12, none, x14, x15]) := fun b x9 x10 x12 x14 x15 =>
    lcM_filterF D.int (fun i => decide ((bx room r (lv is) i.toNat : Int) = b)) D.int (xs := rI is.length) (fun i hi => by
      rw [mem_rI] at hi
      have q : atI ((bL room r is).map D.int) i = some (.int (bx room r (lv is) i.toNat)) := by
        have := atI_lv (L := bL room r is) (i := i.toNat) (by rw [hbl]; omega)
        rw [Int.toNat_of_nonneg hi.1] at this
        rw [this, bL_lv room r is i.toNat (by omega)]
      by_cases hb : (bx room r (lv is) i.toNat : Int) = b <;> simp -implicitDefEqProofs [lcTurn, q, hb])
  have e4 : ∀ b : Int, 0 ≤ b → ((rI is.length).filter fun i => decide ((bx room r (lv is) i.toNat : Int) = b)) = lotI room r (lv is) is.length b.toNat := fun b hb => by
    unfold rI lotI lotN
    rw [List.filter_map]
    refine congrArg (List.map _) (List.filter_congr fun i _ => ?_)
    exact decide_eq_decide.mpr (by show ((bx room r (lv is) ((i : Int).toNat) : Int) = b) ↔ _; rw [Int.toNat_natCast]; omega)
  have e5 : ∀ (x9 x10 x12 x14 x15 : Option SV), lcM [11] (.nm 11) fYes (fV (fLc [13] (fiA gRng1 (fA (fV (fBl gLen (fQ (fVar 3) (fQ0)))) (fA0))) (.nm 13) (fT (fV (fOp2 dEq (fV (fOp2 dIx (fVar 8) (fVar 13))) (fVar 11)))) (fVar 13))) ((rI (kk room r (lv is) is.length)).map D.int) [x0, x1, x2, some (.fz (iL is)), x4, x5, x6, x7, some (.own (iL (bL room r is))), x9, x10, none, x12, none, x14, x15] =
      some ((lots room r (lv is) is.length).map iL, [x0, x1, x2, some (.fz (iL is)), x4, x5, x6, x7, some (.own (iL (bL room r is))), x9, x10, none, x12, none, x14, x15]) := fun x9 x10 x12 x14 x15 => by
    rw [← lots_rI]
    exact lcM_mapF D.int (fun b => iL (lotI room r (lv is) is.length b.toNat)) (xs := rI (kk room r (lv is) is.length)) (fun b hb => by
      rw [mem_rI] at hb
      have q := e3 b
      rw [e4 b hb.1] at q
      generalize lotI room r (lv is) is.length b.toNat = LO at *
      generalize bL room r is = BB at *
      simp -implicitDefEqProofs [lcTurn, hb2, g2, hl3, q])
  generalize (lots room r (lv is) is.length).map iL = LL at *
  generalize kk room r (lv is) is.length = k0 at *
  have hkk : ((k0 : Int) - 1 + 1) = k0 := by omega
  unfold r3
  generalize (fV (fLc [13] (fiA gRng1 (fA (fV (fBl gLen (fQ (fVar 3) (fQ0)))) (fA0))) (.nm 13) (fT (fV (fOp2 dEq (fV (fOp2 dIx (fVar 8) (fVar 13))) (fVar 11)))) (fVar 13))) = FF at *
  generalize bL room r is = BB at *
  rcases hx with rfl | ⟨d, rfl⟩ <;>
    simp -implicitDefEqProofs [e1, e2, h1, hl1, hb1, hkk, g1, hl2, e5]
end
end K83

set_option Elab.async false
set_option linter.all false
set_option autoImplicit false
set_option maxRecDepth 100000
namespace K83
open PySem PySem.Spec PyProof.Rows L2 L2.Tl
theorem zipD_maps (f g : Nat → D) : ∀ l : List Nat, zipD (l.map f) (l.map g) = l.map fun i => .tup [f i, g i]
  | [] => rfl
  | i :: l => by simp [zipD, zipD_maps f g l]
theorem is_range (is : List Int) : (List.range is.length).map (lv is) = is := by
  refine List.ext_getElem? fun i => ?_
  rw [List.getElem?_map]
  by_cases h : i < is.length
  · rw [List.getElem?_range h, List.getElem?_eq_getElem h]
    simp [lv, h]
  · rw [List.getElem?_eq_none (by simp; omega), List.getElem?_eq_none (by omega)]
    rfl
theorem zip_names (is : List Int) (h : is.length ≤ 7) : zipD ((nmL.take is.length).map D.str) (is.map D.int) = (List.range' 0 is.length).map fun i => .tup [.str (nm i), .int (lv is i)] := by
  have e := is_range is
  rw [← nm_take h]
  conv => lhs; rw [← e]
  rw [List.map_map, List.length_map, List.length_range, List.map_map, zipD_maps, ← List.range_eq_range']
  rfl
theorem enumD_rng (f : Nat → D) : ∀ (k a n : Nat), enumD n ((List.range' a k).map f) = (List.range k).map fun (i : Nat) => .tup [.int ((n + i : Nat) : Int), f (a + i)]
  | 0, a, n => rfl
  | k + 1, a, n => by
    rw [List.range'_succ, List.map_cons, List.range_succ_eq_map, List.map_cons, List.map_map]
    show D.tup [.int (n : Int), f a] :: enumD (n + 1) ((List.range' (a + 1) k).map f) = _
    rw [enumD_rng f k (a + 1) (n + 1)]
    refine congrArg _ (List.map_congr_left fun i _ => ?_)
    show D.tup [.int ((n + 1 + i : Nat) : Int), f (a + 1 + i)] = D.tup [.int ((n + (i + 1) : Nat) : Int), f (a + (i + 1))]
    rw [show n + 1 + i = n + (i + 1) by omega, show a + 1 + i = a + (i + 1) by omega]
theorem pairsOf_R (X : Int → D) : ∀ l : List Int, pairsOf (l.map fun b => .tup [.int b, X b]) = some (l.map fun b => (.int b, X b))
  | [] => rfl
  | b :: l => by
    show (if isKey1 (.int b) = true then (pairsOf (l.map fun b => .tup [.int b, X b])).map ((D.int b, X b) :: ·) else none) = _
    rw [if_pos (show isKey1 (.int b) = true from rfl), pairsOf_R X l]
    rfl
section
variable (cH : Addr) (room : Int) (r : R) (is : List Int)
abbrev nmD (n : Nat) : D := .lst ((nmL.take n).map D.str)
theorem r2_at (h7 : is.length ≤ 7) (h1 : ∀ i ∈ is, 1 ≤ i ∧ i ≤ room) (x0 x1 x2 x4 x9 x10 x11 x12 x13 x14 x15 : Option SV) (hx : plO x11) :
    ∃ h2 y9 y10 y11, HoAt cH room r (lv is) is.length h2 ∧ plO y11 ∧ r2 cH [x0, x1, x2, some (.fz (iL is)), x4, some (.fz (nmD is.length)), some (.fz (.str r.s)), some (.own (hoS cH [] .non (stD room 0 []) .non)), some (.own (iL [])), x9, x10, x11, x12, x13, x14, x15] =
      some (.next, [x0, x1, x2, some (.fz (iL is)), x4, some (.fz (nmD is.length)), some (.fz (.str r.s)), some (.own h2), some (.own (iL (bL room r is))), y9, y10, y11, x12, x13, x14, x15]) := by
  have hz : ∀ i, i < is.length → 1 ≤ lv is i ∧ lv is i ≤ room := fun i hi => by
    have : lv is i = is[i] := by simp [lv, hi]
    rw [this]
    exact h1 _ (List.getElem_mem hi)
  obtain ⟨h2, y9, y10, y11, g1, g2, g3⟩ := h_loop cH room r (lv is) is.length h7 hz x0 x1 x2 (some (.fz (iL is))) x4 (some (.fz (nmD is.length))) x12 x13 x14 x15 is.length 0 _ x9 x10 x11 (by omega) (HoAt_zero cH room r (lv is))
  refine ⟨h2, y9, y10, y11, g1, ?_, ?_⟩
  · rcases g2 with rfl | g2
    · exact hx
    · exact .inr g2
  · have e1 := zip_names is h7
    have e2 : iL ((List.range 0).map fun i => (bx room r (lv is) i : Int)) = iL [] := rfl
    rw [e2] at g3
    have e3 : (List.range is.length).map (fun i => (bx room r (lv is) i : Int)) = bL room r is := rfl
    rw [e3] at g3
    generalize iL ([] : List Int) = NI at *
    generalize hoS cH [] .non (stD room 0 []) .non = h0 at *
    generalize bL room r is = BB at *
    unfold r2
    generalize hB cH = HB at *
    rw [List.map_take] at e1
    simp -implicitDefEqProofs [e1, g3]
theorem r4_at (h7 : is.length ≤ 7) (h1 : ∀ i ∈ is, 1 ≤ i ∧ i ≤ room) (h0 : 0 ≤ room) (x0 x1 x4 x5 x7 x8 x9 x10 x11 x13 x14 x15 : Option SV) :
    r4 [x0, x1, some (.fz (.int room)), some (.fz (iL is)), x4, x5, some (.fz (.str r.s)), x7, x8, x9, x10, x11, some (.fz (.lst ((lots room r (lv is) is.length).map iL))), x13, x14, x15] =
      some (.next, [x0, x1, some (.fz (.int room)), some (.fz (iL is)), x4, x5, some (.fz (.str r.s)), x7, x8, x9, x10, x11, some (.fz (.lst ((lots room r (lv is) is.length).map iL))), x13, some (.fz (.lst [iL (bL room r is), .lst ((lots room r (lv is) is.length).map iL), .bl true])), x15]) := by
  have e1 := v_boxes_by r is room h1 h0 h7
  have e2 := v_packed_by r is room h1 h0 h7
  have e3 := v_is_packing room r is h1 h0 h7
  have h3 : 3 ≤ sizeLine := sz63 (by omega)
  generalize (lots room r (lv is) is.length).map iL = LL at *
  generalize bL room r is = BB at *
  simp -implicitDefEqProofs [r4, e1, e2, e3, h3]
theorem r5_at (h7 : is.length ≤ 7) (x0 x1 x2 x3 x4 x5 x6 x7 x9 x10 x11 x13 x15 : Option SV) :
    r5 [x0, x1, x2, x3, x4, x5, x6, x7, some (.own (iL (bL room r is))), x9, x10, x11, some (.fz (.lst ((lots room r (lv is) is.length).map iL))), x13, some (.fz (.lst [iL (bL room r is), .lst ((lots room r (lv is) is.length).map iL), .bl true])), x15] =
      some (.next, [x0, x1, x2, x3, x4, x5, x6, x7, some (.fz (iL (bL room r is))), x9, x10, x11, some (.fz (.lst ((lots room r (lv is) is.length).map iL))), x13, some (.fz (.lst [iL (bL room r is), .lst ((lots room r (lv is) is.length).map iL), .bl true])), x15]) := by
  have hk := kk_le room r (lv is) is.length
  have hbl : (bL room r is).length = is.length := by simp [bL]
  have e1 : Sm' 6 (.lst [iL (bL room r is), .lst ((lots room r (lv is) is.length).map iL), .bl true]) := by
    refine same_lst 5 _ (by simp) fun d hd => ?_
    simp only [List.mem_cons, List.not_mem_nil, or_false] at hd
    rcases hd with rfl | rfl | rfl
    · exact same_ints 3 _ (by omega)
    · refine same_lst 4 _ (by rw [List.length_map, lots_len]; omega) fun d hd => ?_
      obtain ⟨lot, hlot, rfl⟩ := List.mem_map.mp hd
      obtain ⟨b, hb, rfl⟩ := List.mem_map.mp hlot
      exact same_ints 2 _ (by have := lotI_len room r (lv is) is.length b; omega)
    · exact same_bl 4 true
  unfold Sm' at e1
  have h3 : 3 ≤ sizeLine := sz63 (by omega)
  generalize (lots room r (lv is) is.length).map iL = LL at *
  generalize bL room r is = BB at *
  simp -implicitDefEqProofs [r5, e1, h3]
theorem r6_at (h7 : is.length ≤ 7) (h : D) (hh : HoAt cH room r (lv is) is.length h) (x0 x1 x2 x3 x4 x6 x8 x9 x10 x11 x14 : Option SV) (hx : plO x11) :
    r6 cH [x0, x1, x2, x3, x4, some (.fz (nmD is.length)), x6, some (.own h), x8, x9, x10, x11, some (.fz (.lst ((lots room r (lv is) is.length).map iL))), none, x14, none] =
      some (.next, [x0, x1, x2, x3, x4, some (.fz (nmD is.length)), x6, some (.own h), x8, x9, x10, x11, some (.fz (.lst ((lots room r (lv is) is.length).map iL))), none, x14, none]) := by
  have hk := kk_le room r (lv is) is.length
  have e0 := v_boxes room r (lv is) cH is.length h7 h hh
  have hobj : ∃ fs, h = .obj cH fs ∧ List.lookup (("boxes" : Str)) fs = none := by
    obtain ⟨rs, a, b, rfl, _⟩ := hh
    exact ⟨_, rfl, rfl⟩
  obtain ⟨fs, rfl, hlk⟩ := hobj
  have hnb : ∀ b : Nat, (nmB room r (lv is) is.length b).length ≤ 7 := fun b => by
    unfold nmB lotN
    rw [List.length_map]
    have := List.length_filter_le (fun i => decide (bx room r (lv is) i = b)) (List.range is.length)
    simp at this
    omega
  have e1 : Sm' 6 (encR (rI (kk room r (lv is) is.length)) fun b => .lst ((nmB room r (lv is) is.length b.toNat).map D.str)) := by
    refine same_dct 5 _ _ (by rw [rI_len]; omega) fun b hb => ?_
    refine same_lst 4 _ (by rw [List.length_map]; have := hnb b.toNat; omega) fun d hd => ?_
    obtain ⟨x, _, rfl⟩ := List.mem_map.mp hd
    exact same_str 3 x
  have e2 : gEnum [.lst ((lots room r (lv is) is.length).map iL)] = some ((rI (kk room r (lv is) is.length)).map fun b => .tup [.int b, iL (lotI room r (lv is) is.length b.toNat)]) := by
    show some (enumD 0 ((lots room r (lv is) is.length).map iL)) = _
    unfold lots rI
    rw [List.map_map, List.map_map, List.range_eq_range', enumD_rng, List.range_eq_range']
    refine congrArg some (List.map_congr_left fun i _ => ?_)
    simp
  have hat : ∀ i : Int, 0 ≤ i → i < is.length → atI ((nmL.take is.length).map D.str) i = some (.str (nm i.toNat)) := fun i h0 h1 => by
    have e : i = ((i.toNat : Nat) : Int) := by omega
    rw [e]
    refine atK ?_
    rw [← nm_take h7, List.map_map, List.getElem?_map, List.getElem?_range (by omega)]
    rfl
  have e3 : ∀ (b : Int) (x11 : Option SV) (LO : D), lcM [13] (.nm 13) fYes (fV (fOp2 dIx (fVar 5) (fVar 13))) ((lotI room r (lv is) is.length b.toNat).map D.int) [x0, x1, x2, x3, x4, some (.fz (nmD is.length)), x6, some (.own (.obj cH fs)), x8, x9, x10, x11, some (.fz (.lst ((lots room r (lv is) is.length).map iL))), none, x14, some (.fz LO)] =
      some ((nmB room r (lv is) is.length b.toNat).map D.str, [x0, x1, x2, x3, x4, some (.fz (nmD is.length)), x6, some (.own (.obj cH fs)), x8, x9, x10, x11, some (.fz (.lst ((lots room r (lv is) is.length).map iL))), none, x14, some (.fz LO)]) := fun b x11 LO => by
    have q := lcM_mapF (vs := [13]) (t := .nm 13) (c := fYes) (f := (fV (fOp2 dIx (fVar 5) (fVar 13)))) (δ := [x0, x1, x2, x3, x4, some (.fz (nmD is.length)), x6, some (.own (.obj cH fs)), x8, x9, x10, x11, some (.fz (.lst ((lots room r (lv is) is.length).map iL))), none, x14, some (.fz LO)]) D.int (fun i => .str (nm i.toNat)) (xs := lotI room r (lv is) is.length b.toNat) (fun i hi => by
      obtain ⟨q0, q1⟩ := lot_in room r is i hi
      have q2 := hat i q0 q1
      unfold nmD
      generalize (nmL.take is.length).map D.str = NN at *
      generalize (lots room r (lv is) is.length).map iL = LL at *
      simp -implicitDefEqProofs [lcTurn, q2])
    rw [q]
    refine congrArg some (Prod.ext ?_ rfl)
    unfold lotI nmB
    rw [List.map_map, List.map_map]
    rfl
  have hl2 : ∀ b : Nat, (lotI room r (lv is) is.length b).length ≤ sizeLine := fun b => sz63 (by have := lotI_len room r (lv is) is.length b; omega)
  have h2 : 2 ≤ sizeLine := sz63 (by omega)
  have e4 : lcM [11, 15] (.tp [11, 15]) fYes (fV (fTup (fA (fVar 11) (fA (fV (fLc [13] (fiOf seqOf (fVar 15)) (.nm 13) (fYes) (fV (fOp2 dIx (fVar 5) (fVar 13))))) (fA0))))) ((rI (kk room r (lv is) is.length)).map fun b => .tup [.int b, iL (lotI room r (lv is) is.length b.toNat)]) [x0, x1, x2, x3, x4, some (.fz (nmD is.length)), x6, some (.own (.obj cH fs)), x8, x9, x10, none, some (.fz (.lst ((lots room r (lv is) is.length).map iL))), none, x14, none] =
      some ((rI (kk room r (lv is) is.length)).map (fun b => .tup [.int b, .lst ((nmB room r (lv is) is.length b.toNat).map D.str)]), [x0, x1, x2, x3, x4, some (.fz (nmD is.length)), x6, some (.own (.obj cH fs)), x8, x9, x10, none, some (.fz (.lst ((lots room r (lv is) is.length).map iL))), none, x14, none]) :=
    lcM_mapF (fun b => .tup [.int b, iL (lotI room r (lv is) is.length b.toNat)]) (fun b => .tup [.int b, .lst ((nmB room r (lv is) is.length b.toNat).map D.str)]) (xs := rI (kk room r (lv is) is.length)) (fun b hb => by
      have q := e3 b (some (.fz (.int b))) (iL (lotI room r (lv is) is.length b.toNat))
      have q2 := hl2 b.toNat
      generalize (nmB room r (lv is) is.length b.toNat).map D.str = NB at *
      generalize (lots room r (lv is) is.length).map iL = LL at *
      generalize nmD is.length = NN at *
      generalize lotI room r (lv is) is.length b.toNat = LO at *
      simp -implicitDefEqProofs [lcTurn, q, q2, h2])
  have e5 : gDict [.lst ((rI (kk room r (lv is) is.length)).map (fun b => .tup [.int b, .lst ((nmB room r (lv is) is.length b.toNat).map D.str)]))] = some (.new (encR (rI (kk room r (lv is) is.length)) fun b => .lst ((nmB room r (lv is) is.length b.toNat).map D.str))) := by
    show (pairsOf ((rI (kk room r (lv is) is.length)).map (fun b => .tup [.int b, .lst ((nmB room r (lv is) is.length b.toNat).map D.str)]))).map _ = _
    rw [pairsOf_R (fun b => .lst ((nmB room r (lv is) is.length b.toNat).map D.str))]
    simp only [Option.map_some]
    rw [kvMerge_R (fun b => .lst ((nmB room r (lv is) is.length b.toNat).map D.str)) (rI_nd _)]
    rfl
  have hl3 : (rI (kk room r (lv is) is.length)).length ≤ sizeLine := sz63 (by rw [rI_len]; omega)
  have hl4 : ((rI (kk room r (lv is) is.length)).map fun b => D.tup [.int b, iL (lotI room r (lv is) is.length b.toNat)]).length ≤ sizeLine := by rw [List.length_map]; exact hl3
  unfold Sm' at e1
  unfold r6
  generalize (fV (fTup (fA (fVar 11) (fA (fV (fLc [13] (fiOf seqOf (fVar 15)) (.nm 13) (fYes) (fV (fOp2 dIx (fVar 5) (fVar 13))))) (fA0))))) = FF at *
  generalize encR (rI (kk room r (lv is) is.length)) (fun b => .lst ((nmB room r (lv is) is.length b.toNat).map D.str)) = EN at *
  generalize (rI (kk room r (lv is) is.length)).map (fun b => D.tup [.int b, iL (lotI room r (lv is) is.length b.toNat)]) = Q1 at *
  generalize (rI (kk room r (lv is) is.length)).map (fun b => D.tup [.int b, .lst ((nmB room r (lv is) is.length b.toNat).map D.str)]) = Q2 at *
  generalize (lots room r (lv is) is.length).map iL = LL at *
  generalize nmD is.length = NN at *
  rcases hx with rfl | ⟨d, rfl⟩ <;>
    simp -implicitDefEqProofs [e0, hlk, e2, e4, e5, hl4, e1]
end
end K83

set_option Elab.async false
set_option linter.all false
set_option autoImplicit false
set_option maxRecDepth 100000
namespace K83
open PySem PySem.Spec PyProof.Rows L2 L2.Tl
theorem one_of {α : Type} (p : α → Bool) : ∀ (l : List α), l.Pairwise (fun a b => ¬ (p a = true ∧ p b = true)) → (l.filter p).length ≤ 1
  | [], _ => by simp
  | a :: l, h => by
    rw [List.pairwise_cons] at h
    by_cases ha : p a = true
    · have : l.filter p = [] := List.filter_eq_nil_iff.mpr fun b hb hp => h.1 b hb ⟨ha, hp⟩
      simp [ha, this]
    · simp only [List.filter_cons, ha]
      exact one_of p l h.2
section
variable (cH : Addr) (room : Int) (r : R) (is : List Int)
theorem half_one (h1 : ∀ i ∈ is, 1 ≤ i ∧ i ≤ room) (h0 : 0 ≤ room) (hr : r ≠ .nx) : ((lots room r (lv is) is.length).filter fun lot => decide (2 * szI is lot ≤ room)).length ≤ 1 := by
  refine one_of _ _ ?_
  unfold lots
  rw [List.pairwise_map]
  refine (List.pairwise_lt_range (n := kk room r (lv is) is.length)).imp_of_mem fun {b b'} hb hb' hlt => ?_
  have hb := List.mem_range.mp hb
  have hb' := List.mem_range.mp hb'
  have hnn : ∀ i, 0 ≤ lv is i := fun i => by
    unfold lv
    by_cases hi : i < is.length
    · rw [List.getD_eq_getElem?_getD, List.getElem?_eq_getElem hi]
      have := (h1 _ (List.getElem_mem hi)).1
      show 0 ≤ is[i]
      omega
    · rw [List.getD_eq_getElem?_getD, List.getElem?_eq_none (by omega)]
      exact Int.le_refl 0
  have a1 := any_fit room r (lv is) hr hnn is.length b b' hlt hb'
  have a2 := left_is room r (lv is) is.length b hb
  have a3 := left_is room r (lv is) is.length b' hb'
  simp only [decide_eq_true_eq, szI_lot]
  omega
theorem r7_at (h7 : is.length ≤ 7) (h1 : ∀ i ∈ is, 1 ≤ i ∧ i ≤ room) (h0 : 0 ≤ room) (hroom : room ≤ 100) (x0 x1 x4 x5 x7 x8 x9 x10 x11 x14 : Option SV) :
    r7 [x0, x1, some (.fz (.int room)), some (.fz (iL is)), x4, x5, some (.fz (.str r.s)), x7, x8, x9, x10, x11, some (.fz (.lst ((lots room r (lv is) is.length).map iL))), none, x14, none] =
      some (.next, [x0, x1, some (.fz (.int room)), some (.fz (iL is)), x4, x5, some (.fz (.str r.s)), x7, x8, x9, x10, x11, some (.fz (.lst ((lots room r (lv is) is.length).map iL))), none, x14, none]) := by
  have hk := kk_le room r (lv is) is.length
  have dn : dNe (.str r.s) (.str "next") = some (.val (.bl (decide (r ≠ .nx)))) := by cases r <;> rfl
  have hll : (lots room r (lv is) is.length).length ≤ sizeLine := sz63 (by rw [lots_len]; omega)
  have e1 : lcM [15] (.nm 15) (fT (fV (fOp2 dLe (fV (fOp2 dMul (fC (.int 2)) (fV (fBl gSum (fQ (fV (fLc [13] (fiOf seqOf (fVar 15)) (.nm 13) (fYes) (fV (fOp2 dIx (fVar 3) (fVar 13))))) (fQ0)))))) (fVar 2)))) (fVar 15) ((lots room r (lv is) is.length).map iL) [x0, x1, some (.fz (.int room)), some (.fz (iL is)), x4, x5, some (.fz (.str r.s)), x7, x8, x9, x10, x11, some (.fz (.lst ((lots room r (lv is) is.length).map iL))), none, x14, none] =
      some (((lots room r (lv is) is.length).filter fun lot => decide (2 * szI is lot ≤ room)).map iL, [x0, x1, some (.fz (.int room)), some (.fz (iL is)), x4, x5, some (.fz (.str r.s)), x7, x8, x9, x10, x11, some (.fz (.lst ((lots room r (lv is) is.length).map iL))), none, x14, none]) :=
    lcM_filterF iL (fun lot => decide (2 * szI is lot ≤ room)) iL (xs := lots room r (lv is) is.length) (fun lot hlot => by
      obtain ⟨b, hb, rfl⟩ := List.mem_map.mp hlot
      have hin := lot_in room r is (b := b)
      have hlo : (lotI room r (lv is) is.length b).length ≤ sizeLine := sz63 (by have := lotI_len room r (lv is) is.length b; omega)
      generalize (lots room r (lv is) is.length).map iL = LL at *
      generalize lotI room r (lv is) is.length b = lo at *
      have q1 := lcM_mapF (vs := [13]) (t := .nm 13) (c := fYes) (f := (fV (fOp2 dIx (fVar 3) (fVar 13)))) (δ := [x0, x1, some (.fz (.int room)), some (.fz (iL is)), x4, x5, some (.fz (.str r.s)), x7, x8, x9, x10, x11, some (.fz (.lst LL)), none, x14, some (.fz (iL lo))]) D.int (fun i => .int (lv is i.toNat)) (xs := lo) (fun i hi => by
        obtain ⟨g0, g1⟩ := hin i hi
        have e : i = ((i.toNat : Nat) : Int) := by omega
        have e2 : atI (is.map D.int) i = some (.int (lv is i.toNat)) := by
          have := atI_lv (L := is) (i := i.toNat) (by omega)
          rw [← e] at this
          exact this
        simp -implicitDefEqProofs [lcTurn, e2])
      have q2 := intsOf_mapF (fun i : Int => lv is i.toNat) lo
      have q3 : (lo.map fun i => lv is i.toNat).sum = szI is lo := rfl
      have q4 : mulOk 2 (szI is lo) = true := mulOk_l (by omega) (by omega)
      by_cases hc : 2 * szI is lo ≤ room <;>
        simp -implicitDefEqProofs [lcTurn, q1, hlo, q2, q3, q4, hc])
  by_cases hr : r = .nx
  · rw [decide_eq_false (by simpa using hr)] at dn
    generalize (lots room r (lv is) is.length).map iL = LL at *
    generalize R.s r = rs at *
    simp -implicitDefEqProofs [r7, dn]
  · rw [decide_eq_true hr] at dn
    have q5 := half_one room r is h1 h0 hr
    have q6 : ¬ (1 : Int) < ((((lots room r (lv is) is.length).filter fun lot => decide (2 * szI is lot ≤ room)).map iL).length : Int) := by
      rw [List.length_map]
      omega
    have hll2 : ((lots room r (lv is) is.length).map iL).length ≤ sizeLine := by simpa using hll
    unfold r7
    generalize ((lots room r (lv is) is.length).filter fun lot => decide (2 * szI is lot ≤ room)).map iL = FF at *
    generalize (lots room r (lv is) is.length).map iL = LL at *
    generalize (fT (fV (fOp2 dLe (fV (fOp2 dMul (fC (.int 2)) (fV (fBl gSum (fQ (fV (fLc [13] (fiOf seqOf (fVar 15)) (.nm 13) (fYes) (fV (fOp2 dIx (fVar 3) (fVar 13))))) (fQ0)))))) (fVar 2)))) = CC at *
    generalize R.s r = rs at *
    have q7 : ((FF.length : Int) ≤ 1) := by omega
    simp -implicitDefEqProofs [dn, hll2, e1, q6]
end
end K83

set_option Elab.async false
set_option linter.all false
set_option autoImplicit false
set_option maxRecDepth 100000
namespace K83
open PySem PySem.Spec PyProof.Rows L2 L2.Tl
theorem sSeq_next {f g : Fs} {δ δ' : Dl} (h : f δ = some (.next, δ')) : sSeq f g δ = g δ' := by
  rw [sSeq_eq, h]
  rfl
/-- one rule -/
theorem rule_turn (cH : Addr) (room : Int) (r : R) (is : List Int) (h7 : is.length ≤ 7) (h1 : ∀ i ∈ is, 1 ≤ i ∧ i ≤ room) (h0 : 0 ≤ room) (hroom : room ≤ 100) (x0 x1 x4 x6 x7 x8 x9 x10 x11 x12 x14 : Option SV) (hx : plO x11) :
    ∃ y6 y7 y8 y9 y10 y11 y12 y14, plO y11 ∧ ((tgSet (.nm 6) (.str r.s) [x0, x1, some (.fz (.int room)), some (.fz (iL is)), x4, some (.fz (nmD is.length)), x6, x7, x8, x9, x10, x11, x12, none, x14, none]).bind (rB cH)) =
      some (.next, [x0, x1, some (.fz (.int room)), some (.fz (iL is)), x4, some (.fz (nmD is.length)), y6, y7, y8, y9, y10, y11, y12, none, y14, none]) := by
  have e1 := r1_at cH room h0 x0 x1 (some (.fz (iL is))) x4 (some (.fz (nmD is.length))) (some (.fz (.str r.s))) x7 x8 x9 x10 x11 x12 none x14 none
  obtain ⟨h, y9, y10, y11, hh, hy, e2⟩ := r2_at cH room r is h7 h1 x0 x1 (some (.fz (.int room))) x4 x9 x10 x11 x12 none x14 none hx
  have e3 := r3_at room r is h7 x0 x1 (some (.fz (.int room))) x4 (some (.fz (nmD is.length))) (some (.fz (.str r.s))) (some (.own h)) y9 y10 y11 x12 x14 none hy
  have e4 := r4_at room r is h7 h1 h0 x0 x1 x4 (some (.fz (nmD is.length))) (some (.own h)) (some (.own (iL (bL room r is)))) y9 y10 y11 none x14 none
  have e5 := r5_at room r is h7 x0 x1 (some (.fz (.int room))) (some (.fz (iL is))) x4 (some (.fz (nmD is.length))) (some (.fz (.str r.s))) (some (.own h)) y9 y10 y11 none none
  have e6 := r6_at cH room r is h7 h hh x0 x1 (some (.fz (.int room))) (some (.fz (iL is))) x4 (some (.fz (.str r.s))) (some (.fz (iL (bL room r is)))) y9 y10 y11 (some (.fz (.lst [iL (bL room r is), .lst ((lots room r (lv is) is.length).map iL), .bl true]))) hy
  have e7 := r7_at room r is h7 h1 h0 hroom x0 x1 x4 (some (.fz (nmD is.length))) (some (.own h)) (some (.fz (iL (bL room r is)))) y9 y10 y11 (some (.fz (.lst [iL (bL room r is), .lst ((lots room r (lv is) is.length).map iL), .bl true])))
  refine ⟨some (.fz (.str r.s)), some (.own h), some (.fz (iL (bL room r is))), y9, y10, y11, some (.fz (.lst ((lots room r (lv is) is.length).map iL))), some (.fz (.lst [iL (bL room r is), .lst ((lots room r (lv is) is.length).map iL), .bl true])), hy, ?_⟩
  rw [tgSet_nm, Option.bind_some]
  show rB cH [x0, x1, some (.fz (.int room)), some (.fz (iL is)), x4, some (.fz (nmD is.length)), some (.fz (.str r.s)), x7, x8, x9, x10, x11, x12, none, x14, none] = _
  unfold rB
  rw [sSeq_next e1, sSeq_next e2, sSeq_next e3, sSeq_next e4, sSeq_next e5, sSeq_next e6, e7]
theorem rules_loop (cH : Addr) (room : Int) (is : List Int) (h7 : is.length ≤ 7) (h1 : ∀ i ∈ is, 1 ≤ i ∧ i ≤ room) (h0 : 0 ≤ room) (hroom : room ≤ 100) (x0 x1 x4 : Option SV) : ∀ (rs : List R) (x6 x7 x8 x9 x10 x11 x12 x14 : Option SV), plO x11 →
    ∃ y6 y7 y8 y9 y10 y11 y12 y14, loopM (.nm 6) (rB cH) (rs.map fun r => .str r.s) [x0, x1, some (.fz (.int room)), some (.fz (iL is)), x4, some (.fz (nmD is.length)), x6, x7, x8, x9, x10, x11, x12, none, x14, none] =
      some (.next, [x0, x1, some (.fz (.int room)), some (.fz (iL is)), x4, some (.fz (nmD is.length)), y6, y7, y8, y9, y10, y11, y12, none, y14, none])
  | [], x6, x7, x8, x9, x10, x11, x12, x14, hx => ⟨x6, x7, x8, x9, x10, x11, x12, x14, rfl⟩
  | r :: rs, x6, x7, x8, x9, x10, x11, x12, x14, hx => by
    obtain ⟨z6, z7, z8, z9, z10, z11, z12, z14, hz, e⟩ := rule_turn cH room r is h7 h1 h0 hroom x0 x1 x4 x6 x7 x8 x9 x10 x11 x12 x14 hx
    obtain ⟨y6, y7, y8, y9, y10, y11, y12, y14, e2⟩ := rules_loop cH room is h7 h1 h0 hroom x0 x1 x4 rs z6 z7 z8 z9 z10 z11 z12 z14 hz
    refine ⟨y6, y7, y8, y9, y10, y11, y12, y14, ?_⟩
    rw [List.map_cons, ← e2]
    exact loopM_next e
theorem p4_at (cH : Addr) (room : Int) (is : List Int) (h7 : is.length ≤ 7) (h1 : ∀ i ∈ is, 1 ≤ i ∧ i ≤ room) (h0 : 0 ≤ room) (hroom : room ≤ 100) (x0 x1 x4 : Option SV) :
    ∃ δ', p4 cH [x0, x1, some (.fz (.int room)), some (.fz (iL is)), x4, some (.fz (nmD is.length)), none, none, none, none, none, none, none, none, none, none] = some (.next, x0 :: x1 :: δ') := by
  obtain ⟨y6, y7, y8, y9, y10, y11, y12, y14, e⟩ := rules_loop cH room is h7 h1 h0 hroom x0 x1 x4 [.nx, .fi, .be, .wo] none none none none none none none none (.inl rfl)
  refine ⟨[some (.fz (.int room)), some (.fz (iL is)), x4, some (.fz (nmD is.length)), y6, y7, y8, y9, y10, y11, y12, none, y14, none], ?_⟩
  have e2 : ([R.nx, .fi, .be, .wo].map fun r => D.str r.s) = [.str "next", .str "first", .str "best", .str "worst"] := rfl
  rw [e2] at e
  have h4 : 4 ≤ sizeLine := sz63 (by omega)
  unfold p4
  generalize rB cH = RB at *
  simp -implicitDefEqProofs [h4]
  exact e
/-! ### the draws -/
theorem draws (s : Option SV) (room : Int) (h0 : 0 < room) (h1 : room ≤ 100) (a3 : Option SV) (rest : Dl) : ∀ (ds : List D) (a b c d : Int), 0 ≤ c → c + ds.length ≤ 900 → ∃ (xs : List Int) (a' b' c' d' : Int), xs.length = ds.length ∧ (∀ x ∈ xs, 1 ≤ x ∧ x ≤ room) ∧
    lcM [4] (.nm 4) fYes (fV (fOp2 dAdd (fC (.int 1)) (fV (fCall g__law_draw (fMi (fVar 1) (fMv (fVar 2) (fM0))) [])))) ds (s :: some (.own (pu a b c d)) :: some (.fz (.int room)) :: a3 :: none :: rest) = some (xs.map .int, s :: some (.own (pu a' b' c' d')) :: some (.fz (.int room)) :: a3 :: none :: rest)
  | [], a, b, c, d, h, _ => ⟨[], a, b, c, d, rfl, by simp, rfl⟩
  | e :: ds, a, b, c, d, h, hl => by
    simp only [List.length_cons] at hl
    obtain ⟨x, a1, b1, c1, d1, h1, h2, h3, h4, h5⟩ := v_draw a b c d room h0 (by omega) h (by omega)
    obtain ⟨xs, a', b', c', d', g1, g2, g5⟩ := draws s room h0 (by omega) a3 rest ds a1 b1 c1 d1 h3 (by omega)
    refine ⟨(1 + x) :: xs, a', b', c', d', by simp [g1], fun y hy => ?_, ?_⟩
    · simp only [List.mem_cons] at hy
      rcases hy with rfl | hy
      · omega
      · exact g2 y hy
    · rw [lcM_turn]
      have : lcTurn [4] (.nm 4) fYes (fV (fOp2 dAdd (fC (.int 1)) (fV (fCall g__law_draw (fMi (fVar 1) (fMv (fVar 2) (fM0))) [])))) e (s :: some (.own (pu a b c d)) :: some (.fz (.int room)) :: a3 :: none :: rest) = some (some (.int (1 + x)), s :: some (.own (pu a1 b1 c1 d1)) :: some (.fz (.int room)) :: a3 :: none :: rest) := by
        simp -implicitDefEqProofs [lcTurn, h5]
      rw [this]
      simp -implicitDefEqProofs only [Option.bind_some, g5, Option.map_some, List.map_cons]
theorem p_at (ns : List Int) (a b : Int) : ∃ (room : Int) (is : List Int) (p : D), 2 ≤ room ∧ room ≤ 100 ∧ is.length ≤ 7 ∧ (∀ i ∈ is, 1 ≤ i ∧ i ≤ room) ∧ ∀ g : Fs, sSeq p1 (sSeq p2 (sSeq p3 g)) [some (.fz (.kl ns)), some (.own (pu a b 0 0)), none, none, none, none, none, none, none, none, none, none, none, none, none, none] =
    g [some (.fz (.kl ns)), some (.own p), some (.fz (.int room)), some (.fz (iL is)), none, some (.fz (nmD is.length)), none, none, none, none, none, none, none, none, none, none] := by
  obtain ⟨x, a1, b1, c1, d1, h1, h2, h3, h4, h5⟩ := v_draw a b 0 0 11 (by omega) (by omega) (by omega) (by omega)
  obtain ⟨m, a2, b2, c2, d2, k1, k2, k3, k4, k5⟩ := v_draw a1 b1 c1 d1 8 (by omega) (by omega) h3 (by omega)
  have hr : (rngD 0 1 m.toNat).length = m.toNat := by simp [rngD]
  obtain ⟨is, a3, b3, c3, d3, g1, g2, g3⟩ := draws (some (.fz (.kl ns))) (2 + x) (by omega) (by omega) none [none, none, none, none, none, none, none, none, none, none, none] (rngD 0 1 m.toNat) a2 b2 c2 d2 k3 (by rw [hr]; omega)
  rw [hr] at g1
  have h7 : is.length ≤ 7 := by omega
  refine ⟨2 + x, is, pu a3 b3 c3 d3, by omega, by omega, h7, g2, fun g => ?_⟩
  have e1 : p1 [some (.fz (.kl ns)), some (.own (pu a b 0 0)), none, none, none, none, none, none, none, none, none, none, none, none, none, none] = some (.next, [some (.fz (.kl ns)), some (.own (pu a1 b1 c1 d1)), some (.fz (.int (2 + x))), none, none, none, none, none, none, none, none, none, none, none, none, none]) := by
    simp -implicitDefEqProofs [p1, h5]
  have hb : b62 m = true := b62_of (by omega) (by omega)
  have hl : (rngD 0 1 m.toNat).length ≤ sizeLine := sz63 (by omega)
  have e2 : p2 [some (.fz (.kl ns)), some (.own (pu a1 b1 c1 d1)), some (.fz (.int (2 + x))), none, none, none, none, none, none, none, none, none, none, none, none, none] = some (.next, [some (.fz (.kl ns)), some (.own (pu a3 b3 c3 d3)), some (.fz (.int (2 + x))), some (.fz (iL is)), none, none, none, none, none, none, none, none, none, none, none, none]) := by
    simp -implicitDefEqProofs [p2, k5, hb, hl, g3]
  have h77 : 7 ≤ sizeLine := sz63 (by omega)
  have ec : cutD [D.str "a", .str "b", .str "c", .str "d", .str "e", .str "f", .str "g"] none (some (is.length : Int)) = (nmL.take is.length).map D.str := by
    rw [cutD_to (by omega), List.map_take]
    rfl
  have e3 : p3 [some (.fz (.kl ns)), some (.own (pu a3 b3 c3 d3)), some (.fz (.int (2 + x))), some (.fz (iL is)), none, none, none, none, none, none, none, none, none, none, none, none] = some (.next, [some (.fz (.kl ns)), some (.own (pu a3 b3 c3 d3)), some (.fz (.int (2 + x))), some (.fz (iL is)), none, some (.fz (nmD is.length)), none, none, none, none, none, none, none, none, none, none]) := by
    unfold nmD
    generalize (nmL.take is.length).map D.str = NN at *
    simp -implicitDefEqProofs [p3, h77, ec]
  rw [sSeq_next e1, sSeq_next e2, sSeq_next e3]
theorem law_true (cH : Addr) (ns : List Int) (h : ns.length ≤ 63) : g_law cH [.fz (.kl ns)] = some (.val (.bl true), []) := by
  obtain ⟨a, b, e0⟩ := v_purses ns h
  obtain ⟨room, is, p, h2, h100, h7, h1, e1⟩ := p_at ns a b
  obtain ⟨δ', e4⟩ := p4_at cH room is h7 h1 (by omega) h100 (some (.fz (.kl ns))) (some (.own p)) none
  have e5 := e1 (p4 cH)
  rw [e4] at e5
  have hg : g_law cH = runP 1 (sSeq (sFor1 1 (f1Call g__law_purses (fA (fVar 0) (fA (fC (.int 1)) (fA0)))) (sSeq p1 (sSeq p2 (sSeq p3 (p4 cH))))) (sRet (fO (fC (.bl true))))) 15 := congrArg (fun f => runP 1 f 15) (f_law_is cH)
  generalize sSeq p1 (sSeq p2 (sSeq p3 (p4 cH))) = body at *
  simp -implicitDefEqProofs [hg, e0, e5]
end K83

set_option Elab.async false
set_option linter.all false
set_option autoImplicit false
set_option maxRecDepth 100000
namespace K83
open PySem PySem.Spec PyProof.Rows L2 L2.Tl
def spLaw (K : PySem.W.Frag) : Sp := fun vs H Q _ => ∃ (a : Addr) (ns : List Int), vs = [.ref a] ∧ SqL K H a (ns.map V.int) ∧ ns.length ≤ 63 ∧ ∀ H', Q (.bl true) H'
theorem law_promise {K : PySem.W.Frag} {cH : Addr} (vs : List V) (H : Hp) (Q : VK) (E : XK) (q : spLaw K vs H Q E) : spT K (g_law cH) vs H Q E := by
  obtain ⟨a, ns, rfl, hS, hl, k⟩ := q
  refine ⟨H, [.fz (.kl ns)], [], .val (.bl true), [], .refl H, .fz (.kl hS) .nil, .nil, law_true cH ns hl, fun v H' G' A r => ?_⟩
  have := Rep.bl_inv (K := K) (G := G') r
  subst this
  exact k H'
set_option maxHeartbeats 0 in
theorem law_mk {l : PySem.W.OpenLaw} {w : World} {K : PySem.W.Frag} {mg : Str → Option Value} {fa cH : Addr} (hfa : mg "law" = some (.ref fa)) (hb : NoMg mg blts)
    (d_is_whole : ∃ f fd, DefD K mg "is_whole" "is_whole" s_is_whole [] f fd)
    (d_is_count : ∃ f fd, DefD K mg "is_count" "is_count" s_is_count [.int 0] f fd)
    (d_is_word : ∃ f fd, DefD K mg "is_word" "is_word" s_is_word [] f fd)
    (d_is_tuple_of : ∃ f fd, DefD K mg "is_tuple_of" "is_tuple_of" s_is_tuple_of [] f fd)
    (d_is_said : ∃ f fd, DefD K mg "is_said" "is_said" s_is_said [] f fd)
    (d_copied : ∃ f fd, DefD K mg "copied" "copied" s_copied [] f fd)
    (d_are_sizes : ∃ f fd, DefD K mg "are_sizes" "are_sizes" s_are_sizes [] f fd)
    (d_check_sizes : ∃ f fd, DefD K mg "check_sizes" "check_sizes" s_check_sizes [] f fd)
    (d_is_lot_there : ∃ f fd, DefD K mg "is_lot_there" "is_lot_there" s_is_lot_there [] f fd)
    (d_check_room : ∃ f fd, DefD K mg "check_room" "check_room" s_check_room [] f fd)
    (d_size_there : ∃ f fd, DefD K mg "size_there" "size_there" s_size_there [] f fd)
    (d_is_act : ∃ f fd, DefD K mg "is_act" "is_act" s_is_act [] f fd)
    (d_fits : ∃ f fd, DefD K mg "fits" "fits" s_fits [] f fd)
    (d_names_in : ∃ f fd, DefD K mg "names_in" "names_in" s_names_in [] f fd)
    (d_spare_of : ∃ f fd, DefD K mg "spare_of" "spare_of" s_spare_of [] f fd)
    (d_with_things : ∃ f fd, DefD K mg "with_things" "with_things" s_with_things [] f fd)
    (d_opened : ∃ f fd, DefD K mg "opened" "opened" s_opened [] f fd)
    (d_acted : ∃ f fd, DefD K mg "acted" "acted" s_acted [] f fd)
    (md_House_init : ∃ f fd, MetD K cH "__init__" "House.__init__" s_House_init f fd)
    (md_House_state : ∃ f fd, MetD K cH "state" "House.state" s_House_state f fd)
    (md_House_do : ∃ f fd, MetD K cH "do" "House.do" s_House_do f fd)
    (md_House_room : ∃ f fd, MetD K cH "room" "House.room" s_House_room f fd)
    (md_House_boxes : ∃ f fd, MetD K cH "boxes" "House.boxes" s_House_boxes f fd)
    (md_House_things : ∃ f fd, MetD K cH "things" "House.things" s_House_things f fd)
    (md_House_spares : ∃ f fd, MetD K cH "spares" "House.spares" s_House_spares f fd)
    (d_check_house : ∃ f fd, DefD K mg "check_house" "check_house" s_check_house [] f fd)
    (d_check_size : ∃ f fd, DefD K mg "check_size" "check_size" s_check_size [] f fd)
    (d_fits_there : ∃ f fd, DefD K mg "fits_there" "fits_there" s_fits_there [] f fd)
    (d_which_fit : ∃ f fd, DefD K mg "which_fit" "which_fit" s_which_fit [] f fd)
    (d_first_fit : ∃ f fd, DefD K mg "first_fit" "first_fit" s_first_fit [] f fd)
    (d_best_fit : ∃ f fd, DefD K mg "best_fit" "best_fit" s_best_fit [] f fd)
    (d_widest_fit : ∃ f fd, DefD K mg "widest_fit" "widest_fit" s_widest_fit [] f fd)
    (d_is_packing_there : ∃ f fd, DefD K mg "is_packing_there" "is_packing_there" s_is_packing_there [] f fd)
    (d_check_things : ∃ f fd, DefD K mg "check_things" "check_things" s_check_things [] f fd)
    (d_is_packing : ∃ f fd, DefD K mg "is_packing" "is_packing" s_is_packing [] f fd)
    (d_by_boxes : ∃ f fd, DefD K mg "by_boxes" "by_boxes" s_by_boxes [] f fd)
    (d_check_rule : ∃ f fd, DefD K mg "check_rule" "check_rule" s_check_rule [] f fd)
    (d_check_held : ∃ f fd, DefD K mg "check_held" "check_held" s_check_held [] f fd)
    (d_box_there : ∃ f fd, DefD K mg "box_there" "box_there" s_box_there [] f fd)
    (d_boxes_there : ∃ f fd, DefD K mg "boxes_there" "boxes_there" s_boxes_there [] f fd)
    (d_plain_boxes : ∃ f fd, DefD K mg "plain_boxes" "plain_boxes" s_plain_boxes [] f fd)
    (d_check_all : ∃ f fd, DefD K mg "check_all" "check_all" s_check_all [] f fd)
    (d_boxes_by : ∃ f fd, DefD K mg "boxes_by" "boxes_by" s_boxes_by [] f fd)
    (d_packed_by : ∃ f fd, DefD K mg "packed_by" "packed_by" s_packed_by [] f fd)
    (d__law_purse : ∃ f fd, DefD K mg "_law_purse" "_law_purse" s__law_purse [] f fd)
    (d__law_mixed : ∃ f fd, DefD K mg "_law_mixed" "_law_mixed" s__law_mixed [] f fd)
    (d__law_draw : ∃ f fd, DefD K mg "_law_draw" "_law_draw" s__law_draw [] f fd)
    (d__law_same : ∃ f fd, DefD K mg "_law_same" "_law_same" s__law_same [] f fd)
    (d__law_purses : ∃ f fd, DefD K mg "_law_purses" "_law_purses" s__law_purses [] f fd)
    (d__law_spot : ∃ f fd, DefD K mg "_law_spot" "_law_spot" s__law_spot [] f fd)
    (d_law : ∃ f fd, DefD K mg "law" "law" s_law [] f fd)
    (hC : ClsI K cH)
    (h_cls : mg "House" = some (.ref cH))
    (mkc : PySem.W.makesIn K cH = true)
    (kpc : PySem.W.keepIn K (.ref cH) = true)
    (n_at : PySem.W.findIn K (.ref cH) "at" = some none)
    (n_row : PySem.W.findIn K (.ref cH) "row" = some none)
    (z_RULES : StrL K mg "RULES" ["next", "first", "best", "worst"]) :
    ∃ fd : FuncData, (∀ (s : Shared) (v : Value), BindsTo s fd ⟨[v], []⟩ [("script", v)]) ∧ ∀ base : Heap, K.In base → base.Ns mainGlobals mg → FnOk l.prog w K mg base CX0 8 fa fd ["script"] (spLaw K) := by
  obtain ⟨f_is_whole, fd_is_whole, D_is_whole⟩ := d_is_whole
  have b_is_whole : Binds K fd_is_whole p_is_whole [] := FunD.bindsN D_is_whole.fn fun _ _ _ _ _ _ us hl => match us, hl with | [_], _ => rfl
  obtain ⟨f_is_count, fd_is_count, D_is_count⟩ := d_is_count
  obtain ⟨f_is_word, fd_is_word, D_is_word⟩ := d_is_word
  have b_is_word : Binds K fd_is_word p_is_word [] := FunD.bindsN D_is_word.fn fun _ _ _ _ _ _ us hl => match us, hl with | [_], _ => rfl
  obtain ⟨f_is_tuple_of, fd_is_tuple_of, D_is_tuple_of⟩ := d_is_tuple_of
  have b_is_tuple_of : Binds K fd_is_tuple_of p_is_tuple_of [] := FunD.bindsN D_is_tuple_of.fn fun _ _ _ _ _ _ us hl => match us, hl with | [_, _], _ => rfl
  obtain ⟨f_is_said, fd_is_said, D_is_said⟩ := d_is_said
  have b_is_said : Binds K fd_is_said p_is_said [] := FunD.bindsN D_is_said.fn fun _ _ _ _ _ _ us hl => match us, hl with | [_, _, _], _ => rfl
  obtain ⟨f_copied, fd_copied, D_copied⟩ := d_copied
  have b_copied : Binds K fd_copied p_copied [] := FunD.bindsN D_copied.fn fun _ _ _ _ _ _ us hl => match us, hl with | [_], _ => rfl
  obtain ⟨f_are_sizes, fd_are_sizes, D_are_sizes⟩ := d_are_sizes
  have b_are_sizes : Binds K fd_are_sizes p_are_sizes [] := FunD.bindsN D_are_sizes.fn fun _ _ _ _ _ _ us hl => match us, hl with | [_], _ => rfl
  obtain ⟨f_check_sizes, fd_check_sizes, D_check_sizes⟩ := d_check_sizes
  have b_check_sizes : Binds K fd_check_sizes p_check_sizes [] := FunD.bindsN D_check_sizes.fn fun _ _ _ _ _ _ us hl => match us, hl with | [_], _ => rfl
  obtain ⟨f_is_lot_there, fd_is_lot_there, D_is_lot_there⟩ := d_is_lot_there
  have b_is_lot_there : Binds K fd_is_lot_there p_is_lot_there [] := FunD.bindsN D_is_lot_there.fn fun _ _ _ _ _ _ us hl => match us, hl with | [_, _], _ => rfl
  obtain ⟨f_check_room, fd_check_room, D_check_room⟩ := d_check_room
  have b_check_room : Binds K fd_check_room p_check_room [] := FunD.bindsN D_check_room.fn fun _ _ _ _ _ _ us hl => match us, hl with | [_], _ => rfl
  obtain ⟨f_size_there, fd_size_there, D_size_there⟩ := d_size_there
  have b_size_there : Binds K fd_size_there p_size_there [] := FunD.bindsN D_size_there.fn fun _ _ _ _ _ _ us hl => match us, hl with | [_, _], _ => rfl
  obtain ⟨f_is_act, fd_is_act, D_is_act⟩ := d_is_act
  have b_is_act : Binds K fd_is_act p_is_act [] := FunD.bindsN D_is_act.fn fun _ _ _ _ _ _ us hl => match us, hl with | [_], _ => rfl
  obtain ⟨f_fits, fd_fits, D_fits⟩ := d_fits
  have b_fits : Binds K fd_fits p_fits [] := FunD.bindsN D_fits.fn fun _ _ _ _ _ _ us hl => match us, hl with | [_, _], _ => rfl
  obtain ⟨f_names_in, fd_names_in, D_names_in⟩ := d_names_in
  have b_names_in : Binds K fd_names_in p_names_in [] := FunD.bindsN D_names_in.fn fun _ _ _ _ _ _ us hl => match us, hl with | [_, _], _ => rfl
  obtain ⟨f_spare_of, fd_spare_of, D_spare_of⟩ := d_spare_of
  have b_spare_of : Binds K fd_spare_of p_spare_of [] := FunD.bindsN D_spare_of.fn fun _ _ _ _ _ _ us hl => match us, hl with | [_, _], _ => rfl
  obtain ⟨f_with_things, fd_with_things, D_with_things⟩ := d_with_things
  have b_with_things : Binds K fd_with_things p_with_things [] := FunD.bindsN D_with_things.fn fun _ _ _ _ _ _ us hl => match us, hl with | [_, _], _ => rfl
  obtain ⟨f_opened, fd_opened, D_opened⟩ := d_opened
  have b_opened : Binds K fd_opened p_opened [] := FunD.bindsN D_opened.fn fun _ _ _ _ _ _ us hl => match us, hl with | [_, _], _ => rfl
  obtain ⟨f_acted, fd_acted, D_acted⟩ := d_acted
  have b_acted : Binds K fd_acted p_acted [] := FunD.bindsN D_acted.fn fun _ _ _ _ _ _ us hl => match us, hl with | [_, _], _ => rfl
  obtain ⟨f_House_init, fd_House_init, D_House_init⟩ := md_House_init
  have b_House_init : Binds K fd_House_init p_House_init [] := FunD.bindsN D_House_init.fn fun _ _ _ _ _ _ us hl => match us, hl with | [_, _], _ => rfl
  obtain ⟨f_House_state, fd_House_state, D_House_state⟩ := md_House_state
  have b_House_state : Binds K fd_House_state p_House_state [] := FunD.bindsN D_House_state.fn fun _ _ _ _ _ _ us hl => match us, hl with | [_], _ => rfl
  obtain ⟨f_House_do, fd_House_do, D_House_do⟩ := md_House_do
  have b_House_do : Binds K fd_House_do p_House_do [] := FunD.bindsN D_House_do.fn fun _ _ _ _ _ _ us hl => match us, hl with | [_, _], _ => rfl
  obtain ⟨f_House_room, fd_House_room, D_House_room⟩ := md_House_room
  have b_House_room : Binds K fd_House_room p_House_room [] := FunD.bindsN D_House_room.fn fun _ _ _ _ _ _ us hl => match us, hl with | [_], _ => rfl
  obtain ⟨f_House_boxes, fd_House_boxes, D_House_boxes⟩ := md_House_boxes
  have b_House_boxes : Binds K fd_House_boxes p_House_boxes [] := FunD.bindsN D_House_boxes.fn fun _ _ _ _ _ _ us hl => match us, hl with | [_], _ => rfl
  obtain ⟨f_House_things, fd_House_things, D_House_things⟩ := md_House_things
  have b_House_things : Binds K fd_House_things p_House_things [] := FunD.bindsN D_House_things.fn fun _ _ _ _ _ _ us hl => match us, hl with | [_], _ => rfl
  obtain ⟨f_House_spares, fd_House_spares, D_House_spares⟩ := md_House_spares
  have b_House_spares : Binds K fd_House_spares p_House_spares [] := FunD.bindsN D_House_spares.fn fun _ _ _ _ _ _ us hl => match us, hl with | [_], _ => rfl
  obtain ⟨f_check_house, fd_check_house, D_check_house⟩ := d_check_house
  have b_check_house : Binds K fd_check_house p_check_house [] := FunD.bindsN D_check_house.fn fun _ _ _ _ _ _ us hl => match us, hl with | [_], _ => rfl
  obtain ⟨f_check_size, fd_check_size, D_check_size⟩ := d_check_size
  have b_check_size : Binds K fd_check_size p_check_size [] := FunD.bindsN D_check_size.fn fun _ _ _ _ _ _ us hl => match us, hl with | [_, _], _ => rfl
  obtain ⟨f_fits_there, fd_fits_there, D_fits_there⟩ := d_fits_there
  have b_fits_there : Binds K fd_fits_there p_fits_there [] := FunD.bindsN D_fits_there.fn fun _ _ _ _ _ _ us hl => match us, hl with | [_, _], _ => rfl
  obtain ⟨f_which_fit, fd_which_fit, D_which_fit⟩ := d_which_fit
  have b_which_fit : Binds K fd_which_fit p_which_fit [] := FunD.bindsN D_which_fit.fn fun _ _ _ _ _ _ us hl => match us, hl with | [_, _], _ => rfl
  obtain ⟨f_first_fit, fd_first_fit, D_first_fit⟩ := d_first_fit
  have b_first_fit : Binds K fd_first_fit p_first_fit [] := FunD.bindsN D_first_fit.fn fun _ _ _ _ _ _ us hl => match us, hl with | [_, _], _ => rfl
  obtain ⟨f_best_fit, fd_best_fit, D_best_fit⟩ := d_best_fit
  have b_best_fit : Binds K fd_best_fit p_best_fit [] := FunD.bindsN D_best_fit.fn fun _ _ _ _ _ _ us hl => match us, hl with | [_, _], _ => rfl
  obtain ⟨f_widest_fit, fd_widest_fit, D_widest_fit⟩ := d_widest_fit
  have b_widest_fit : Binds K fd_widest_fit p_widest_fit [] := FunD.bindsN D_widest_fit.fn fun _ _ _ _ _ _ us hl => match us, hl with | [_, _], _ => rfl
  obtain ⟨f_is_packing_there, fd_is_packing_there, D_is_packing_there⟩ := d_is_packing_there
  have b_is_packing_there : Binds K fd_is_packing_there p_is_packing_there [] := FunD.bindsN D_is_packing_there.fn fun _ _ _ _ _ _ us hl => match us, hl with | [_, _, _], _ => rfl
  obtain ⟨f_check_things, fd_check_things, D_check_things⟩ := d_check_things
  have b_check_things : Binds K fd_check_things p_check_things [] := FunD.bindsN D_check_things.fn fun _ _ _ _ _ _ us hl => match us, hl with | [_, _], _ => rfl
  obtain ⟨f_is_packing, fd_is_packing, D_is_packing⟩ := d_is_packing
  have b_is_packing : Binds K fd_is_packing p_is_packing [] := FunD.bindsN D_is_packing.fn fun _ _ _ _ _ _ us hl => match us, hl with | [_, _, _], _ => rfl
  obtain ⟨f_by_boxes, fd_by_boxes, D_by_boxes⟩ := d_by_boxes
  have b_by_boxes : Binds K fd_by_boxes p_by_boxes [] := FunD.bindsN D_by_boxes.fn fun _ _ _ _ _ _ us hl => match us, hl with | [_, _, _], _ => rfl
  obtain ⟨f_check_rule, fd_check_rule, D_check_rule⟩ := d_check_rule
  have b_check_rule : Binds K fd_check_rule p_check_rule [] := FunD.bindsN D_check_rule.fn fun _ _ _ _ _ _ us hl => match us, hl with | [_], _ => rfl
  obtain ⟨f_check_held, fd_check_held, D_check_held⟩ := d_check_held
  have b_check_held : Binds K fd_check_held p_check_held [] := FunD.bindsN D_check_held.fn fun _ _ _ _ _ _ us hl => match us, hl with | [_, _], _ => rfl
  obtain ⟨f_box_there, fd_box_there, D_box_there⟩ := d_box_there
  have b_box_there : Binds K fd_box_there p_box_there [] := FunD.bindsN D_box_there.fn fun _ _ _ _ _ _ us hl => match us, hl with | [_, _, _], _ => rfl
  obtain ⟨f_boxes_there, fd_boxes_there, D_boxes_there⟩ := d_boxes_there
  have b_boxes_there : Binds K fd_boxes_there p_boxes_there [] := FunD.bindsN D_boxes_there.fn fun _ _ _ _ _ _ us hl => match us, hl with | [_, _, _, _], _ => rfl
  obtain ⟨f_plain_boxes, fd_plain_boxes, D_plain_boxes⟩ := d_plain_boxes
  have b_plain_boxes : Binds K fd_plain_boxes p_plain_boxes [] := FunD.bindsN D_plain_boxes.fn fun _ _ _ _ _ _ us hl => match us, hl with | [_, _, _], _ => rfl
  obtain ⟨f_check_all, fd_check_all, D_check_all⟩ := d_check_all
  have b_check_all : Binds K fd_check_all p_check_all [] := FunD.bindsN D_check_all.fn fun _ _ _ _ _ _ us hl => match us, hl with | [_, _, _], _ => rfl
  obtain ⟨f_boxes_by, fd_boxes_by, D_boxes_by⟩ := d_boxes_by
  have b_boxes_by : Binds K fd_boxes_by p_boxes_by [] := FunD.bindsN D_boxes_by.fn fun _ _ _ _ _ _ us hl => match us, hl with | [_, _, _], _ => rfl
  obtain ⟨f_packed_by, fd_packed_by, D_packed_by⟩ := d_packed_by
  have b_packed_by : Binds K fd_packed_by p_packed_by [] := FunD.bindsN D_packed_by.fn fun _ _ _ _ _ _ us hl => match us, hl with | [_, _, _], _ => rfl
  obtain ⟨f__law_purse, fd__law_purse, D__law_purse⟩ := d__law_purse
  have b__law_purse : Binds K fd__law_purse p__law_purse [] := FunD.bindsN D__law_purse.fn fun _ _ _ _ _ _ us hl => match us, hl with | [_, _], _ => rfl
  obtain ⟨f__law_mixed, fd__law_mixed, D__law_mixed⟩ := d__law_mixed
  have b__law_mixed : Binds K fd__law_mixed p__law_mixed [] := FunD.bindsN D__law_mixed.fn fun _ _ _ _ _ _ us hl => match us, hl with | [_, _, _], _ => rfl
  obtain ⟨f__law_draw, fd__law_draw, D__law_draw⟩ := d__law_draw
  have b__law_draw : Binds K fd__law_draw p__law_draw [] := FunD.bindsN D__law_draw.fn fun _ _ _ _ _ _ us hl => match us, hl with | [_, _], _ => rfl
  obtain ⟨f__law_same, fd__law_same, D__law_same⟩ := d__law_same
  have b__law_same : Binds K fd__law_same p__law_same [] := FunD.bindsN D__law_same.fn fun _ _ _ _ _ _ us hl => match us, hl with | [_, _], _ => rfl
  obtain ⟨f__law_purses, fd__law_purses, D__law_purses⟩ := d__law_purses
  have b__law_purses : Binds K fd__law_purses p__law_purses [] := FunD.bindsN D__law_purses.fn fun _ _ _ _ _ _ us hl => match us, hl with | [_, _], _ => rfl
  obtain ⟨f__law_spot, fd__law_spot, D__law_spot⟩ := d__law_spot
  have b__law_spot : Binds K fd__law_spot p__law_spot [] := FunD.bindsN D__law_spot.fn fun _ _ _ _ _ _ us hl => match us, hl with | [_, _, _], _ => rfl
  obtain ⟨f_law, fd_law, D_law⟩ := d_law
  have b_law : Binds K fd_law p_law [] := FunD.bindsN D_law.fn fun _ _ _ _ _ _ us hl => match us, hl with | [_], _ => rfl
  have e := hfa.symm.trans D_law.mgf
  cases e
  refine ⟨fd_law, fun s v => FunD.bindsA (ps := p_law) D_law.fn (fun _ _ _ _ _ _ us hl => match us, hl with | [_], _ => rfl) s [v] rfl, fun base hK hN => ?_⟩
  have o_is_whole : FnOk l.prog w K mg base CX0 1 _ fd_is_whole p_is_whole (spT K (g_is_whole)) := (ok_is_whole D_is_whole.c8 hb )
  have c_is_whole : Cal l.prog w K mg base 1 "is_whole" (g_is_whole) [] := cal_of D_is_whole b_is_whole o_is_whole
  have o_is_count : FnOk l.prog w K mg base CX0 2 _ fd_is_count p_is_count (spT K (g_is_count)) := (ok_is_count D_is_count.c8 hb c_is_whole)
  have c_is_count : Cal l.prog w K mg base 2 "is_count" (g_is_count) [] := cal_d D_is_count (FunD.binds1 (ps := p_is_count) D_is_count.fn 2 1 (by simp) (by rfl) fun T kV doc pm an cdv ct us its hl hi => match us, hl, its, hi with | [_, _], _, [_], _ => ⟨_, rfl, rfl⟩) .nil o_is_count
  have c_is_count_d : Cal l.prog w K mg base 2 "is_count" (g_is_count) [.int 0] := cal_d D_is_count (FunD.binds1 (ps := p_is_count) D_is_count.fn 1 0 (by simp) (by rfl) fun T kV doc pm an cdv ct us its hl hi => match us, hl, its, hi with | [_], _, [_], _ => ⟨_, rfl, rfl⟩) (.cons (fun _ => .int _) .nil) o_is_count
  have o_is_word : FnOk l.prog w K mg base CX0 1 _ fd_is_word p_is_word (spT K (g_is_word)) := (ok_is_word D_is_word.c8 hb )
  have c_is_word : Cal l.prog w K mg base 1 "is_word" (g_is_word) [] := cal_of D_is_word b_is_word o_is_word
  have o_is_tuple_of : FnOk l.prog w K mg base CX0 1 _ fd_is_tuple_of p_is_tuple_of (spT K (g_is_tuple_of)) := (ok_is_tuple_of D_is_tuple_of.c8 hb )
  have c_is_tuple_of : Cal l.prog w K mg base 1 "is_tuple_of" (g_is_tuple_of) [] := cal_of D_is_tuple_of b_is_tuple_of o_is_tuple_of
  have o_is_said : FnOk l.prog w K mg base CX0 2 _ fd_is_said p_is_said (spT K (g_is_said)) := (ok_is_said D_is_said.c8 hb c_is_tuple_of)
  have c_is_said : Cal l.prog w K mg base 2 "is_said" (g_is_said) [] := cal_of D_is_said b_is_said o_is_said
  have o_copied : ∀ k, FnOk l.prog w K mg base CX0 k _ fd_copied p_copied (spT K (g_copied k)) := fun k => by
    induction k with
    | zero => exact fnOk_none (fun _ => rfl)
    | succ k ih => exact (ok_copied D_copied.c8 hb (cal_of D_copied b_copied ih))
  have c_copied : Cal l.prog w K mg base 6 "copied" (g_copied 6) [] := cal_of D_copied b_copied (o_copied 6)
  have o_are_sizes : FnOk l.prog w K mg base CX0 3 _ fd_are_sizes p_are_sizes (spT K (g_are_sizes)) := (ok_are_sizes D_are_sizes.c8 hb c_is_count)
  have c_are_sizes : Cal l.prog w K mg base 3 "are_sizes" (g_are_sizes) [] := cal_of D_are_sizes b_are_sizes o_are_sizes
  have o_check_sizes : FnOk l.prog w K mg base CX0 4 _ fd_check_sizes p_check_sizes (spT K (g_check_sizes)) := (ok_check_sizes D_check_sizes.c8 hb c_are_sizes)
  have c_check_sizes : Cal l.prog w K mg base 4 "check_sizes" (g_check_sizes) [] := cal_of D_check_sizes b_check_sizes o_check_sizes
  have o_is_lot_there : FnOk l.prog w K mg base CX0 3 _ fd_is_lot_there p_is_lot_there (spT K (g_is_lot_there)) := (ok_is_lot_there D_is_lot_there.c8 hb c_is_count_d)
  have c_is_lot_there : Cal l.prog w K mg base 3 "is_lot_there" (g_is_lot_there) [] := cal_of D_is_lot_there b_is_lot_there o_is_lot_there
  have o_check_room : FnOk l.prog w K mg base CX0 3 _ fd_check_room p_check_room (spT K (g_check_room)) := (ok_check_room D_check_room.c8 hb c_is_count_d)
  have c_check_room : Cal l.prog w K mg base 3 "check_room" (g_check_room) [] := cal_of D_check_room b_check_room o_check_room
  have o_size_there : FnOk l.prog w K mg base CX0 1 _ fd_size_there p_size_there (spT K (g_size_there)) := (ok_size_there D_size_there.c8 hb )
  have c_size_there : Cal l.prog w K mg base 1 "size_there" (g_size_there) [] := cal_of D_size_there b_size_there o_size_there
  have o_is_act : FnOk l.prog w K mg base CX0 3 _ fd_is_act p_is_act (spT K (g_is_act)) := (ok_is_act D_is_act.c8 hb c_is_said c_is_count_d c_is_count c_is_word)
  have c_is_act : Cal l.prog w K mg base 3 "is_act" (g_is_act) [] := cal_of D_is_act b_is_act o_is_act
  have o_fits : FnOk l.prog w K mg base CX0 1 _ fd_fits p_fits (spT K (g_fits)) := (ok_fits D_fits.c8 hb )
  have c_fits : Cal l.prog w K mg base 1 "fits" (g_fits) [] := cal_of D_fits b_fits o_fits
  have o_names_in : FnOk l.prog w K mg base CX0 1 _ fd_names_in p_names_in (spT K (g_names_in)) := (ok_names_in D_names_in.c8 hb )
  have c_names_in : Cal l.prog w K mg base 1 "names_in" (g_names_in) [] := cal_of D_names_in b_names_in o_names_in
  have o_spare_of : FnOk l.prog w K mg base CX0 1 _ fd_spare_of p_spare_of (spT K (g_spare_of)) := (ok_spare_of D_spare_of.c8 hb )
  have c_spare_of : Cal l.prog w K mg base 1 "spare_of" (g_spare_of) [] := cal_of D_spare_of b_spare_of o_spare_of
  have o_with_things : FnOk l.prog w K mg base CX0 1 _ fd_with_things p_with_things (spT K (g_with_things)) := (ok_with_things D_with_things.c8 hb )
  have c_with_things : Cal l.prog w K mg base 1 "with_things" (g_with_things) [] := cal_of D_with_things b_with_things o_with_things
  have o_opened : FnOk l.prog w K mg base CX0 2 _ fd_opened p_opened (spT K (g_opened)) := (ok_opened D_opened.c8 hb c_names_in)
  have c_opened : Cal l.prog w K mg base 2 "opened" (g_opened) [] := cal_of D_opened b_opened o_opened
  have o_acted : FnOk l.prog w K mg base CX0 3 _ fd_acted p_acted (spT K (g_acted)) := (ok_acted D_acted.c8 hb c_opened c_with_things c_spare_of)
  have c_acted : Cal l.prog w K mg base 3 "acted" (g_acted) [] := cal_of D_acted b_acted o_acted
  have o_House_init : FnOk l.prog w K mg base CX0 4 _ fd_House_init p_House_init (spT K (g_House_init cH)) := (ok_House_init D_House_init.c8 hb hC n_at n_row c_check_room)
  have c_mk : Mak l.prog w K mg base 4 "House" cH (g_House_init cH) [] := mak_of h_cls mkc kpc D_House_init b_House_init o_House_init
  have o_House_state : FnOk l.prog w K mg base CX0 1 _ fd_House_state p_House_state (spT K (g_House_state cH)) := (ok_House_state D_House_state.c8 hb hC n_at n_row)
  have c_m_state : Met l.prog w K mg base 1 cH "state" (g_House_state cH) [] := met_of hC.cl D_House_state b_House_state o_House_state
  have o_House_do : FnOk l.prog w K mg base CX0 7 _ fd_House_do p_House_do (spT K (g_House_do cH)) := (ok_House_do D_House_do.c8 hb hC n_at n_row c_fits c_is_act c_acted c_copied c_m_state)
  have c_m_do : Met l.prog w K mg base 7 cH "do" (g_House_do cH) [] := met_of hC.cl D_House_do b_House_do o_House_do
  have o_House_room : FnOk l.prog w K mg base CX0 2 _ fd_House_room p_House_room (spT K (g_House_room cH)) := (ok_House_room D_House_room.c8 hb hC c_m_state)
  have c_m_room : Met l.prog w K mg base 2 cH "room" (g_House_room cH) [] := met_of hC.cl D_House_room b_House_room o_House_room
  have o_House_boxes : FnOk l.prog w K mg base CX0 2 _ fd_House_boxes p_House_boxes (spT K (g_House_boxes cH)) := (ok_House_boxes D_House_boxes.c8 hb hC c_names_in c_m_state)
  have c_m_boxes : Met l.prog w K mg base 2 cH "boxes" (g_House_boxes cH) [] := met_of hC.cl D_House_boxes b_House_boxes o_House_boxes
  have o_House_things : FnOk l.prog w K mg base CX0 2 _ fd_House_things p_House_things (spT K (g_House_things cH)) := (ok_House_things D_House_things.c8 hb hC c_m_state)
  have c_m_things : Met l.prog w K mg base 2 cH "things" (g_House_things cH) [] := met_of hC.cl D_House_things b_House_things o_House_things
  have o_House_spares : FnOk l.prog w K mg base CX0 2 _ fd_House_spares p_House_spares (spT K (g_House_spares cH)) := (ok_House_spares D_House_spares.c8 hb hC c_spare_of c_m_state)
  have c_m_spares : Met l.prog w K mg base 2 cH "spares" (g_House_spares cH) [] := met_of hC.cl D_House_spares b_House_spares o_House_spares
  have o_check_house : FnOk l.prog w K mg base CX0 1 _ fd_check_house p_check_house (spT K (g_check_house cH)) := (ok_check_house D_check_house.c8 hb hC h_cls)
  have c_check_house : Cal l.prog w K mg base 1 "check_house" (g_check_house cH) [] := cal_of D_check_house b_check_house o_check_house
  have o_check_size : FnOk l.prog w K mg base CX0 3 _ fd_check_size p_check_size (spT K (g_check_size cH)) := (ok_check_size D_check_size.c8 hb c_check_house c_is_count)
  have c_check_size : Cal l.prog w K mg base 3 "check_size" (g_check_size cH) [] := cal_of D_check_size b_check_size o_check_size
  have o_fits_there : FnOk l.prog w K mg base CX0 2 _ fd_fits_there p_fits_there (spT K (g_fits_there)) := (ok_fits_there D_fits_there.c8 hb c_spare_of)
  have c_fits_there : Cal l.prog w K mg base 2 "fits_there" (g_fits_there) [] := cal_of D_fits_there b_fits_there o_fits_there
  have o_which_fit : FnOk l.prog w K mg base CX0 4 _ fd_which_fit p_which_fit (spT K (g_which_fit cH)) := (ok_which_fit D_which_fit.c8 hb hC c_check_size c_fits_there c_m_state)
  have c_which_fit : Cal l.prog w K mg base 4 "which_fit" (g_which_fit cH) [] := cal_of D_which_fit b_which_fit o_which_fit
  have o_first_fit : FnOk l.prog w K mg base CX0 5 _ fd_first_fit p_first_fit (spT K (g_first_fit cH)) := (ok_first_fit D_first_fit.c8 hb c_which_fit)
  have c_first_fit : Cal l.prog w K mg base 5 "first_fit" (g_first_fit cH) [] := cal_of D_first_fit b_first_fit o_first_fit
  have o_best_fit : FnOk l.prog w K mg base CX0 4 _ fd_best_fit p_best_fit (spT K (g_best_fit cH)) := (ok_best_fit D_best_fit.c8 hb hC c_check_size c_fits_there c_m_state)
  have c_best_fit : Cal l.prog w K mg base 4 "best_fit" (g_best_fit cH) [] := cal_of D_best_fit b_best_fit o_best_fit
  have o_widest_fit : FnOk l.prog w K mg base CX0 4 _ fd_widest_fit p_widest_fit (spT K (g_widest_fit cH)) := (ok_widest_fit D_widest_fit.c8 hb hC c_check_size c_fits_there c_m_state)
  have c_widest_fit : Cal l.prog w K mg base 4 "widest_fit" (g_widest_fit cH) [] := cal_of D_widest_fit b_widest_fit o_widest_fit
  have o_is_packing_there : FnOk l.prog w K mg base CX0 4 _ fd_is_packing_there p_is_packing_there (spT K (g_is_packing_there)) := (ok_is_packing_there D_is_packing_there.c8 hb c_is_lot_there c_size_there)
  have c_is_packing_there : Cal l.prog w K mg base 4 "is_packing_there" (g_is_packing_there) [] := cal_of D_is_packing_there b_is_packing_there o_is_packing_there
  have o_check_things : FnOk l.prog w K mg base CX0 5 _ fd_check_things p_check_things (spT K (g_check_things)) := (ok_check_things D_check_things.c8 hb c_check_sizes c_check_room)
  have c_check_things : Cal l.prog w K mg base 5 "check_things" (g_check_things) [] := cal_of D_check_things b_check_things o_check_things
  have o_is_packing : FnOk l.prog w K mg base CX0 6 _ fd_is_packing p_is_packing (spT K (g_is_packing)) := (ok_is_packing D_is_packing.c8 hb c_check_things c_is_packing_there)
  have c_is_packing : Cal l.prog w K mg base 6 "is_packing" (g_is_packing) [] := cal_of D_is_packing b_is_packing o_is_packing
  have o_by_boxes : FnOk l.prog w K mg base CX0 2 _ fd_by_boxes p_by_boxes (spT K (g_by_boxes)) := (ok_by_boxes D_by_boxes.c8 hb c_size_there)
  have c_by_boxes : Cal l.prog w K mg base 2 "by_boxes" (g_by_boxes) [] := cal_of D_by_boxes b_by_boxes o_by_boxes
  have o_check_rule : FnOk l.prog w K mg base CX0 1 _ fd_check_rule p_check_rule (spT K (g_check_rule)) := (ok_check_rule D_check_rule.c8 hb z_RULES)
  have c_check_rule : Cal l.prog w K mg base 1 "check_rule" (g_check_rule) [] := cal_of D_check_rule b_check_rule o_check_rule
  have o_check_held : FnOk l.prog w K mg base CX0 5 _ fd_check_held p_check_held (spT K (g_check_held)) := (ok_check_held D_check_held.c8 hb c_check_sizes c_is_count_d)
  have c_check_held : Cal l.prog w K mg base 5 "check_held" (g_check_held) [] := cal_of D_check_held b_check_held o_check_held
  have o_box_there : FnOk l.prog w K mg base CX0 1 _ fd_box_there p_box_there (spT K (g_box_there)) := (ok_box_there D_box_there.c8 hb )
  have c_box_there : Cal l.prog w K mg base 1 "box_there" (g_box_there) [] := cal_of D_box_there b_box_there o_box_there
  have o_boxes_there : FnOk l.prog w K mg base CX0 2 _ fd_boxes_there p_boxes_there (spT K (g_boxes_there)) := (ok_boxes_there D_boxes_there.c8 hb c_box_there)
  have c_boxes_there : Cal l.prog w K mg base 2 "boxes_there" (g_boxes_there) [] := cal_of D_boxes_there b_boxes_there o_boxes_there
  have o_plain_boxes : FnOk l.prog w K mg base CX0 3 _ fd_plain_boxes p_plain_boxes (spT K (g_plain_boxes)) := (ok_plain_boxes D_plain_boxes.c8 hb c_boxes_there)
  have c_plain_boxes : Cal l.prog w K mg base 3 "plain_boxes" (g_plain_boxes) [] := cal_of D_plain_boxes b_plain_boxes o_plain_boxes
  have o_check_all : FnOk l.prog w K mg base CX0 6 _ fd_check_all p_check_all (spT K (g_check_all)) := (ok_check_all D_check_all.c8 hb c_check_rule c_check_held)
  have c_check_all : Cal l.prog w K mg base 6 "check_all" (g_check_all) [] := cal_of D_check_all b_check_all o_check_all
  have o_boxes_by : FnOk l.prog w K mg base CX0 7 _ fd_boxes_by p_boxes_by (spT K (g_boxes_by)) := (ok_boxes_by D_boxes_by.c8 hb c_check_all c_plain_boxes)
  have c_boxes_by : Cal l.prog w K mg base 7 "boxes_by" (g_boxes_by) [] := cal_of D_boxes_by b_boxes_by o_boxes_by
  have o_packed_by : FnOk l.prog w K mg base CX0 7 _ fd_packed_by p_packed_by (spT K (g_packed_by)) := (ok_packed_by D_packed_by.c8 hb c_check_all c_by_boxes c_plain_boxes)
  have c_packed_by : Cal l.prog w K mg base 7 "packed_by" (g_packed_by) [] := cal_of D_packed_by b_packed_by o_packed_by
  have o__law_purse : FnOk l.prog w K mg base CX0 1 _ fd__law_purse p__law_purse (spT K (g__law_purse)) := (ok__law_purse D__law_purse.c8 hb )
  have c__law_purse : Cal l.prog w K mg base 1 "_law_purse" (g__law_purse) [] := cal_of D__law_purse b__law_purse o__law_purse
  have o__law_mixed : FnOk l.prog w K mg base CX0 1 _ fd__law_mixed p__law_mixed (spT K (g__law_mixed)) := (ok__law_mixed D__law_mixed.c8 hb )
  have c__law_mixed : Cal l.prog w K mg base 1 "_law_mixed" (g__law_mixed) [] := cal_of D__law_mixed b__law_mixed o__law_mixed
  have o__law_draw : FnOk l.prog w K mg base CX0 2 _ fd__law_draw p__law_draw (spT K (g__law_draw)) := (ok__law_draw D__law_draw.c8 hb c__law_mixed)
  have c__law_draw : Cal l.prog w K mg base 2 "_law_draw" (g__law_draw) [] := cal_of D__law_draw b__law_draw o__law_draw
  have o__law_same : ∀ k, FnOk l.prog w K mg base CX0 k _ fd__law_same p__law_same (spT K (g__law_same k)) := fun k => by
    induction k with
    | zero => exact fnOk_none (fun _ => rfl)
    | succ k ih => exact (ok__law_same D__law_same.c8 hb (cal_of D__law_same b__law_same ih))
  have c__law_same : Cal l.prog w K mg base 6 "_law_same" (g__law_same 6) [] := cal_of D__law_same b__law_same (o__law_same 6)
  have c__law_purses : CalN l.prog w K mg base 2 "_law_purses" g__law_purses := ⟨_, _, _, (ok__law_purses D__law_purses.c8 hb c__law_purse), D__law_purses.mgf, D__law_purses.fn.kp, b__law_purses⟩
  have o__law_spot : FnOk l.prog w K mg base CX0 6 _ fd__law_spot p__law_spot (spT K (g__law_spot cH)) := (ok__law_spot D__law_spot.c8 hb hC c_first_fit c_best_fit c_widest_fit c_m_spares)
  have c__law_spot : Cal l.prog w K mg base 6 "_law_spot" (g__law_spot cH) [] := cal_of D__law_spot b__law_spot o__law_spot
  exact (ok_law D_law.c8 hb hC c__law_purses c__law_draw c__law_spot c_is_packing c_packed_by c_boxes_by c__law_same c_m_do c_m_boxes c_mk).imp law_promise
theorem walk {l : PySem.W.OpenLaw} {q : Program} {loose : List Str} {XP : (Str → Option Value) → Heap → Prop} {YP : World → Heap → Prop} {d : DefRec} {K : Params → PySem.W.Frag} (hn : l.most = some 63) (hdf : d.params.defaults = [])
    (hY : ∀ (w : World) (h : Heap), YP w h → (K w.params).In h)
    (F : ∀ (w : World) (mg : Str → Option Value) (fa : Addr) (h : Heap), (K w.params).In h → h.Ns mainGlobals mg → mg d.name = some (.ref fa) →
      ∃ fd : FuncData, (∀ (s : Shared) (u : Value), BindsTo s fd ⟨[u], []⟩ [("script", u)]) ∧ ∀ base : Heap, (K w.params).In base → base.Ns mainGlobals mg → FnOk l.prog w (K w.params) mg base CX0 8 fa fd ["script"] (spLaw (K w.params))) :
    PySem.W.WalkO q loose XP YP l.row.toRowW d [] (fun f vs => PySem.call f vs) :=
  L2.walk_of (n := 63) (k := 8) (x := "script") (CX := fun _ => CX0) (sp := fun w => spLaw (K w.params)) hn (by decide) hdf ⟨rfl, by decide, by decide⟩ hY F (fun _ _ a ns hl _ hS => ⟨a, ns, rfl, hS, hl, fun _ => rfl⟩) fun _ _ _ _ _ z => z
end K83
open PySem PySem.W PyProof.Rows L2 L2.Tl
set_option maxRecDepth 100000 in
set_option maxHeartbeats 0 in
theorem PySem.Challenge.cw_filledup_k83_whole_rules_in_a_store_holds : PySem.Challenge.rw_filledup_k83_whole_rules_in_a_store.Holds := by
  w_on; o_law; k_head; (case hw => w_witness2)
  k_fill
  refine K83.walk (l := PySem.Challenge.rw_filledup_k83_whole_rules_in_a_store) rfl rfl (fun w h Y => PySem.W.kIn_of Y) ?F
  case F =>
    intro w mg fa h KX G hmg
    refine' K83.law_mk hmg ?hb ?d_is_whole ?d_is_count ?d_is_word ?d_is_tuple_of ?d_is_said ?d_copied ?d_are_sizes ?d_check_sizes ?d_is_lot_there ?d_check_room ?d_size_there ?d_is_act ?d_fits ?d_names_in ?d_spare_of ?d_with_things ?d_opened ?d_acted ?md_House_init ?md_House_state ?md_House_do ?md_House_room ?md_House_boxes ?md_House_things ?md_House_spares ?d_check_house ?d_check_size ?d_fits_there ?d_which_fit ?d_first_fit ?d_best_fit ?d_widest_fit ?d_is_packing_there ?d_check_things ?d_is_packing ?d_by_boxes ?d_check_rule ?d_check_held ?d_box_there ?d_boxes_there ?d_plain_boxes ?d_check_all ?d_boxes_by ?d_packed_by ?d__law_purse ?d__law_mixed ?d__law_draw ?d__law_same ?d__law_purses ?d__law_spot ?d_law ?hC ?h_cls ?mkc ?kpc ?n_at ?n_row ?z_RULES
    case hb => exact (noMg_cons (PySem.W.mg_none_of KX G (by k_is)) <| noMg_cons (PySem.W.mg_none_of KX G (by k_is)) <| noMg_cons (PySem.W.mg_none_of KX G (by k_is)) <| noMg_cons (PySem.W.mg_none_of KX G (by k_is)) <| noMg_cons (PySem.W.mg_none_of KX G (by k_is)) <| noMg_cons (PySem.W.mg_none_of KX G (by k_is)) <| noMg_cons (PySem.W.mg_none_of KX G (by k_is)) <| noMg_cons (PySem.W.mg_none_of KX G (by k_is)) <| noMg_cons (PySem.W.mg_none_of KX G (by k_is)) <| noMg_cons (PySem.W.mg_none_of KX G (by k_is)) <| noMg_cons (PySem.W.mg_none_of KX G (by k_is)) <| noMg_cons (PySem.W.mg_none_of KX G (by k_is)) <| noMg_cons (PySem.W.mg_none_of KX G (by k_is)) <| noMg_cons (PySem.W.mg_none_of KX G (by k_is)) <| noMg_cons (PySem.W.mg_none_of KX G (by k_is)) <| noMg_cons (PySem.W.mg_none_of KX G (by k_is)) <| noMg_nil)
    case h_cls => exact PySem.W.mg_of KX G (by k_is)
    case hC => exact ⟨⟨by k_is, by k_is, by k_is, by k_is⟩, by k_is, by k_is, by k_is, by k_is⟩
    case mkc => k_is
    case kpc => k_is
    case d_is_whole =>
      refine' defD_mk KX G ?a ?l ?c ?k
      (case a => k_is); (case l => k_is); (case c => k_is); (case k => k_is)
    case d_is_count =>
      refine' defD_mk1 KX G ?a ?l ?c ?k ?hT ?oT ?rT ?hd
      (case a => k_is); (case l => k_is); (case c => k_is); (case k => k_is); (case hT => k_is)
      (case oT => exact rfl); (case rT => exact .cons ⟨_, rfl⟩ .nil); (case hd => exact fun z => nomatch z)
    case d_is_word =>
      refine' defD_mk KX G ?a ?l ?c ?k
      (case a => k_is); (case l => k_is); (case c => k_is); (case k => k_is)
    case d_is_tuple_of =>
      refine' defD_mk KX G ?a ?l ?c ?k
      (case a => k_is); (case l => k_is); (case c => k_is); (case k => k_is)
    case d_is_said =>
      refine' defD_mk KX G ?a ?l ?c ?k
      (case a => k_is); (case l => k_is); (case c => k_is); (case k => k_is)
    case d_copied =>
      refine' defD_mk KX G ?a ?l ?c ?k
      (case a => k_is); (case l => k_is); (case c => k_is); (case k => k_is)
    case d_are_sizes =>
      refine' defD_mk KX G ?a ?l ?c ?k
      (case a => k_is); (case l => k_is); (case c => k_is); (case k => k_is)
    case d_check_sizes =>
      refine' defD_mk KX G ?a ?l ?c ?k
      (case a => k_is); (case l => k_is); (case c => k_is); (case k => k_is)
    case d_is_lot_there =>
      refine' defD_mk KX G ?a ?l ?c ?k
      (case a => k_is); (case l => k_is); (case c => k_is); (case k => k_is)
    case d_check_room =>
      refine' defD_mk KX G ?a ?l ?c ?k
      (case a => k_is); (case l => k_is); (case c => k_is); (case k => k_is)
    case d_size_there =>
      refine' defD_mk KX G ?a ?l ?c ?k
      (case a => k_is); (case l => k_is); (case c => k_is); (case k => k_is)
    case d_is_act =>
      refine' defD_mk KX G ?a ?l ?c ?k
      (case a => k_is); (case l => k_is); (case c => k_is); (case k => k_is)
    case d_fits =>
      refine' defD_mk KX G ?a ?l ?c ?k
      (case a => k_is); (case l => k_is); (case c => k_is); (case k => k_is)
    case d_names_in =>
      refine' defD_mk KX G ?a ?l ?c ?k
      (case a => k_is); (case l => k_is); (case c => k_is); (case k => k_is)
    case d_spare_of =>
      refine' defD_mk KX G ?a ?l ?c ?k
      (case a => k_is); (case l => k_is); (case c => k_is); (case k => k_is)
    case d_with_things =>
      refine' defD_mk KX G ?a ?l ?c ?k
      (case a => k_is); (case l => k_is); (case c => k_is); (case k => k_is)
    case d_opened =>
      refine' defD_mk KX G ?a ?l ?c ?k
      (case a => k_is); (case l => k_is); (case c => k_is); (case k => k_is)
    case d_acted =>
      refine' defD_mk KX G ?a ?l ?c ?k
      (case a => k_is); (case l => k_is); (case c => k_is); (case k => k_is)
    case md_House_init =>
      refine' metD_mk ?a ?i ?l ?c ?k
      (case a => k_is); (case i => k_is); (case l => k_is); (case c => k_is); (case k => k_is)
    case md_House_state =>
      refine' metD_mk ?a ?i ?l ?c ?k
      (case a => k_is); (case i => k_is); (case l => k_is); (case c => k_is); (case k => k_is)
    case md_House_do =>
      refine' metD_mk ?a ?i ?l ?c ?k
      (case a => k_is); (case i => k_is); (case l => k_is); (case c => k_is); (case k => k_is)
    case md_House_room =>
      refine' metD_mk ?a ?i ?l ?c ?k
      (case a => k_is); (case i => k_is); (case l => k_is); (case c => k_is); (case k => k_is)
    case md_House_boxes =>
      refine' metD_mk ?a ?i ?l ?c ?k
      (case a => k_is); (case i => k_is); (case l => k_is); (case c => k_is); (case k => k_is)
    case md_House_things =>
      refine' metD_mk ?a ?i ?l ?c ?k
      (case a => k_is); (case i => k_is); (case l => k_is); (case c => k_is); (case k => k_is)
    case md_House_spares =>
      refine' metD_mk ?a ?i ?l ?c ?k
      (case a => k_is); (case i => k_is); (case l => k_is); (case c => k_is); (case k => k_is)
    case d_check_house =>
      refine' defD_mk KX G ?a ?l ?c ?k
      (case a => k_is); (case l => k_is); (case c => k_is); (case k => k_is)
    case d_check_size =>
      refine' defD_mk KX G ?a ?l ?c ?k
      (case a => k_is); (case l => k_is); (case c => k_is); (case k => k_is)
    case d_fits_there =>
      refine' defD_mk KX G ?a ?l ?c ?k
      (case a => k_is); (case l => k_is); (case c => k_is); (case k => k_is)
    case d_which_fit =>
      refine' defD_mk KX G ?a ?l ?c ?k
      (case a => k_is); (case l => k_is); (case c => k_is); (case k => k_is)
    case d_first_fit =>
      refine' defD_mk KX G ?a ?l ?c ?k
      (case a => k_is); (case l => k_is); (case c => k_is); (case k => k_is)
    case d_best_fit =>
      refine' defD_mk KX G ?a ?l ?c ?k
      (case a => k_is); (case l => k_is); (case c => k_is); (case k => k_is)
    case d_widest_fit =>
      refine' defD_mk KX G ?a ?l ?c ?k
      (case a => k_is); (case l => k_is); (case c => k_is); (case k => k_is)
    case d_is_packing_there =>
      refine' defD_mk KX G ?a ?l ?c ?k
      (case a => k_is); (case l => k_is); (case c => k_is); (case k => k_is)
    case d_check_things =>
      refine' defD_mk KX G ?a ?l ?c ?k
      (case a => k_is); (case l => k_is); (case c => k_is); (case k => k_is)
    case d_is_packing =>
      refine' defD_mk KX G ?a ?l ?c ?k
      (case a => k_is); (case l => k_is); (case c => k_is); (case k => k_is)
    case d_by_boxes =>
      refine' defD_mk KX G ?a ?l ?c ?k
      (case a => k_is); (case l => k_is); (case c => k_is); (case k => k_is)
    case d_check_rule =>
      refine' defD_mk KX G ?a ?l ?c ?k
      (case a => k_is); (case l => k_is); (case c => k_is); (case k => k_is)
    case d_check_held =>
      refine' defD_mk KX G ?a ?l ?c ?k
      (case a => k_is); (case l => k_is); (case c => k_is); (case k => k_is)
    case d_box_there =>
      refine' defD_mk KX G ?a ?l ?c ?k
      (case a => k_is); (case l => k_is); (case c => k_is); (case k => k_is)
    case d_boxes_there =>
      refine' defD_mk KX G ?a ?l ?c ?k
      (case a => k_is); (case l => k_is); (case c => k_is); (case k => k_is)
    case d_plain_boxes =>
      refine' defD_mk KX G ?a ?l ?c ?k
      (case a => k_is); (case l => k_is); (case c => k_is); (case k => k_is)
    case d_check_all =>
      refine' defD_mk KX G ?a ?l ?c ?k
      (case a => k_is); (case l => k_is); (case c => k_is); (case k => k_is)
    case d_boxes_by =>
      refine' defD_mk KX G ?a ?l ?c ?k
      (case a => k_is); (case l => k_is); (case c => k_is); (case k => k_is)
    case d_packed_by =>
      refine' defD_mk KX G ?a ?l ?c ?k
      (case a => k_is); (case l => k_is); (case c => k_is); (case k => k_is)
    case d__law_purse =>
      refine' defD_mk KX G ?a ?l ?c ?k
      (case a => k_is); (case l => k_is); (case c => k_is); (case k => k_is)
    case d__law_mixed =>
      refine' defD_mk KX G ?a ?l ?c ?k
      (case a => k_is); (case l => k_is); (case c => k_is); (case k => k_is)
    case d__law_draw =>
      refine' defD_mk KX G ?a ?l ?c ?k
      (case a => k_is); (case l => k_is); (case c => k_is); (case k => k_is)
    case d__law_same =>
      refine' defD_mk KX G ?a ?l ?c ?k
      (case a => k_is); (case l => k_is); (case c => k_is); (case k => k_is)
    case d__law_purses =>
      refine' defD_mk KX G ?a ?l ?c ?k
      (case a => k_is); (case l => k_is); (case c => k_is); (case k => k_is)
    case d__law_spot =>
      refine' defD_mk KX G ?a ?l ?c ?k
      (case a => k_is); (case l => k_is); (case c => k_is); (case k => k_is)
    case d_law =>
      refine' defD_mk KX G ?a ?l ?c ?k
      (case a => k_is); (case l => k_is); (case c => k_is); (case k => k_is)
    case n_at => k_is
    case n_row => k_is
    case z_RULES =>
      refine' strL_mk KX G ?e ?l ?hz ?v
      (case e => k_is); (case l => k_is); (case hz => decide); (case v => exact .cons ⟨_, rfl⟩ (.cons ⟨_, rfl⟩ (.cons ⟨_, rfl⟩ (.cons ⟨_, rfl⟩ (.nil)))))
