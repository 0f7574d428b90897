import PyProof.Rows.All
import HandS.ForMost
import HandS.ForExc
import HandS.ExcCtx
import HandS.HotCalls
import HandS.IsInst
import HandS.ExcIs
import HandS.Deep
import HandS.Zip
import HandS.Lambda
import HandS.TupSets
import HandS.SortInts
import HandS.TupLe
import HandS.TupAny
import HandS.Flow
import HandS.Style
import HandS.Conv
import HandS.Sort
import HandS.Wide
import KE.GoesMore
import KE.SortData
import HandS.SetFor
import HandS.Strs
import HandS.DictComp
import HandS.More
import HandS.Defaults
import HandS.Hot
import HandS.HeadHook4
import HandS.HeadWalk
import HandS.Head0
import HandS.Head1
import HandS.Head2
import HandS.HeadEnd
import PySem.Challenge.RW_asbarred_k18_whole_ladders
set_option Elab.async false
set_option linter.all false
set_option maxRecDepth 100000
set_option maxHeartbeats 0
namespace Mi
open PySem PySem.Spec PyProof.Rows L2

/-! values, environments, results -/
abbrev D := PyData
/-- a slot of a frame: unbound, a value, or a list of the frame's own that it alone holds -/
inductive Sl where
  | no
  | d (x : D)
  | box (xs : List D)
/-- what stands in the cup -/
abbrev Cp := Option (Int × Int)
inductive Re (α : Type) where
  | ok (a : α) (c : Cp)
  | err (e : Str) (c : Cp)
  | stuck
abbrev M (α : Type) := Cp → Re α
def rt {α : Type} (a : α) : M α := fun c => .ok a c
def bd {α β : Type} (m : M α) (f : α → M β) : M β := fun c => match m c with
  | .ok a c' => f a c'
  | .err e c' => .err e c'
  | .stuck => .stuck
def no {α : Type} : M α := fun _ => .stuck
def ofO {α : Type} : Option α → M α
  | some a => rt a
  | none => no
def gd {α : Type} (b : Bool) (m : M α) : M α := if b then m else no
abbrev En := List Sl
abbrev Ev := En → M D
/-- a def as a value; the cup -/
abbrev dFn (x : Str) : D := .dict [(.str x, .none)]
abbrev dCup : D := .dict []
/-- what stands at an address, whatever it is -/
abbrev dPtr (a : Nat) : D := .dict [(.int (a : Nat), .none)]
def strictS : Sl → Sl
  | .box _ => .no
  | s => s
def strict (ρ : En) : En := ρ.map strictS

/-! how values lie in the heap -/
structure G where
  mg : Str → Option Value
  ca : Option Addr
  TT : List (Addr × Str)
mutual
inductive Rp (g : G) (B : Addr → Prop) (H : Hp) : V → D → Prop
  | non : Rp g B H .non .none
  | bl (b : Bool) : Rp g B H (.bl b) (.bool b)
  | int (i : Int) : Rp g B H (.int i) (.int i)
  | str (x : Str) : Rp g B H (.str x) (.str x)
  | lst {a : Addr} {xs : List V} {ds : List D} : ¬ B a → H a = some (.lst xs) → RpA g B H xs ds → Rp g B H (.ref a) (.list ds)
  | tup {a : Addr} {xs : List V} {ds : List D} : ¬ B a → H a = some (.tup xs) → RpA g B H xs ds → Rp g B H (.ref a) (.tuple ds)
  | fn {a : Addr} {x : Str} : g.mg x = some (.ref a) → Rp g B H (.ref a) (.dict [(.str x, .none)])
  | cup {a : Addr} : g.ca = some a → Rp g B H (.ref a) (.dict [])
  | ptr {a : Addr} : Rp g B H (.ref a) (.dict [(.int (a : Nat), .none)])
inductive RpA (g : G) (B : Addr → Prop) (H : Hp) : List V → List D → Prop
  | nil : RpA g B H [] []
  | cons {v : V} {vs : List V} {d : D} {ds : List D} : Rp g B H v d → RpA g B H vs ds → RpA g B H (v :: vs) (d :: ds)
end
section
variable {g : G} {B B' : Addr → Prop} {H H' : Hp}
mutual
theorem Rp.re (h : ∀ a o, H a = some o → ¬ B a → (∀ ps, o ≠ .tbl ps) → H' a = some o ∧ ¬ B' a) : ∀ {d : D} {v : V}, Rp g B H v d → Rp g B' H' v d
  | .none, _, r => by cases r; exact .non
  | .bool _, _, r => by cases r; exact .bl _
  | .int _, _, r => by cases r; exact .int _
  | .str _, _, r => by cases r; exact .str _
  | .list ds, _, r => by
    cases r with
    | lst nb e ra => exact .lst (h _ _ e nb (fun ps z => by cases z)).2 (h _ _ e nb (fun ps z => by cases z)).1 (RpA.re h ra)
  | .tuple ds, _, r => by
    cases r with
    | tup nb e ra => exact .tup (h _ _ e nb (fun ps z => by cases z)).2 (h _ _ e nb (fun ps z => by cases z)).1 (RpA.re h ra)
  | .dict kvs, _, r => by
    cases r with
    | fn e => exact .fn e
    | cup e => exact .cup e
    | ptr => exact .ptr
theorem RpA.re (h : ∀ a o, H a = some o → ¬ B a → (∀ ps, o ≠ .tbl ps) → H' a = some o ∧ ¬ B' a) : ∀ {ds : List D} {vs : List V}, RpA g B H vs ds → RpA g B' H' vs ds
  | [], _, r => by cases r; exact .nil
  | d :: ds, _, r => by
    cases r with
    | cons r1 r2 => exact .cons (Rp.re h r1) (RpA.re h r2)
end
theorem Rp.weak {v : V} {d : D} (r : Rp g B H v d) (h : ∀ a, B' a → B a) : Rp g B' H v d := r.re fun a o e nb _ => ⟨e, fun z => nb (h a z)⟩
theorem RpA.weak {vs : List V} {ds : List D} (r : RpA g B H vs ds) (h : ∀ a, B' a → B a) : RpA g B' H vs ds := r.re fun a o e nb _ => ⟨e, fun z => nb (h a z)⟩
theorem RpA.length : ∀ {ds : List D} {vs : List V}, RpA g B H vs ds → vs.length = ds.length
  | [], _, r => by cases r; rfl
  | d :: ds, _, r => by
    cases r with
    | cons r1 r2 => exact congrArg Nat.succ (RpA.length r2)
theorem RpA.get : ∀ {ds : List D} {vs : List V} {i : Nat} {d : D}, RpA g B H vs ds → ds[i]? = some d → ∃ v, vs[i]? = some v ∧ Rp g B H v d
  | [], _, i, d, r, e => by simp at e
  | d0 :: ds, _, 0, d, r, e => by
    cases r with
    | cons r1 r2 => simp at e; subst e; exact ⟨_, rfl, r1⟩
  | d0 :: ds, _, i + 1, d, r, e => by
    cases r with
    | cons r1 r2 =>
      obtain ⟨v, h1, h2⟩ := RpA.get r2 (i := i) (d := d) (by simpa using e)
      exact ⟨v, by simpa using h1, h2⟩
theorem RpA.gets : ∀ {ds : List D} {vs : List V} {i : Nat} {v : V}, RpA g B H vs ds → vs[i]? = some v → ∃ d, ds[i]? = some d ∧ Rp g B H v d
  | [], _, i, d, r, e => by cases r; simp at e
  | d0 :: ds, _, 0, d, r, e => by
    cases r with
    | cons r1 r2 => simp at e; subst e; exact ⟨_, rfl, r1⟩
  | d0 :: ds, _, i + 1, d, r, e => by
    cases r with
    | cons r1 r2 =>
      obtain ⟨v, h1, h2⟩ := RpA.gets r2 (i := i) (v := d) (by simpa using e)
      exact ⟨v, by simpa using h1, h2⟩
theorem RpA.append : ∀ {ds es : List D} {vs ws : List V}, RpA g B H vs ds → RpA g B H ws es → RpA g B H (vs ++ ws) (ds ++ es)
  | [], _, _, _, r, q => by cases r; exact q
  | d :: ds, _, _, _, r, q => by
    cases r with
    | cons r1 r2 => exact .cons r1 (RpA.append r2 q)
theorem RpA.take : ∀ {ds : List D} {vs : List V} (n : Nat), RpA g B H vs ds → RpA g B H (vs.take n) (ds.take n)
  | _, _, 0, _ => .nil
  | [], _, n + 1, r => by cases r; exact .nil
  | d :: ds, _, n + 1, r => by
    cases r with
    | cons r1 r2 => exact .cons r1 (RpA.take n r2)
theorem RpA.drop : ∀ {ds : List D} {vs : List V} (n : Nat), RpA g B H vs ds → RpA g B H (vs.drop n) (ds.drop n)
  | _, _, 0, r => r
  | [], _, n + 1, r => by cases r; exact .nil
  | d :: ds, _, n + 1, r => by
    cases r with
    | cons r1 r2 => exact RpA.drop n r2
theorem RpA.reverse : ∀ {ds : List D} {vs : List V}, RpA g B H vs ds → RpA g B H vs.reverse ds.reverse
  | [], _, r => by cases r; exact .nil
  | d :: ds, _, r => by
    cases r with
    | cons r1 r2 =>
      rw [List.reverse_cons, List.reverse_cons]
      exact (RpA.reverse r2).append (.cons r1 .nil)
theorem RpA.set {v : V} {d : D} (q : Rp g B H v d) : ∀ {ds : List D} {vs : List V} (n : Nat), RpA g B H vs ds → RpA g B H (vs.set n v) (ds.set n d)
  | [], _, _, r => by cases r; exact .nil
  | d :: ds, _, 0, r => by
    cases r with
    | cons r1 r2 => exact .cons q r2
  | d :: ds, _, n + 1, r => by
    cases r with
    | cons r1 r2 => exact .cons r1 (RpA.set q n r2)
/-! plain data as the kit reads it -/
mutual
theorem Rp.dp (K : PySem.W.Frag) : ∀ {d : D} {v : V}, Rp g B H v d → d.canLay0 = true → Dp K H v d
  | .none, _, r, _ => by cases r; exact .non
  | .bool _, _, r, _ => by cases r; exact .bl _
  | .int _, _, r, _ => by cases r; exact .int _
  | .str _, _, r, _ => by cases r; exact .str _
  | .list ds, _, r, c => by
    cases r with
    | lst nb e ra => exact .lst (SqL.of e) (RpA.dp K ra (by simpa [PyData.canLay0] using c))
  | .tuple ds, _, r, c => by
    cases r with
    | tup nb e ra => exact .tup (SqT.of e) (RpA.dp K ra (by simpa [PyData.canLay0] using c))
  | .dict kvs, _, r, c => by simp [PyData.canLay0] at c
theorem RpA.dp (K : PySem.W.Frag) : ∀ {ds : List D} {vs : List V}, RpA g B H vs ds → PyData.canLayAll0 ds = true → DpAll K H vs ds
  | [], _, r, _ => by cases r; exact .nil
  | d :: ds, _, r, c => by
    cases r with
    | cons r1 r2 =>
      have c' : d.canLay0 = true ∧ PyData.canLayAll0 ds = true := by simpa [PyData.canLayAll0] using c
      exact .cons (Rp.dp K r1 c'.1) (RpA.dp K r2 c'.2)
end
theorem Rp.dpS (K : PySem.W.Frag) {d : D} {v : V} (r : Rp g B H v d) (c : SeqAt.shaped d = true) : Dp K H v d := r.dp K (SeqAt.canLay_of_shaped c)
end

/-! what stays -/
def Per (C : Addr → Prop) (H H' : Hp) : Prop := ∀ a o, H a = some o → ¬ C a → (∀ ps, o ≠ .tbl ps) → H' a = some o
theorem Per.refl {C : Addr → Prop} {H : Hp} : Per C H H := fun _ _ e _ _ => e
theorem Per.trans {C : Addr → Prop} {H H1 H2 : Hp} (a : Per C H H1) (b : Per C H1 H2) : Per C H H2 := fun x o e n t => b x o (a x o e n t) n t
def G.cs (g : G) : Addr → Prop := fun a => g.ca = some a
def CupOK (g : G) (c : Cp) (H : Hp) : Prop := match g.ca, c with
  | none, none => True
  | some a, some (i, j) => H a = some (.lst [.int i, .int j])
  | _, _ => False
structure After (g : G) (H H' : Hp) (c : Cp) : Prop where
  per : Per g.cs H H'
  cup : CupOK g c H'
  tabs : LamX.Tabs g.TT H'
  dm : ∀ a, H' a = none → H a = none
theorem After.trans {g : G} {H H1 H2 : Hp} {c c' : Cp} (a : After g H H1 c) (b : After g H1 H2 c') : After g H H2 c' := ⟨a.per.trans b.per, b.cup, b.tabs, fun x e => a.dm x (b.dm x e)⟩
def SlOK (g : G) (B : Addr → Prop) (H : Hp) (o : Option (Option V)) : Sl → Prop
  | .no => True
  | .d x => ∃ v, o = some (some v) ∧ Rp g B H v x
  | .box xs => ∃ v, o = some (some v) ∧ Rp g B H v (.list xs)
/-- what an expression meets -/
structure StOK (g : G) (B : Addr → Prop) (ρ : En) (c : Cp) (σ : L2.St) (H : Hp) : Prop where
  len : ρ.length = σ.length
  env : ∀ (i : Nat) (s : Sl), ρ[i]? = some s → SlOK g B H σ[i]? s
  cup : CupOK g c H
  tabs : LamX.Tabs g.TT H
  dom : ∀ a, B a → ∃ xs, H a = some (.lst xs)
  cb : ∀ a, g.ca = some a → B a
theorem cup_list {g : G} {c : Cp} {H : Hp} {a : Addr} (k : CupOK g c H) (e : g.ca = some a) : ∃ xs, H a = some (.lst xs) := by
  unfold CupOK at k
  rw [e] at k
  cases c with
  | none => exact k.elim
  | some p => exact ⟨_, k⟩
section
variable {g : G} {B : Addr → Prop} {ρ : En} {c c' : Cp} {σ : L2.St} {H H' : Hp}
theorem Rp.after {v : V} {d : D} (r : Rp g B H v d) (a : After g H H' c) (cb : ∀ a, g.ca = some a → B a) : Rp g B H' v d :=
  r.re fun x o e nb nt => ⟨a.per x o e (fun z => nb (cb x z)) nt, nb⟩
theorem RpA.after {vs : List V} {ds : List D} (r : RpA g B H vs ds) (a : After g H H' c) (cb : ∀ a, g.ca = some a → B a) : RpA g B H' vs ds :=
  r.re fun x o e nb nt => ⟨a.per x o e (fun z => nb (cb x z)) nt, nb⟩
theorem dom_after {a : After g H H' c'} (dom : ∀ a, B a → ∃ xs, H a = some (.lst xs)) : ∀ a, B a → ∃ xs, H' a = some (.lst xs) := fun x hx => by
  obtain ⟨xs, e⟩ := dom x hx
  by_cases hc : g.ca = some x
  · exact cup_list a.cup hc
  · exact ⟨xs, a.per x _ e hc fun ps z => by cases z⟩
theorem StOK.after (s : StOK g B ρ c σ H) (a : After g H H' c') : StOK g B ρ c' σ H' where
  len := s.len
  env := fun i sl e => by
    have h := s.env i sl e
    cases sl with
    | no => trivial
    | d x => obtain ⟨v, h1, h2⟩ := h; exact ⟨v, h1, h2.after a s.cb⟩
    | box xs => obtain ⟨v, h1, h2⟩ := h; exact ⟨v, h1, h2.after a s.cb⟩
  cup := a.cup
  tabs := a.tabs
  dom := dom_after (a := a) s.dom
  cb := s.cb
theorem StOK.refl (s : StOK g B ρ c σ H) : After g H H c := ⟨Per.refl, s.cup, s.tabs, fun _ e => e⟩
/-- a new object -/
theorem StOK.new (s : StOK g B ρ c σ H) {p : Addr} {o : HO} (hp : H p = none) : After g H (upd H p o) c where
  per := fun a u e _ _ => by rw [upd_ne (ne_of_none e hp)]; exact e
  cup := by
    have h := s.cup
    unfold CupOK at h ⊢
    cases hc : g.ca with
    | none =>
      rw [hc] at h
      cases c with
      | none => trivial
      | some q => exact h.elim
    | some a =>
      rw [hc] at h
      cases c with
      | none => exact h.elim
      | some q =>
        obtain ⟨i, j⟩ := q
        show upd H p o a = _
        rw [upd_ne (ne_of_none h hp)]; exact h
  tabs := s.tabs.ext fun b u e => by rw [upd_ne (ne_of_none e hp)]; exact e
  dm := fun a e => by
    by_cases h : a = p
    · rw [h]; exact hp
    · rw [upd_ne h] at e; exact e
theorem StOK.nb (s : StOK g B ρ c σ H) {p : Addr} (hp : H p = none) : ¬ B p := fun z => by
  obtain ⟨xs, e⟩ := s.dom p z
  rw [hp] at e; cases e
end

/-! the reading of a function of the environment -/
section
variable (g : G) (W : WX) (σ : L2.St) (H : Hp)
def Post {α β : Type} (Rel : Hp → β → α → Prop) (r : Re α) (Q : β → Hp → Prop) : Prop := match r with
  | .ok a c => ∀ b H', After g H H' c → Rel H' b a → Q b H'
  | .err e c => ∀ C H', After g H H' c → g.mg e = some (.ref C) → W (.ref C) none σ H'
  | .stuck => False
end
section
variable {g : G} {W : WX} {σ : L2.St} {H : Hp} {α β γ δ : Type} {R1 : Hp → β → α → Prop} {R2 : Hp → δ → γ → Prop}
theorem Post.mono {r : Re α} {Q Q' : β → Hp → Prop} (h : Post g W σ H R1 r Q) (hq : ∀ b H', Q b H' → Q' b H') : Post g W σ H R1 r Q' := by
  cases r with
  | ok a c => exact fun b H' x y => hq b H' (h b H' x y)
  | err e c => exact h
  | stuck => exact h
theorem Post.later {r : Re α} {Q : β → Hp → Prop} {H' : Hp} {c : Cp} (a : After g H H' c) (h : Post g W σ H R1 r Q) : Post g W σ H' R1 r Q := by
  cases r with
  | ok _ c => exact fun b H2 x y => h b H2 (a.trans x) y
  | err e c => exact fun C H2 x y => h C H2 (a.trans x) y
  | stuck => exact h
theorem Post.bd {m : M α} {f : α → M γ} {c : Cp} {Q : δ → Hp → Prop} (h : Post g W σ H R2 (bd m f c) Q) :
    Post g W σ H R1 (m c) fun b H1 => ∃ a c1, R1 H1 b a ∧ After g H H1 c1 ∧ Post g W σ H1 R2 (f a c1) Q := by
  unfold Mi.bd at h
  cases e : m c with
  | ok a c1 =>
    rw [e] at h
    exact fun b H1 x y => ⟨a, c1, y, x, Post.later x h⟩
  | err e' c1 => rw [e] at h; exact h
  | stuck => rw [e] at h; exact h
end
abbrev RD (g : G) (B : Addr → Prop) : Hp → V → D → Prop := fun H v d => Rp g B H v d
abbrev RDs (g : G) (B : Addr → Prop) : Hp → List V → List D → Prop := fun H v d => RpA g B H v d
abbrev RB : Hp → Bool → Bool → Prop := fun _ b c => b = c
def tF (g : G) (B : Addr → Prop) (W : WX) (f : Ev) : TE := fun σ H Q => ∃ ρ c, StOK g B ρ c σ H ∧ Post g W σ H (RD g B) (f ρ c) Q
def tT (g : G) (B : Addr → Prop) (W : WX) (f : En → M Bool) : TT := fun σ H Q => ∃ ρ c, StOK g B ρ c σ H ∧ Post g W σ H RB (f ρ c) Q
def tA (g : G) (B : Addr → Prop) (W : WX) (f : En → M (List D)) : TA := fun σ H Q => ∃ ρ c, StOK g B ρ c σ H ∧ Post g W σ H (RDs g B) (f ρ c) Q
end Mi

namespace Mi
open PySem PySem.Spec PyProof.Rows L2
/-! what data operators give -/
def addD : D → D → Option D
  | .int i, .int j => some (.int (i + j))
  | .str x, .str y => if x.length + y.length ≤ sizeLine then some (.str (x ++ y)) else none
  | .tuple xs, .tuple ys => if xs.length + ys.length ≤ sizeLine then some (.tuple (xs ++ ys)) else none
  | .list xs, .list ys => if xs.length + ys.length ≤ sizeLine then some (.list (xs ++ ys)) else none
  | _, _ => none
def subD : D → D → Option D
  | .int i, .int j => some (.int (i - j))
  | _, _ => none
def mulD : D → D → Option D
  | .int i, .int j => if (-(2 ^ 64) < i ∧ i < 2 ^ 64) ∨ (-(2 ^ 64) < j ∧ j < 2 ^ 64) then some (.int (i * j)) else none
  | .list xs, .int k => if -(2 ^ 63) ≤ k ∧ k < 2 ^ 63 ∧ xs.length * k.toNat ≤ sizeLine then some (.list (List.replicate k.toNat xs).flatten) else none
  | _, _ => none
def fdivD : D → D → Option D
  | .int i, .int j => if 0 < j ∧ j < 1073741824 then some (.int (i / j)) else none
  | _, _ => none
def modD : D → D → Option D
  | .int i, .int j => if 0 < j then some (.int (i % j)) else none
  | _, _ => none
def shlD : D → D → Option D
  | .int i, .int j => if 0 ≤ j ∧ j ≤ 1000000 ∧ i.natAbs < 2 ^ 64 then some (.int (i * 2 ^ j.toNat)) else none
  | _, _ => none
def powD : D → D → Option D
  | .int i, .int j => if 0 ≤ j ∧ j ≤ 1000000 ∧ i.natAbs < 2 ^ 64 then some (.int (i ^ j.toNat)) else none
  | _, _ => none
def binD : Operator → D → D → Option D
  | .Add => addD
  | .Sub => subD
  | .Mult => mulD
  | .FloorDiv => fdivD
  | .Mod => modD
  | .LShift => shlD
  | .Pow => powD
  | _ => fun _ _ => none
def ordI : CmpOp → Int → Int → Bool
  | .Lt, i, j => decide (i < j)
  | .LtE, i, j => decide (i ≤ j)
  | .Gt, i, j => decide (j < i)
  | .GtE, i, j => decide (j ≤ i)
  | _, _, _ => false
def ordN : CmpOp → Nat → Nat → Bool
  | .Lt, i, j => decide (i < j)
  | .LtE, i, j => decide (i ≤ j)
  | .Gt, i, j => decide (j < i)
  | .GtE, i, j => decide (j ≤ i)
  | _, _, _ => false
mutual
/-- the order of data, and whether each unequal pair of places has one -/
def ordB (o : CmpOp) : D → D → Bool
  | .int i, .int j => ordI o i j
  | .str x, .str y => decide (x.cps.toList < y.cps.toList)
  | .tuple xs, .tuple ys => ordBA o xs ys
  | _, _ => false
def ordBA (o : CmpOp) : List D → List D → Bool
  | [], ys => ordN o 0 ys.length
  | _ :: xs, [] => ordN o (xs.length + 1) 0
  | x :: xs, y :: ys => if PyData.eqv x y then ordBA o xs ys else ordB o x y
end
mutual
def canB (o : CmpOp) : D → D → Bool
  | .int _, .int _ => true
  | .str _, .str _ => decide (o = .Lt)
  | .tuple xs, .tuple ys => canBA o xs ys
  | _, _ => false
def canBA (o : CmpOp) : List D → List D → Bool
  | x :: xs, y :: ys => (PyData.eqv x y || canB o x y) && canBA o xs ys
  | _, _ => true
end
def isOrd : CmpOp → Bool
  | .Lt | .LtE | .Gt | .GtE => true
  | _ => false
def eqD (x y : D) : Option Bool := if SeqAt.shaped x && SeqAt.shaped y then some (PyData.eqv x y) else none
def inD (x : D) : D → Option Bool
  | .list ds => if SeqAt.shaped x && SeqAt.shaped (.list ds) then some (ds.any fun z => PyData.eqv z x) else none
  | .tuple ds => if SeqAt.shaped x && SeqAt.shaped (.tuple ds) then some (ds.any fun z => PyData.eqv z x) else none
  | _ => none
def isD : D → D → Option Bool
  | x, .none => some (match x with | .none => true | _ => false)
  | .bool a, .bool b => some (decide (a = b))
  | _, _ => none
def cmpD (o : CmpOp) (x y : D) : Option D := match o with
  | .Eq => (eqD x y).map .bool
  | .NotEq => (eqD x y).map fun b => .bool !b
  | .In => (inD x y).map .bool
  | .NotIn => (inD x y).map fun b => .bool !b
  | .Is => (isD x y).map .bool
  | .IsNot => (isD x y).map fun b => .bool !b
  | o => if SeqAt.shaped x && SeqAt.shaped y && canB o x y then some (.bool (ordB o x y)) else none

/-! the state without its frame -/
structure StH (g : G) (B : Addr → Prop) (c : Cp) (H : Hp) : Prop where
  cup : CupOK g c H
  tabs : LamX.Tabs g.TT H
  dom : ∀ a, B a → ∃ xs, H a = some (.lst xs)
  cb : ∀ a, g.ca = some a → B a
section
variable {g : G} {B : Addr → Prop} {ρ : En} {c c' : Cp} {σ : L2.St} {H H' : Hp}
theorem StOK.h (s : StOK g B ρ c σ H) : StH g B c H := ⟨s.cup, s.tabs, s.dom, s.cb⟩
theorem StH.refl (s : StH g B c H) : After g H H c := ⟨Per.refl, s.cup, s.tabs, fun _ e => e⟩
theorem StH.ok (s : StH g B c H) : StOK g B [] c [] H := ⟨rfl, fun i sl e => by simp at e, s.cup, s.tabs, s.dom, s.cb⟩
theorem StH.new (s : StH g B c H) {p : Addr} {o : HO} (hp : H p = none) : After g H (upd H p o) c := s.ok.new hp
theorem StH.nb (s : StH g B c H) {p : Addr} (hp : H p = none) : ¬ B p := s.ok.nb hp
theorem StH.after (s : StH g B c H) (a : After g H H' c') : StH g B c' H' := (s.ok.after a).h
theorem StH.newList (s : StH g B c H) {p : Addr} {xs : List V} {ds : List D} (hp : H p = none) (r : RpA g B H xs ds) : Rp g B (upd H p (.lst xs)) (.ref p) (.list ds) :=
  .lst (s.nb hp) upd_same (r.after (s.new hp) s.cb)
theorem StH.newTup (s : StH g B c H) {p : Addr} {xs : List V} {ds : List D} (hp : H p = none) (r : RpA g B H xs ds) : Rp g B (upd H p (.tup xs)) (.ref p) (.tuple ds) :=
  .tup (s.nb hp) upd_same (r.after (s.new hp) s.cb)
end
/-- an operation as data has it -/
def rD (g : G) (B : Addr → Prop) (o : D → D → Option D) : R2 := fun x y H Q => ∃ dx dy dz c, StH g B c H ∧ Rp g B H x dx ∧ Rp g B H y dy ∧ o dx dy = some dz ∧ ∀ z H', After g H H' c → Rp g B H' z dz → Q z H'
section
variable {X : Cx} {g : G} {B : Addr → Prop}
/-- where a kit's rule serves whatever the data is -/
theorem OpR.of {f : Value → Value → Sem Value} {r r' : R2} (h : OpR X f r) (i : ∀ x y H Q, r' x y H Q → r x y H Q) : OpR X f r' := fun pins s σ H x y v u Q I rx ry q => h pins s σ H x y v u Q I rx ry (i x y H Q q)
theorem op_subD : OpR X (binaryOp .Sub) (rD g B subD) := by
  refine OpR.of op_sub fun x y H Q h => ?_
  obtain ⟨dx, dy, dz, c, st, r1, r2, e, q⟩ := h
  cases dx <;> try (cases e; done)
  cases dy <;> try (cases e; done)
  cases r1; cases r2; cases e
  exact ⟨_, _, rfl, rfl, q _ _ st.refl (.int _)⟩
theorem ite_some_eq {α : Type} {p : Prop} [Decidable p] {a b : α} (h : (if p then some a else none) = some b) : p ∧ a = b := by
  by_cases c : p
  · rw [if_pos c] at h; exact ⟨c, Option.some.inj h⟩
  · rw [if_neg c] at h; cases h
theorem op_fdivD : OpR X (binaryOp .FloorDiv) (rD g B fdivD) := by
  refine OpR.of op_fdiv fun x y H Q h => ?_
  obtain ⟨dx, dy, dz, c, st, r1, r2, e, q⟩ := h
  cases dx <;> try (cases e; done)
  cases dy <;> try (cases e; done)
  obtain ⟨h1, e⟩ := ite_some_eq e
  cases r1; cases r2; cases e
  exact ⟨_, _, rfl, rfl, h1, q _ _ st.refl (.int _)⟩
theorem op_modD : OpR X (binaryOp .Mod) (rD g B modD) := by
  refine OpR.of op_mod fun x y H Q h => ?_
  obtain ⟨dx, dy, dz, c, st, r1, r2, e, q⟩ := h
  cases dx <;> try (cases e; done)
  cases dy <;> try (cases e; done)
  obtain ⟨h1, e⟩ := ite_some_eq e
  cases r1; cases r2; cases e
  exact ⟨_, _, rfl, rfl, h1, q _ _ st.refl (.int _)⟩
theorem op_shlD : OpR X (binaryOp .LShift) (rD g B shlD) := by
  refine OpR.of op_shl fun x y H Q h => ?_
  obtain ⟨dx, dy, dz, c, st, r1, r2, e, q⟩ := h
  cases dx <;> try (cases e; done)
  cases dy <;> try (cases e; done)
  obtain ⟨h1, e⟩ := ite_some_eq e
  cases r1; cases r2; cases e
  exact ⟨_, _, rfl, rfl, h1, q _ _ st.refl (.int _)⟩
theorem op_powD : OpR X (binaryOp .Pow) (rD g B powD) := by
  refine OpR.of op_pow fun x y H Q h => ?_
  obtain ⟨dx, dy, dz, c, st, r1, r2, e, q⟩ := h
  cases dx <;> try (cases e; done)
  cases dy <;> try (cases e; done)
  obtain ⟨h1, e⟩ := ite_some_eq e
  cases r1; cases r2; cases e
  exact ⟨_, _, rfl, rfl, h1, q _ _ st.refl (.int _)⟩
theorem op_addD : OpR X (binaryOp .Add) (rD g B addD) := by
  refine OpR.of (OpR.or op_add (OpR.or op_add_str (OpR.or op_catA op_cat))) fun x y H Q h => ?_
  obtain ⟨dx, dy, dz, c, st, r1, r2, e, q⟩ := h
  cases dx <;> cases dy <;> try (cases e; done)
  · cases r1; cases r2; cases e
    exact .inl ⟨_, _, rfl, rfl, q _ _ st.refl (.int _)⟩
  · obtain ⟨h1, e⟩ := ite_some_eq e
    cases r1; cases r2; cases e
    exact .inr (.inl ⟨_, _, rfl, rfl, h1, q _ _ st.refl (.str _)⟩)
  · obtain ⟨h1, e⟩ := ite_some_eq e
    cases e
    cases r1 with
    | lst n1 e1 a1 =>
      cases r2 with
      | lst n2 e2 a2 =>
        refine .inr (.inr (.inr ⟨_, _, _, _, rfl, rfl, e1, e2, by rw [a1.length, a2.length]; exact h1, fun p hp => q _ _ (st.new hp) (st.newList hp (a1.append a2))⟩))
  · obtain ⟨h1, e⟩ := ite_some_eq e
    cases e
    cases r1 with
    | tup n1 e1 a1 =>
      cases r2 with
      | tup n2 e2 a2 =>
        refine .inr (.inr (.inl ⟨_, _, _, _, rfl, rfl, SqT.of e1, SqT.of e2, by rw [a1.length, a2.length]; exact h1, fun z => ?_, fun _ z => ?_, fun _ _ p hp => q _ _ (st.new hp) (st.newTup hp (a1.append a2))⟩))
        · subst z
          cases a1
          exact q _ _ st.refl (.tup n2 e2 a2)
        · subst z
          cases a2
          rw [List.append_nil] at q
          exact q _ _ st.refl (.tup n1 e1 a1)
theorem rep_flat {H : Hp} {xs : List V} {ds : List D} (r : RpA g B H xs ds) : ∀ n : Nat, RpA g B H (List.replicate n xs).flatten (List.replicate n ds).flatten
  | 0 => .nil
  | n + 1 => by
    rw [List.replicate_succ, List.replicate_succ, List.flatten_cons, List.flatten_cons]
    exact r.append (rep_flat r n)
theorem op_mulD : OpR X (binaryOp .Mult) (rD g B mulD) := by
  refine OpR.of (OpR.or op_mul op_rep) fun x y H Q h => ?_
  obtain ⟨dx, dy, dz, c, st, r1, r2, e, q⟩ := h
  cases dx <;> cases dy <;> try (cases e; done)
  · obtain ⟨h1, e⟩ := ite_some_eq e
    cases r1; cases r2; cases e
    exact .inl ⟨_, _, rfl, rfl, h1, q _ _ st.refl (.int _)⟩
  · obtain ⟨⟨h1, h2, h3⟩, e⟩ := ite_some_eq e
    cases e
    cases r2
    cases r1 with
    | lst n1 e1 a1 =>
      exact .inr ⟨_, _, _, rfl, rfl, e1, h1, h2, by rw [a1.length]; exact h3, fun p hp => q _ _ (st.new hp) (st.newList hp (rep_flat a1 _))⟩
def okBin : Operator → Bool
  | .Add | .Sub | .Mult | .FloorDiv | .Mod | .LShift | .Pow => true
  | _ => false
theorem op_binD {o : Operator} (h : okBin o = true) : OpR X (binaryOp o) (rD g B (binD o)) := by
  cases o <;> first
    | exact op_addD
    | exact op_subD
    | exact op_mulD
    | exact op_fdivD
    | exact op_modD
    | exact op_shlD
    | exact op_powD
    | cases h

/-! order -/
theorem reads_size {h : Heap} : ∀ {vs : List Value} {ds : List D} {as : List Addr}, ReadsAll h vs ds as → vs.length = ds.length
  | _, [], _, r => by cases r; rfl
  | _, d :: ds, _, r => by
    cases r with
    | cons r1 r2 => exact congrArg Nat.succ (reads_size r2)
/-- which of two rows' items are equal, how the first unequal pair is ordered -/
def eqAtL (xs ys : List D) (j : Nat) : Bool := match xs[j]?, ys[j]? with
  | some x, some y => PyData.eqv x y
  | _, _ => false
def ordAtL (o : CmpOp) (xs ys : List D) (j : Nat) : Bool := match xs[j]?, ys[j]? with
  | some x, some y => ordB o x y
  | _, _ => false
theorem lexAt_ext {e r e' r' : Nat → Bool} {z : Bool} : ∀ (k i i' : Nat), (∀ j, j < k → e (i + j) = e' (i' + j) ∧ (e (i + j) = false → r (i + j) = r' (i' + j))) → Ob.lexAt e r z i k = Ob.lexAt e' r' z i' k
  | 0, _, _, _ => rfl
  | k + 1, i, i', h => by
    obtain ⟨h1, h2⟩ := h 0 (Nat.succ_pos k)
    rw [Nat.add_zero, Nat.add_zero] at h1 h2
    rw [Ob.lexAt_succ, Ob.lexAt_succ, ← h1]
    cases q : e i with
    | true =>
      simp only [if_true]
      refine lexAt_ext k (i + 1) (i' + 1) fun j hj => ?_
      have := h (j + 1) (Nat.succ_lt_succ hj)
      rw [show i + (j + 1) = i + 1 + j by omega, show i' + (j + 1) = i' + 1 + j by omega] at this
      exact this
    | false =>
      simp only [Bool.false_eq_true, if_false]
      exact h2 q
theorem lexAt_end {e r : Nat → Bool} {z z' : Bool} : ∀ (k i : Nat), z = z' → Ob.lexAt e r z i k = Ob.lexAt e r z' i k := fun k i h => by rw [h]
theorem ordN_succ {o : CmpOp} (h : isOrd o = true) (m n : Nat) : ordN o (m + 1) (n + 1) = ordN o m n := by
  cases o <;> first
    | (cases h; done)
    | (simp [ordN])
/-- the rows' order by the library's way of telling it -/
theorem ordBA_lex {o : CmpOp} (h : isOrd o = true) : ∀ (xs ys : List D), Ob.lexAt (eqAtL xs ys) (ordAtL o xs ys) (ordN o xs.length ys.length) 0 (min xs.length ys.length) = ordBA o xs ys
  | [], ys => by
    simp only [ordBA]
    rw [List.length_nil, Nat.zero_min]
    rfl
  | x :: xs, [] => by
    simp only [ordBA]
    rw [List.length_nil, Nat.min_zero]
    rfl
  | x :: xs, y :: ys => by
    simp only [ordBA]
    have hm : min (x :: xs).length (y :: ys).length = min xs.length ys.length + 1 := by simp only [List.length_cons]; omega
    rw [hm, Ob.lexAt_succ]
    have e0 : eqAtL (x :: xs) (y :: ys) 0 = PyData.eqv x y := rfl
    have r0 : ordAtL o (x :: xs) (y :: ys) 0 = ordB o x y := rfl
    rw [e0, r0]
    cases q : PyData.eqv x y with
    | true =>
      rw [if_pos rfl, if_pos rfl, ← ordBA_lex h xs ys]
      refine Eq.trans (lexAt_end _ _ (ordN_succ h _ _)) (lexAt_ext _ 1 0 fun j _ => ?_)
      rw [show (1 : Nat) + j = j + 1 by omega, show 0 + j = j by omega]
      exact ⟨rfl, fun _ => rfl⟩
    | false => simp only [Bool.false_eq_true, if_false]
theorem canBA_at {o : CmpOp} : ∀ {xs ys : List D}, canBA o xs ys = true → ∀ {j : Nat} {x y : D}, xs[j]? = some x → ys[j]? = some y → PyData.eqv x y = false → canB o x y = true
  | [], ys, _, j, x, y, h1, h2, _ => by simp at h1
  | x0 :: xs, [], _, j, x, y, h1, h2, _ => by simp at h2
  | x0 :: xs, y0 :: ys, e, 0, x, y, h1, h2, hn => by
    simp at h1 h2
    subst h1; subst h2
    simp only [canBA, hn, Bool.false_or, Bool.and_eq_true] at e
    exact e.1
  | x0 :: xs, y0 :: ys, e, j + 1, x, y, h1, h2, hn => by
    simp only [canBA, Bool.and_eq_true] at e
    exact canBA_at e.2 (by simpa using h1) (by simpa using h2) hn
theorem reads_at {h : Heap} : ∀ {ds : List D} {vs : List Value} {as : List Addr} {j : Nat} {d : D}, ReadsAll h vs ds as → ds[j]? = some d → ∃ v bs, vs[j]? = some v ∧ Reads h v d bs
  | [], _, _, _, _, _, e => by simp at e
  | d0 :: ds, _, _, 0, d, r, e => by
    cases r with
    | cons r1 r2 => simp at e; subst e; exact ⟨_, _, rfl, r1⟩
  | d0 :: ds, _, _, j + 1, d, r, e => by
    cases r with
    | cons r1 r2 =>
      obtain ⟨v, bs, h1, h2⟩ := reads_at r2 (j := j) (d := d) (by simpa using e)
      exact ⟨v, bs, by simpa using h1, h2⟩
theorem depth_mem {d : D} : ∀ {ds : List D}, d ∈ ds → d.depth ≤ PyData.depthAll ds
  | [], h => by cases h
  | x :: xs, h => by
    simp only [PyData.depthAll]
    rcases List.mem_cons.mp h with rfl | h
    · exact Nat.le_max_left _ _
    · exact Nat.le_trans (depth_mem h) (Nat.le_max_right _ _)
theorem lay_mem {d : D} : ∀ {ds : List D}, PyData.canLayAll0 ds = true → d ∈ ds → d.canLay0 = true
  | [], _, h => by cases h
  | x :: xs, c, h => by
    have c' : x.canLay0 = true ∧ PyData.canLayAll0 xs = true := by simpa [PyData.canLayAll0] using c
    rcases List.mem_cons.mp h with rfl | h
    · exact c'.1
    · exact lay_mem c'.2 h
theorem rc_int {o : CmpOp} (h : isOrd o = true) {A : Around} {s : Shared} (i j : Int) (t u : Tok) : Ob.RcOp o A s (.int i t) (.int j u) (ordI o i j) := by
  cases o <;> first
    | (cases h; done)
    | exact Ob.RcOp.lt_int i j t u
    | exact Ob.RcOp.le_int i j t u
    | exact Ob.RcOp.gt_int i j t u
    | exact Ob.RcOp.ge_int i j t u
theorem rc_tup {o : CmpOp} (h : isOrd o = true) {A : Around} {s : Shared} {l b : Addr} {its its2 : Array Value} {e r : Nat → Bool} (hl : s.heap.IsTuple l its) (hb : s.heap.IsTuple b its2) (hu : A.units < cLine)
    (he : ∀ j (h1 : j < its.size) (h2 : j < its2.size), SeqAt.EqAt A.in1 s its[j] its2[j] (e j)) (hr : ∀ j (h1 : j < its.size) (h2 : j < its2.size), e j = false → Ob.RcOp o A.in1 s its[j] its2[j] (r j)) :
    Ob.RcOp o A s (.ref l) (.ref b) (Ob.lexAt e r (ordN o its.size its2.size) 0 (min its.size its2.size)) := by
  cases o <;> first
    | (cases h; done)
    | exact Ob.RcOp.tuples_lt hl hb hu he hr
    | exact Ob.RcOp.tuples_le hl hb hu he hr
    | exact Ob.RcOp.tuples_gt hl hb hu he hr
    | exact Ob.RcOp.tuples_ge hl hb hu he hr
theorem reads_tup {h : Heap} {v : Value} {xs : List D} {as : List Addr} (r : Reads h v (.tuple xs) as) : ∃ a o vs n, v = .ref a ∧ h.get? a = some o ∧ o.cls = .type "tuple" ∧ o.data = .seq vs n ∧ ReadsAll h vs.toList xs as := by
  cases r with
  | tuple h1 h2 h3 h4 => exact ⟨_, _, _, _, rfl, h1, h2, h3, h4⟩
theorem rc_ord {o : CmpOp} (h : isOrd o = true) : ∀ (n : Nat) (d e : D) (A : Around) (s : Shared) (v u : Value) (as bs : List Addr), d.depth ≤ n → Reads s.heap v d as → Reads s.heap u e bs → d.canLay0 = true → e.canLay0 = true →
    A.units + n < cLine → canB o d e = true → Ob.RcOp o A s v u (ordB o d e) := by
  intro n
  induction n with
  | zero =>
    intro d e A s v u as bs hd rv ru cd ce hu hc
    cases d <;> cases e <;> first | (simp only [canB, Bool.false_eq_true] at hc; done) | skip
    · cases rv; cases ru; exact rc_int h _ _ _ _
    · cases rv; cases ru
      have : o = .Lt := by simpa [canB] using hc
      subst this
      exact fun prog w E Q q => PyProof.Rows.lt_str q
    · simp [PyData.depth] at hd
  | succ n ih =>
    intro d e A s v u as bs hd rv ru cd ce hu hc
    cases d <;> cases e <;> first | (simp only [canB, Bool.false_eq_true] at hc; done) | skip
    · cases rv; cases ru; exact rc_int h _ _ _ _
    · cases rv; cases ru
      have : o = .Lt := by simpa [canB] using hc
      subst this
      exact fun prog w E Q q => PyProof.Rows.lt_str q
    · rename_i xs ys
      have hdx : PyData.depthAll xs ≤ n := by simp only [PyData.depth] at hd; omega
      have cx : PyData.canLayAll0 xs = true := by simpa [PyData.canLay0] using cd
      have cy : PyData.canLayAll0 ys = true := by simpa [PyData.canLay0] using ce
      obtain ⟨l1, o1, vs1, n1, rfl, h1, h2, h3, h4⟩ := reads_tup rv
      · obtain ⟨l2, o2, vs2, n2, rfl, k1, k2, k3, k4⟩ := reads_tup ru
        · have s1 := reads_size h4
          have s2 := reads_size k4
          have R := rc_tup (o := o) h (A := A) (s := s) (e := eqAtL xs ys) (r := ordAtL o xs ys) ⟨_, h1, h2, _, h3⟩ ⟨_, k1, k2, _, k3⟩ (by omega) (fun j j1 j2 => ?_) (fun j j1 j2 hn => ?_)
          · have z1 : vs1.size = xs.length := by rw [← Array.length_toList]; exact s1
            have z2 : vs2.size = ys.length := by rw [← Array.length_toList]; exact s2
            rw [z1, z2, ordBA_lex h] at R
            exact R
          all_goals
            have z1 : vs1.size = xs.length := by rw [← Array.length_toList]; exact s1
            have z2 : vs2.size = ys.length := by rw [← Array.length_toList]; exact s2
            obtain ⟨v1, b1, e1, q1⟩ := reads_at h4 (j := j) (d := xs[j]'(by omega)) (List.getElem?_eq_getElem _)
            obtain ⟨v2, b2, e2, q2⟩ := reads_at k4 (j := j) (d := ys[j]'(by omega)) (List.getElem?_eq_getElem _)
            have m1 : xs[j]'(by omega) ∈ xs := List.getElem_mem _
            have m2 : ys[j]'(by omega) ∈ ys := List.getElem_mem _
            have d1 := depth_mem m1
            have w1 : vs1[j] = v1 := by
              have := e1
              rw [Array.getElem?_toList, Array.getElem?_eq_getElem j1] at this
              exact Option.some.inj this
            have w2 : vs2[j] = v2 := by
              have := e2
              rw [Array.getElem?_toList, Array.getElem?_eq_getElem j2] at this
              exact Option.some.inj this
            rw [w1, w2]
            have ee : eqAtL xs ys j = PyData.eqv (xs[j]'(by omega)) (ys[j]'(by omega)) := by
              unfold eqAtL
              rw [List.getElem?_eq_getElem (by omega), List.getElem?_eq_getElem (by omega)]
            have oo : ordAtL o xs ys j = ordB o (xs[j]'(by omega)) (ys[j]'(by omega)) := by
              unfold ordAtL
              rw [List.getElem?_eq_getElem (by omega), List.getElem?_eq_getElem (by omega)]
          · rw [ee]
            refine SeqAt.eqAt_reads _ _ _ s _ _ _ _ q1 q2 (lay_mem cx m1) (lay_mem cy m2) ?_
            have : (xs[j]'(by omega)).depth ≤ n := by omega
            show A.units + 1 + min _ _ < cLine
            have := Nat.min_le_left (xs[j]'(by omega)).depth (ys[j]'(by omega)).depth
            omega
          · rw [oo]
            rw [ee] at hn
            refine ih _ _ _ s _ _ _ _ (by omega) q1 q2 (lay_mem cx m1) (lay_mem cy m2) ?_ (canBA_at (by simpa [canB] using hc) (List.getElem?_eq_getElem _) (List.getElem?_eq_getElem _) hn)
            show A.units + 1 + n < cLine
            omega
end
end Mi

namespace Mi
open PySem PySem.Spec PyProof.Rows L2
section
variable {X : Cx} {g : G} {B : Addr → Prop}
theorem eqD_some {x y : D} {b : Bool} (h : eqD x y = some b) : SeqAt.shaped x = true ∧ SeqAt.shaped y = true ∧ PyData.eqv x y = b := by
  obtain ⟨h1, h2⟩ := ite_some_eq h
  rw [Bool.and_eq_true] at h1
  exact ⟨h1.1, h1.2, h2⟩
theorem op_eqM (hu : X.A.units + 64 < cLine) : OpR X (compareOp .Eq) (rD g B (cmpD .Eq)) := by
  refine OpR.of (op_eqD hu) fun x y H Q h => ?_
  obtain ⟨dx, dy, dz, c, st, r1, r2, e, q⟩ := h
  obtain ⟨b, eb, rfl⟩ := Option.map_eq_some_iff.mp (show (eqD dx dy).map .bool = some dz from e)
  obtain ⟨s1, s2, rfl⟩ := eqD_some eb
  exact ⟨dx, dy, r1.dpS _ s1, r2.dpS _ s2, s1, s2, q _ _ st.refl (.bl _)⟩
theorem op_neM (hu : X.A.units + 64 < cLine) : OpR X (compareOp .NotEq) (rD g B (cmpD .NotEq)) := by
  refine OpR.of (op_neD hu) fun x y H Q h => ?_
  obtain ⟨dx, dy, dz, c, st, r1, r2, e, q⟩ := h
  obtain ⟨b, eb, rfl⟩ := Option.map_eq_some_iff.mp (show (eqD dx dy).map (fun b => PyData.bool !b) = some dz from e)
  obtain ⟨s1, s2, rfl⟩ := eqD_some eb
  exact ⟨dx, dy, r1.dpS _ s1, r2.dpS _ s2, s1, s2, q _ _ st.refl (.bl _)⟩
theorem room_in {d : D} {ds : List D} {A : Around} (h : SeqAt.shaped d = true) (hu : A.units + 65 < cLine) : A.units + 1 + min (PyData.depthAll ds) d.depth < cLine := by
  have h1 := SeqAt.depth_of_shaped h
  have h2 := Nat.min_le_right (PyData.depthAll ds) d.depth
  omega
theorem inD_some {x y : D} {b : Bool} (h : inD x y = some b) : SeqAt.shaped x = true ∧ SeqAt.shaped y = true ∧ ((∃ ds, y = .list ds ∧ ds.any (fun z => PyData.eqv z x) = b) ∨ ∃ ds, y = .tuple ds ∧ ds.any (fun z => PyData.eqv z x) = b) := by
  cases y <;> try (cases h; done)
  · obtain ⟨h1, h2⟩ := ite_some_eq h
    rw [Bool.and_eq_true] at h1
    exact ⟨h1.1, h1.2, .inl ⟨_, rfl, h2⟩⟩
  · obtain ⟨h1, h2⟩ := ite_some_eq h
    rw [Bool.and_eq_true] at h1
    exact ⟨h1.1, h1.2, .inr ⟨_, rfl, h2⟩⟩
theorem op_inM (hu : X.A.units + 65 < cLine) : OpR X (compareOp .In) (rD g B (cmpD .In)) := by
  intro pins s σ H x y v u Q I rx ry h
  obtain ⟨dx, dy, dz, c, st, r1, r2, e, q⟩ := h
  obtain ⟨b, eb, rfl⟩ := Option.map_eq_some_iff.mp (show (inD dx dy).map .bool = some dz from e)
  obtain ⟨s1, s2, hh⟩ := inD_some eb
  obtain ⟨as, q1⟩ := Dp.reads I _ _ _ (r1.dpS _ s1) rx
  obtain ⟨bs, q2⟩ := Dp.reads I _ _ _ (r2.dpS _ s2) ry
  rcases hh with ⟨ds, rfl, rfl⟩ | ⟨ds, rfl, rfl⟩
  · exact SeqAt.in_list_reads q2 q1 (SeqAt.canLay_of_shaped s2) (SeqAt.canLay_of_shaped s1) (room_in s1 hu) ⟨.bl _, H, I, rfl, q _ _ st.refl (.bl _)⟩
  · exact SeqAt.in_tuple_reads q2 q1 (SeqAt.canLay_of_shaped s2) (SeqAt.canLay_of_shaped s1) (room_in s1 hu) ⟨.bl _, H, I, rfl, q _ _ st.refl (.bl _)⟩
theorem op_notInM (hu : X.A.units + 65 < cLine) : OpR X (compareOp .NotIn) (rD g B (cmpD .NotIn)) := by
  intro pins s σ H x y v u Q I rx ry h
  obtain ⟨dx, dy, dz, c, st, r1, r2, e, q⟩ := h
  obtain ⟨b, eb, rfl⟩ := Option.map_eq_some_iff.mp (show (inD dx dy).map (fun b => PyData.bool !b) = some dz from e)
  obtain ⟨s1, s2, hh⟩ := inD_some eb
  obtain ⟨as, q1⟩ := Dp.reads I _ _ _ (r1.dpS _ s1) rx
  obtain ⟨bs, q2⟩ := Dp.reads I _ _ _ (r2.dpS _ s2) ry
  rcases hh with ⟨ds, rfl, rfl⟩ | ⟨ds, rfl, rfl⟩
  · exact SeqAt.notIn_list_reads q2 q1 (SeqAt.canLay_of_shaped s2) (SeqAt.canLay_of_shaped s1) (room_in s1 hu) ⟨.bl _, H, I, rfl, q _ _ st.refl (.bl _)⟩
  · exact SeqAt.notIn_tuple_reads q2 q1 (SeqAt.canLay_of_shaped s2) (SeqAt.canLay_of_shaped s1) (room_in s1 hu) ⟨.bl _, H, I, rfl, q _ _ st.refl (.bl _)⟩
theorem isD_some {H : Hp} {x y : D} {b : Bool} (h : isD x y = some b) {vx vy : V} (r1 : Rp g B H vx x) (r2 : Rp g B H vy y) : (vy = .non ∧ b = decide (vx = .non)) ∨ ∃ a a', vx = .bl a ∧ vy = .bl a' ∧ b = decide (a = a') := by
  cases y <;> try (cases x <;> cases h; done)
  · cases r2
    refine .inl ⟨rfl, ?_⟩
    cases x <;> cases h <;> cases r1 <;> rfl
  · cases x <;> try (cases h; done)
    cases r1; cases r2; cases h
    exact .inr ⟨_, _, rfl, rfl, rfl⟩
theorem op_isM : OpR X (compareOp .Is) (rD g B (cmpD .Is)) := by
  refine OpR.of (OpR.or op_isN op_isBl) fun x y H Q h => ?_
  obtain ⟨dx, dy, dz, c, st, r1, r2, e, q⟩ := h
  obtain ⟨b, eb, rfl⟩ := Option.map_eq_some_iff.mp (show (isD dx dy).map .bool = some dz from e)
  rcases isD_some eb r1 r2 with ⟨h1, rfl⟩ | ⟨a, a', rfl, rfl, rfl⟩
  · exact .inl ⟨h1, q _ _ st.refl (.bl _)⟩
  · exact .inr ⟨a, a', rfl, rfl, q _ _ st.refl (.bl _)⟩
theorem op_isNotM : OpR X (compareOp .IsNot) (rD g B (cmpD .IsNot)) := by
  refine OpR.of (OpR.or op_notN op_notBl) fun x y H Q h => ?_
  obtain ⟨dx, dy, dz, c, st, r1, r2, e, q⟩ := h
  obtain ⟨b, eb, rfl⟩ := Option.map_eq_some_iff.mp (show (isD dx dy).map (fun b => PyData.bool !b) = some dz from e)
  rcases isD_some eb r1 r2 with ⟨h1, rfl⟩ | ⟨a, a', rfl, rfl, rfl⟩
  · exact .inl ⟨h1, q _ _ st.refl (.bl _)⟩
  · exact .inr ⟨a, a', rfl, rfl, q _ _ st.refl (.bl _)⟩
theorem op_ordM {o : CmpOp} (h : isOrd o = true) (hu : X.A.units + 64 < cLine) : OpR X (compareOp o) (rD g B (cmpD o)) := by
  intro pins s σ H x y v u Q I rx ry hh
  obtain ⟨dx, dy, dz, c, st, r1, r2, e, q⟩ := hh
  have e' : (if SeqAt.shaped dx && SeqAt.shaped dy && canB o dx dy then some (PyData.bool (ordB o dx dy)) else none) = some dz := by cases o <;> first | exact e | cases h
  obtain ⟨h1, rfl⟩ := ite_some_eq e'
  rw [Bool.and_eq_true, Bool.and_eq_true] at h1
  obtain ⟨as, q1⟩ := Dp.reads I _ _ _ (r1.dpS _ h1.1.1) rx
  obtain ⟨bs, q2⟩ := Dp.reads I _ _ _ (r2.dpS _ h1.1.2) ry
  have R := rc_ord h dx.depth dx dy X.A s v u as bs (Nat.le_refl _) q1 q2 (SeqAt.canLay_of_shaped h1.1.1) (SeqAt.canLay_of_shaped h1.1.2) (by have := SeqAt.depth_of_shaped h1.1.1; omega) h1.2
  have z := R X.prog X.w X.xe (EP X pins σ Q) ⟨.bl _, H, I, rfl, q _ _ st.refl (.bl _)⟩
  cases o <;> first
    | (cases h; done)
    | exact z
theorem op_cmpM (o : CmpOp) (hu : X.A.units + 65 < cLine) : OpR X (compareOp o) (rD g B (cmpD o)) := by
  cases o
  · exact op_eqM (by omega)
  · exact op_neM (by omega)
  · exact op_ordM rfl (by omega)
  · exact op_ordM rfl (by omega)
  · exact op_ordM rfl (by omega)
  · exact op_ordM rfl (by omega)
  · exact op_isM
  · exact op_isNotM
  · exact op_inM hu
  · exact op_notInM hu
end
end Mi

namespace Mi
open PySem PySem.Spec PyProof.Rows L2
/-! the functions of the environment that expressions make -/
def eCst (d : D) : Ev := fun _ => rt d
def eVar (i : Nat) : Ev := fun ρ => match ρ[i]? with
  | some (.d x) => rt x
  | some (.box xs) => rt (.list xs)
  | _ => no
def eBin (o : Operator) (a b : Ev) : Ev := fun ρ => bd (a ρ) fun x => bd (b ρ) fun y => ofO (binD o x y)
def eCmp (o : CmpOp) (a b : Ev) : Ev := fun ρ => bd (a ρ) fun x => bd (b ρ) fun y => ofO (cmpD o x y)
def isTrueD : D → Option Bool
  | .bool b => some b
  | _ => none
def eChain (o o' : CmpOp) (a b c : Ev) : Ev := fun ρ => bd (a ρ) fun x => bd (b ρ) fun y => bd (ofO ((cmpD o x y).bind isTrueD)) fun k => if k then bd (c ρ) fun z => ofO (cmpD o' y z) else rt (.bool false)
def truD : D → Option Bool
  | .none => some false
  | .bool b => some b
  | .int i => some (i != 0)
  | .str y => if y.length ≤ sizeLine then some ((y.length : Int) != 0) else none
  | .list ds => some (!ds.isEmpty)
  | .tuple ds => some (!ds.isEmpty)
  | .dict _ => none
abbrev Tv := En → M Bool
def tOf (f : Ev) : Tv := fun ρ => bd (f ρ) fun x => ofO (truD x)
def tNo (f : Tv) : Tv := fun ρ => bd (f ρ) fun b => rt (!b)
def tAn (f h : Tv) : Tv := fun ρ => bd (f ρ) fun b => if b then h ρ else rt false
def tOr' (f h : Tv) : Tv := fun ρ => bd (f ρ) fun b => if b then rt true else h ρ
def eNot (f : Ev) : Ev := fun ρ => bd (f ρ) fun x => bd (ofO (truD x)) fun b => rt (.bool !b)
def eNeg (f : Ev) : Ev := fun ρ => bd (f ρ) fun x => match x with
  | .int i => rt (.int (-i))
  | _ => no
def eAnd (a b : Ev) : Ev := fun ρ => bd (a ρ) fun x => bd (ofO (truD x)) fun k => if k then b ρ else rt x
def eOr (a b : Ev) : Ev := fun ρ => bd (a ρ) fun x => bd (ofO (truD x)) fun k => if k then rt x else b ρ
def eIte (t : Tv) (a b : Ev) : Ev := fun ρ => bd (t ρ) fun k => if k then a ρ else b ρ
abbrev Av := En → M (List D)
def aNil : Av := fun _ => rt []
def aCons (f : Ev) (r : Av) : Av := fun ρ => bd (f ρ) fun x => bd (r ρ) fun xs => rt (x :: xs)
def eTup (a : Av) : Ev := fun ρ => bd (a ρ) fun xs => if xs.length ≤ sizeLine then rt (.tuple xs) else no
def eLst (a : Av) : Ev := fun ρ => bd (a ρ) fun xs => if xs.length ≤ sizeLine then rt (.list xs) else no
def atD (xs : List D) (i : Int) : Option D := atI xs i
def ixD : D → D → Option D
  | .list xs, .int i => atI xs i
  | .tuple xs, .int i => atI xs i
  | .str z, .int i => if z.length ≤ sizeLine then (atI z.cps.toList i).map fun c => .str ⟨#[c]⟩ else none
  | _, _ => none
def eIx (a b : Ev) : Ev := fun ρ => bd (a ρ) fun x => bd (b ρ) fun y => ofO (ixD x y)
def cutL {α : Type} (xs : List α) (lo hi : Option Int) : List α := (xs.drop (HT.sIx xs.length 0 lo)).take (HT.sIx xs.length xs.length hi - HT.sIx xs.length 0 lo)
def slD (lo hi : Option Int) : D → Option D
  | .list xs => some (.list (cutL xs lo hi))
  | .tuple xs => some (.tuple (cutL xs lo hi))
  | _ => none
abbrev Ov := En → M (Option Int)
def oNo : Ov := fun _ => rt none
def oSo (f : Ev) : Ov := fun ρ => bd (f ρ) fun x => match x with
  | .int i => rt (some i)
  | _ => no
def eSl (a : Ev) (l h : Ov) : Ev := fun ρ => bd (a ρ) fun x => bd (l ρ) fun lo => bd (h ρ) fun hi => ofO (slD lo hi x)
def eRev (a : Ev) : Ev := fun ρ => bd (a ρ) fun x => match x with
  | .list xs => rt (.list xs.reverse)
  | _ => no
/-- a built-in: by the values -/
def eBi (o : List D → Option D) (a : Av) : Ev := fun ρ => bd (a ρ) fun xs => ofO (o xs)
/-- a def of the text -/
def eCall (m : Nat) (F : List D → M D) (a : Av) : Ev := fun ρ => bd (a ρ) fun xs => if xs.length = m then F xs else no

/-! each keeps what it tells -/
section
variable {X : Cx} {g : G} {B : Addr → Prop} {W : WX} {a b c : Expr} {fa fb fc : Ev} {pos : Pos} {ta tb : Tv}
theorem post_of {σ : L2.St} {H : Hp} {ρ : En} {c : Cp} {f : Ev} {Q Q' : VK} (st : StOK g B ρ c σ H) (h : Post g W σ H (RD g B) (f ρ c) Q') (hq : ∀ v H', Q' v H' → Q v H') : tF g B W f σ H Q := ⟨ρ, c, st, h.mono hq⟩
theorem post_ok {α β : Type} {σ : L2.St} {H : Hp} {R : Hp → β → α → Prop} {x : α} {c : Cp} {Q : β → Hp → Prop} : Post g W σ H R (rt x c) Q ↔ ∀ b H', After g H H' c → R H' b x → Q b H' := Iff.rfl
theorem post_ofO {α β : Type} {σ : L2.St} {H : Hp} {R : Hp → β → α → Prop} {o : Option α} {c : Cp} {Q : β → Hp → Prop} (h : Post g W σ H R (ofO o c) Q) : ∃ x, o = some x ∧ ∀ b H', After g H H' c → R H' b x → Q b H' := by
  cases o with
  | none => exact h.elim
  | some x => exact ⟨x, rfl, h⟩
theorem post_if {α β : Type} {σ : L2.St} {H : Hp} {R : Hp → β → α → Prop} {p : Prop} [Decidable p] {m : M α} {c : Cp} {Q : β → Hp → Prop} (h : Post g W σ H R ((if p then m else no) c) Q) : p ∧ Post g W σ H R (m c) Q := by
  by_cases z : p
  · rw [if_pos z] at h; exact ⟨z, h⟩
  · rw [if_neg z] at h; exact h.elim
theorem s_cst {k : Const} {j : Nat} {d : D} (h : (match k with | .none => some .none | .bool b => some (.bool b) | .int i => some (.int i) | .str x => some (.str x) | _ => none) = some d) : PE X (.Constant k j pos) (tF g B W (eCst d)) := by
  cases k <;> try (cases h; done)
  · cases h; exact ⟨fun pins s σ H Q I ⟨ρ, c, st, h⟩ => pe_non.run pins s σ H Q I (h _ _ st.refl .non)⟩
  · cases h; exact ⟨fun pins s σ H Q I ⟨ρ, c, st, h⟩ => pe_bl.run pins s σ H Q I (h _ _ st.refl (.bl _))⟩
  · cases h; exact ⟨fun pins s σ H Q I ⟨ρ, c, st, h⟩ => pe_int.run pins s σ H Q I (h _ _ st.refl (.int _))⟩
  · cases h; exact ⟨fun pins s σ H Q I ⟨ρ, c, st, h⟩ => pe_str.run pins s σ H Q I (h _ _ st.refl (.str _))⟩
theorem s_var {i : Nat} {x : Str} (hN : X.N[i]? = some x) (hv : Vis X.env.scope x) (hd : (x == ("__debug__" : Str)) = false) (hcd : (x == ("__classdict__" : Str)) = false) : PE X (.Name x pos) (tF g B W (eVar i)) := by
  refine ⟨fun pins s σ H Q I ⟨ρ, c, st, h⟩ => (pe_var hN hv hd hcd).run pins s σ H Q I ?_⟩
  have h' : Post g W σ H (RD g B) ((match ρ[i]? with | some (.d x) => rt x | some (.box xs) => rt (.list xs) | _ => no : M D) c) Q := h
  cases e : ρ[i]? with
  | none => rw [e] at h'; exact h'.elim
  | some sl =>
    rw [e] at h'
    have z := st.env i sl e
    cases sl with
    | no => exact h'.elim
    | d x => obtain ⟨v, h1, h2⟩ := z; exact ⟨v, h1, h' _ _ st.refl h2⟩
    | box xs => obtain ⟨v, h1, h2⟩ := z; exact ⟨v, h1, h' _ _ st.refl h2⟩
theorem s_int {x : Str} {i : Int} {t : Tok} (hg : Gl X x) (hm : X.mg x = some (.int i t)) (hd : (x == ("__debug__" : Str)) = false) : PE X (.Name x pos) (tF g B W (eCst (.int i))) :=
  ⟨fun pins s σ H Q I ⟨ρ, c, st, h⟩ => (pe_glob (v := .int i) hg hm ⟨t, rfl⟩ hd).run pins s σ H Q I (h _ _ st.refl (.int _))⟩
theorem s_fn {x : Str} {f : Addr} (hg : Gl X x) (hm : X.mg x = some (.ref f)) (hmg : X.mg = g.mg) (hd : (x == ("__debug__" : Str)) = false) : PE X (.Name x pos) (tF g B W (eCst (dFn x))) :=
  ⟨fun pins s σ H Q I ⟨ρ, c, st, h⟩ => (pe_glob (v := .ref f) hg hm rfl hd).run pins s σ H Q I (h _ _ st.refl (.fn (by rw [← hmg]; exact hm)))⟩
/-- two in a row -/
theorem two {σ : L2.St} {H : Hp} {ρ : En} {c : Cp} {Q : VK} {o : D → D → Option D} (st : StOK g B ρ c σ H) (h : Post g W σ H (RD g B) (bd (fa ρ) (fun x => bd (fb ρ) fun y => ofO (o x y)) c) Q) :
    tOp (rD g B o) (tF g B W fa) (tF g B W fb) σ H Q := by
  refine post_of st (Post.bd (R1 := RD g B) h) fun v H1 ⟨x, c1, r1, a1, h1⟩ => ?_
  refine post_of (st.after a1) (Post.bd (R1 := RD g B) h1) fun w H2 ⟨y, c2, r2, a2, h2⟩ => ?_
  obtain ⟨z, e, q⟩ := post_ofO h2
  exact ⟨x, y, z, c2, ((st.after a1).after a2).h, r1.after a2 st.cb, r2, e, q⟩
theorem s_bin {o : Operator} (ho : okBin o = true) (ha : PE X a (tF g B W fa)) (hb : PE X b (tF g B W fb)) : PE X (.BinOp a o b pos) (tF g B W (eBin o fa fb)) :=
  ⟨fun pins s σ H Q I ⟨ρ, c, st, h⟩ => (pe_op (op_binD (g := g) (B := B) ho) ha hb).run pins s σ H Q I (two st h)⟩
theorem s_cmp {o : CmpOp} (hu : X.A.units + 65 < cLine) (hm : behindInMarks o b = false) (ha : PE X a (tF g B W fa)) (hb : PE X b (tF g B W fb)) : PE X (.Compare a [o] [b] pos) (tF g B W (eCmp o fa fb)) :=
  ⟨fun pins s σ H Q I ⟨ρ, c, st, h⟩ => (pe_cmpR (op_cmpM (g := g) (B := B) o hu) ha hb hm).run pins s σ H Q I (two st h)⟩
theorem rp_true {H : Hp} {v : V} {d : D} {k : Bool} (r : Rp g B H v d) (h : isTrueD d = some k) : v = .bl k := by
  cases d <;> try (cases h; done)
  cases r; cases h; rfl
theorem t_cmp {o : CmpOp} (hu : X.A.units + 65 < cLine) (hm : behindInMarks o b = false) (ha : PE X a (tF g B W fa)) (hb : PE X b (tF g B W fb)) : PT X (.Compare a [o] [b] pos) (tT g B W fun ρ => bd (eCmp o fa fb ρ) fun x => ofO (isTrueD x)) := by
  refine ⟨fun pins s σ H Q I ⟨ρ, c, st, h⟩ => (pt_cmpR (op_cmpM (g := g) (B := B) o hu) ha hb hm).run pins s σ H Q I ?_⟩
  refine two (Q := fun x H' => ∃ k, x = .bl k ∧ Q k H') st ((Post.bd (R1 := RD g B) h).mono fun v H1 ⟨x, c1, r1, a1, h1⟩ => ?_)
  obtain ⟨k, e, q⟩ := post_ofO h1
  exact ⟨k, rp_true r1 e, q _ _ ⟨Per.refl, a1.cup, a1.tabs, fun _ z => z⟩ rfl⟩
theorem chain_post {fc : Ev} {σ : L2.St} {H : Hp} {ρ : En} {c : Cp} {Q : VK} {o o' : CmpOp} (st : StOK g B ρ c σ H) (h : Post g W σ H (RD g B) (eChain o o' fa fb fc ρ c) Q) :
    tChain (rD g B (cmpD o)) (rD g B (cmpD o')) (tF g B W fa) (tF g B W fb) (tF g B W fc) σ H Q := by
  refine post_of st (Post.bd (R1 := RD g B) h) fun v H1 ⟨x, c1, r1, a1, h1⟩ => ?_
  refine post_of (st.after a1) (Post.bd (R1 := RD g B) h1) fun w H2 ⟨y, c2, r2, a2, h2⟩ => ?_
  cases e : (cmpD o x y).bind isTrueD with
  | none => rw [e] at h2; exact h2.elim
  | some k =>
    rw [e] at h2
    obtain ⟨z, ez, hk⟩ := Option.bind_eq_some_iff.mp e
    have st2 := (st.after a1).after a2
    refine ⟨x, y, z, c2, st2.h, r1.after a2 st.cb, r2, ez, fun u H3 a3 r3 => ⟨k, rp_true r3 hk, ?_⟩⟩
    have h3 : Post g W σ H2 (RD g B) ((if k = true then bd (fc ρ) fun z => ofO (cmpD o' y z) else rt (.bool false)) c2) Q := h2
    cases k with
    | false => simp only [Bool.false_eq_true, if_false] at h3 ⊢; exact h3 _ _ a3 (.bl _)
    | true =>
      simp only [if_true] at h3 ⊢
      refine post_of (st2.after a3) (Post.bd (R1 := RD g B) (h3.later a3)) fun w' H4 ⟨z', c4, r4, a4, h4⟩ => ?_
      obtain ⟨zz, e4, q4⟩ := post_ofO h4
      exact ⟨y, z', zz, c4, ((st2.after a3).after a4).h, (r2.after a3 st.cb).after a4 st.cb, r4, e4, q4⟩
theorem s_chain {fc : Ev} {o o' : CmpOp} (hu : X.A.units + 65 < cLine) (hm : lastMarks [o, o'] [b, c] = false) (ha : PE X a (tF g B W fa)) (hb : PE X b (tF g B W fb)) (hc : PE X c (tF g B W fc)) :
    PE X (.Compare a [o, o'] [b, c] pos) (tF g B W (eChain o o' fa fb fc)) :=
  ⟨fun pins s σ H Q I ⟨ρ, cc, st, h⟩ => (pe_chain (op_cmpM (g := g) (B := B) o hu) (op_cmpM (g := g) (B := B) o' hu) ha hb hc hm).run pins s σ H Q I (chain_post st h)⟩
theorem t_chain {fc : Ev} {o o' : CmpOp} (hu : X.A.units + 65 < cLine) (hm : lastMarks [o, o'] [b, c] = false) (ha : PE X a (tF g B W fa)) (hb : PE X b (tF g B W fb)) (hc : PE X c (tF g B W fc)) :
    PT X (.Compare a [o, o'] [b, c] pos) (tT g B W fun ρ => bd (eChain o o' fa fb fc ρ) fun x => ofO (isTrueD x)) := by
  refine ⟨fun pins s σ H Q I ⟨ρ, cc, st, h⟩ => (pt_chain (op_cmpM (g := g) (B := B) o hu) (op_cmpM (g := g) (B := B) o' hu) ha hb hc hm).run pins s σ H Q I ?_⟩
  refine chain_post (Q := fun x H' => ∃ k, x = .bl k ∧ Q k H') st ((Post.bd (R1 := RD g B) h).mono fun v H1 ⟨x, c1, r1, a1, h1⟩ => ?_)
  obtain ⟨k, e, q⟩ := post_ofO h1
  exact ⟨k, rp_true r1 e, q _ _ ⟨Per.refl, a1.cup, a1.tabs, fun _ z => z⟩ rfl⟩
theorem tru_of {K : PySem.W.Frag} {H : Hp} {v : V} {d : D} {k : Bool} (r : Rp g B H v d) (h : truD d = some k) : TruV K v H k := by
  cases d <;> try (cases h; done)
  · cases r; cases h; rfl
  · cases r; cases h; rfl
  · cases r; cases h; rfl
  · obtain ⟨h1, h2⟩ := ite_some_eq h
    cases r; exact ⟨h1, h2.symm⟩
  · cases h
    cases r with
    | lst n e ra =>
      refine .inl ⟨_, SqL.of e, ?_⟩
      cases ra <;> rfl
  · cases h
    cases r with
    | tup n e ra =>
      refine .inr (.inl ⟨_, SqT.of e, ?_⟩)
      cases ra <;> rfl
theorem t_val (ha : PE X a (tF g B W fa)) (he : ∀ whole, isTrue a X.env whole = (do let v ← whole; standAt a.pos; holding [v] (truthy v))) : PT X a (tT g B W (tOf fa)) := by
  refine ⟨fun pins s σ H Q I ⟨ρ, c, st, h⟩ => (pt_truth ha he).run pins s σ H Q I ?_⟩
  refine post_of st (Post.bd (R1 := RD g B) h) fun v H1 ⟨x, c1, r1, a1, h1⟩ => ?_
  obtain ⟨k, e, q⟩ := post_ofO h1
  exact ⟨k, tru_of r1 e, q _ _ ⟨Per.refl, a1.cup, a1.tabs, fun _ z => z⟩ rfl⟩
theorem t_not {t : Tv} (ha : PT X a (tT g B W t)) : PT X (.UnaryOp .Not a pos) (tT g B W (tNo t)) := by
  refine ⟨fun pins s σ H Q I ⟨ρ, c, st, h⟩ => (pt_not ha).run pins s σ H Q I ?_⟩
  refine ⟨ρ, c, st, (Post.bd (R1 := RB) h).mono fun k H1 ⟨x, c1, r1, a1, h1⟩ => ?_⟩
  cases r1
  exact h1 _ _ ⟨Per.refl, a1.cup, a1.tabs, fun _ z => z⟩ rfl
theorem t_and {rest : List Expr} {t u : Tv} (ha : PT X a (tT g B W t)) (hb : PW X (.BoolOp .And (b :: rest) pos) (tT g B W u)) : PW X (.BoolOp .And (a :: b :: rest) pos) (tT g B W (tAn t u)) := by
  refine ⟨fun wh pins s σ H Q I ⟨ρ, c, st, h⟩ => (pw_and ha hb).run wh pins s σ H Q I ?_⟩
  refine ⟨ρ, c, st, (Post.bd (R1 := RB) h).mono fun k H1 ⟨x, c1, r1, a1, h1⟩ => ?_⟩
  cases r1
  have ar : After g H1 H1 c1 := ⟨Per.refl, a1.cup, a1.tabs, fun _ z => z⟩
  cases k with
  | true => simp only [if_true] at h1 ⊢; exact ⟨ρ, c1, st.after a1, h1⟩
  | false => simp only [Bool.false_eq_true, if_false] at h1 ⊢; exact h1 _ _ ar rfl
theorem t_or {rest : List Expr} {t u : Tv} (ha : PT X a (tT g B W t)) (hb : PW X (.BoolOp .Or (b :: rest) pos) (tT g B W u)) : PW X (.BoolOp .Or (a :: b :: rest) pos) (tT g B W (tOr' t u)) := by
  refine ⟨fun wh pins s σ H Q I ⟨ρ, c, st, h⟩ => (pw_or ha hb).run wh pins s σ H Q I ?_⟩
  refine ⟨ρ, c, st, (Post.bd (R1 := RB) h).mono fun k H1 ⟨x, c1, r1, a1, h1⟩ => ?_⟩
  cases r1
  have ar : After g H1 H1 c1 := ⟨Per.refl, a1.cup, a1.tabs, fun _ z => z⟩
  cases k with
  | true => simp only [if_true] at h1 ⊢; exact h1 _ _ ar rfl
  | false => simp only [Bool.false_eq_true, if_false] at h1 ⊢; exact ⟨ρ, c1, st.after a1, h1⟩
theorem s_not (ha : PE X a (tF g B W fa)) : PE X (.UnaryOp .Not a pos) (tF g B W (eNot fa)) := by
  refine ⟨fun pins s σ H Q I ⟨ρ, c, st, h⟩ => (pe_notT ha).run pins s σ H Q I ?_⟩
  refine post_of st (Post.bd (R1 := RD g B) h) fun v H1 ⟨x, c1, r1, a1, h1⟩ => ?_
  cases e : truD x with
  | none => rw [e] at h1; exact h1.elim
  | some k =>
    rw [e] at h1
    exact ⟨k, tru_of r1 e, h1 _ _ ⟨Per.refl, a1.cup, a1.tabs, fun _ z => z⟩ (.bl _)⟩
theorem s_neg (ha : PE X a (tF g B W fa)) : PE X (.UnaryOp .USub a pos) (tF g B W (eNeg fa)) := by
  refine ⟨fun pins s σ H Q I ⟨ρ, c, st, h⟩ => (pe_un un_neg ha).run pins s σ H Q I ?_⟩
  refine post_of st (Post.bd (R1 := RD g B) h) fun v H1 ⟨x, c1, r1, a1, h1⟩ => ?_
  cases x <;> try exact h1.elim
  cases r1
  exact ⟨_, rfl, h1 _ _ ⟨Per.refl, a1.cup, a1.tabs, fun _ z => z⟩ (.int _)⟩
theorem s_and {rest : List Expr} (ha : PE X a (tF g B W fa)) (hb : PE X (.BoolOp .And (b :: rest) pos) (tF g B W fb)) : PE X (.BoolOp .And (a :: b :: rest) pos) (tF g B W (eAnd fa fb)) := by
  refine ⟨fun pins s σ H Q I ⟨ρ, c, st, h⟩ => (pe_andT ha hb).run pins s σ H Q I ?_⟩
  refine post_of st (Post.bd (R1 := RD g B) h) fun v H1 ⟨x, c1, r1, a1, h1⟩ => ?_
  cases e : truD x with
  | none => rw [e] at h1; exact h1.elim
  | some k =>
    rw [e] at h1
    refine ⟨k, tru_of r1 e, ?_⟩
    have h2 : Post g W σ H1 (RD g B) ((if k = true then fb ρ else rt x) c1) Q := h1
    cases k with
    | true => simp only [if_true] at h2 ⊢; exact ⟨ρ, c1, st.after a1, h2⟩
    | false => simp only [Bool.false_eq_true, if_false] at h2 ⊢; exact h2 _ _ ⟨Per.refl, a1.cup, a1.tabs, fun _ z => z⟩ r1
theorem s_or {rest : List Expr} (ha : PE X a (tF g B W fa)) (hb : PE X (.BoolOp .Or (b :: rest) pos) (tF g B W fb)) : PE X (.BoolOp .Or (a :: b :: rest) pos) (tF g B W (eOr fa fb)) := by
  refine ⟨fun pins s σ H Q I ⟨ρ, c, st, h⟩ => (pe_orT ha hb).run pins s σ H Q I ?_⟩
  refine post_of st (Post.bd (R1 := RD g B) h) fun v H1 ⟨x, c1, r1, a1, h1⟩ => ?_
  cases e : truD x with
  | none => rw [e] at h1; exact h1.elim
  | some k =>
    rw [e] at h1
    refine ⟨k, tru_of r1 e, ?_⟩
    have h2 : Post g W σ H1 (RD g B) ((if k = true then rt x else fb ρ) c1) Q := h1
    cases k with
    | true => simp only [if_true] at h2 ⊢; exact h2 _ _ ⟨Per.refl, a1.cup, a1.tabs, fun _ z => z⟩ r1
    | false => simp only [Bool.false_eq_true, if_false] at h2 ⊢; exact ⟨ρ, c1, st.after a1, h2⟩
theorem s_ite {t : Tv} (ht : PT X c (tT g B W t)) (ha : PE X a (tF g B W fa)) (hb : PE X b (tF g B W fb)) : PE X (.IfExp c a b pos) (tF g B W (eIte t fa fb)) := by
  refine ⟨fun pins s σ H Q I ⟨ρ, cc, st, h⟩ => (pe_ifExp ht ha hb).run pins s σ H Q I ?_⟩
  refine ⟨ρ, cc, st, (Post.bd (R1 := RB) h).mono fun k H1 ⟨x, c1, r1, a1, h1⟩ => ?_⟩
  cases r1
  cases k with
  | true => simp only [if_true] at h1 ⊢; exact ⟨ρ, c1, st.after a1, h1⟩
  | false => simp only [Bool.false_eq_true, if_false] at h1 ⊢; exact ⟨ρ, c1, st.after a1, h1⟩
theorem a_nil : PA X [] (tA g B W aNil) := ⟨fun pos pins s σ H Q I ⟨ρ, c, st, h⟩ => pa_nil.run pos pins s σ H Q I (h _ _ st.refl .nil)⟩
theorem a_cons {es : List Expr} {r : Av} (ha : PE X a (tF g B W fa)) (hr : PA X es (tA g B W r)) (hs : starEach (a :: es) X.env = (false, eval a X.env) :: starEach es X.env) : PA X (a :: es) (tA g B W (aCons fa r)) := by
  refine ⟨fun pos pins s σ H Q I ⟨ρ, c, st, h⟩ => (pa_cons ha hr hs).run pos pins s σ H Q I ?_⟩
  refine post_of st (Post.bd (R1 := RD g B) h) fun v H1 ⟨x, c1, r1, a1, h1⟩ => ?_
  refine ⟨ρ, c1, st.after a1, (Post.bd (R1 := RDs g B) h1).mono fun vs H2 ⟨xs, c2, r2, a2, h2⟩ => ?_⟩
  exact h2 _ _ ⟨Per.refl, a2.cup, a2.tabs, fun _ z => z⟩ (.cons (r1.after a2 st.cb) r2)
theorem post_if2 {α β : Type} {σ : L2.St} {H : Hp} {R : Hp → β → α → Prop} {p : Prop} [Decidable p] {m m' : M α} {c : Cp} {Q : β → Hp → Prop} (h : Post g W σ H R ((if p then m else m') c) Q) : (p ∧ Post g W σ H R (m c) Q) ∨ (¬ p ∧ Post g W σ H R (m' c) Q) := by
  by_cases z : p
  · rw [if_pos z] at h; exact .inl ⟨z, h⟩
  · rw [if_neg z] at h; exact .inr ⟨z, h⟩
theorem s_tup {es : List Expr} {r : Av} {k : Nat} (h : PA X es (tA g B W r)) : PE X (.Tuple es k pos) (tF g B W (eTup r)) := by
  refine ⟨fun pins s σ H Q I ⟨ρ, c, st, hh⟩ => (pe_tup h).run pins s σ H Q I ?_⟩
  refine ⟨ρ, c, st, (Post.bd (R1 := RDs g B) hh).mono fun vs H1 ⟨xs, c1, r1, a1, h1⟩ => ?_⟩
  obtain ⟨z, h2⟩ := post_if h1
  exact ⟨by rw [r1.length]; exact z, fun p hp => h2 _ _ ((st.after a1).new hp) ((st.after a1).h.newTup hp r1)⟩
theorem s_lst {es : List Expr} {r : Av} (h : PA X es (tA g B W r)) : PE X (.List es pos) (tF g B W (eLst r)) := by
  refine ⟨fun pins s σ H Q I ⟨ρ, c, st, hh⟩ => (pe_lst h).run pins s σ H Q I ?_⟩
  refine ⟨ρ, c, st, (Post.bd (R1 := RDs g B) hh).mono fun vs H1 ⟨xs, c1, r1, a1, h1⟩ => ?_⟩
  obtain ⟨z, h2⟩ := post_if h1
  exact ⟨by rw [r1.length]; exact z, fun p hp => h2 _ _ ((st.after a1).new hp) ((st.after a1).h.newList hp r1)⟩
end
end Mi

namespace Mi
open PySem PySem.Spec PyProof.Rows L2
section
variable {X : Cx} {g : G} {B : Addr → Prop} {W : WX} {a b c : Expr} {fa fb fc : Ev} {pos : Pos}
theorem RpA.atI {H : Hp} {xs : List V} {ds : List D} {i : Int} {d : D} (r : RpA g B H xs ds) (h : L2.atI ds i = some d) : ∃ v, L2.atI xs i = some v ∧ Rp g B H v d := by
  unfold L2.atI at h ⊢
  rw [r.length]
  cases e : ixN ds.length i with
  | none => rw [e] at h; cases h
  | some j =>
    rw [e] at h
    exact r.get h
def PlainB : Expr → Bool
  | .Slice _ _ none _ => false
  | _ => true
theorem plainIx_of (h : PlainB b = true) : PlainIx b := fun o i => by
  cases b <;> first
    | rfl
    | (rename_i lo hi st p
       cases st with
       | none => cases h
       | some s => rfl)
theorem ix_str_some {z : Str} {i : Int} {d : D} (h : ixD (.str z) (.int i) = some d) : z.length ≤ sizeLine ∧ ∃ k, L2.atI z.cps.toList i = some k ∧ d = .str ⟨#[k]⟩ := by
  have h' : (if z.length ≤ sizeLine then (L2.atI z.cps.toList i).map fun c => (PyData.str ⟨#[c]⟩) else none) = some d := h
  by_cases hl : z.length ≤ sizeLine
  · rw [if_pos hl] at h'
    obtain ⟨k, ek, e⟩ := Option.map_eq_some_iff.mp h'
    exact ⟨hl, k, ek, e.symm⟩
  · rw [if_neg hl] at h'; cases h'
theorem s_ix (hp : PlainB b = true) (ha : PE X a (tF g B W fa)) (hb : PE X b (tF g B W fb)) : PE X (.Subscript a b pos) (tF g B W (eIx fa fb)) := by
  refine ⟨fun pins s σ H Q I ⟨ρ, c, st, h⟩ => (pe_ix (X := X) ix_seq ha hb (plainIx_of hp)).run pins s σ H Q I ?_⟩
  refine post_of st (Post.bd (R1 := RD g B) h) fun v H1 ⟨x, c1, r1, a1, h1⟩ => ?_
  refine post_of (st.after a1) (Post.bd (R1 := RD g B) h1) fun w H2 ⟨y, c2, r2, a2, h2⟩ => ?_
  obtain ⟨z, e, q⟩ := post_ofO h2
  have ar : After g H2 H2 c2 := ⟨Per.refl, a2.cup, a2.tabs, fun _ z => z⟩
  have r1 := r1.after a2 st.cb
  cases x <;> try (cases e; done)
  · cases y <;> try (cases e; done)
    obtain ⟨hl, k, ek, rfl⟩ := ix_str_some e
    cases r1; cases r2
    exact .inr (.inr ⟨_, _, k, rfl, rfl, hl, ek, q _ _ ar (.str _)⟩)
  · cases y <;> try (cases e; done)
    cases r2
    cases r1 with
    | lst n e1 ra =>
      obtain ⟨u, hu, ru⟩ := ra.atI e
      exact .inl ⟨_, _, _, u, rfl, rfl, SqL.of e1, hu, q _ _ ar ru⟩
  · cases y <;> try (cases e; done)
    cases r2
    cases r1 with
    | tup n e1 ra =>
      obtain ⟨u, hu, ru⟩ := ra.atI e
      exact .inr (.inl ⟨_, _, _, u, rfl, rfl, SqT.of e1, hu, q _ _ ar ru⟩)
theorem po_no : PO X none (fun σ H Q => ∃ ρ c, StOK g B ρ c σ H ∧ Post g W σ H (fun _ (o o' : Option Int) => o = o') (oNo ρ c) Q) :=
  ⟨fun pins s σ H Q I ⟨ρ, c, st, h⟩ => po_none.run pins s σ H Q I (h _ _ st.refl rfl)⟩
abbrev tO (g : G) (B : Addr → Prop) (W : WX) (f : Ov) : TO := fun σ H Q => ∃ ρ c, StOK g B ρ c σ H ∧ Post g W σ H (fun _ (o o' : Option Int) => o = o') (f ρ c) Q
theorem po_so (ha : PE X a (tF g B W fa)) : PO X (some a) (tO g B W (oSo fa)) := by
  refine ⟨fun pins s σ H Q I ⟨ρ, c, st, h⟩ => (po_some ha).run pins s σ H Q I ?_⟩
  refine post_of st (Post.bd (R1 := RD g B) h) fun v H1 ⟨x, c1, r1, a1, h1⟩ => ?_
  cases x <;> try exact h1.elim
  cases r1
  exact ⟨_, rfl, h1 _ _ ⟨Per.refl, a1.cup, a1.tabs, fun _ z => z⟩ rfl⟩
theorem RpA.cut {H : Hp} {xs : List V} {ds : List D} (r : RpA g B H xs ds) (lo hi : Option Int) : RpA g B H (cutV xs lo hi) (cutL ds lo hi) := by
  unfold cutV cutL
  rw [r.length]
  exact (r.drop _).take _
theorem whole_cut {α : Type} (xs : List α) (lo hi : Option Int) (h : HT.sIx xs.length 0 lo = 0 ∧ HT.sIx xs.length xs.length hi = xs.length) : cutL xs lo hi = xs := by
  unfold cutL
  rw [h.1, h.2, List.drop_zero, Nat.sub_zero, List.take_length]
theorem s_sl {lo hi : Option Expr} {fl fh : Ov} {p2 : Pos} (ha : PE X a (tF g B W fa)) (hl : PO X lo (tO g B W fl)) (hh : PO X hi (tO g B W fh)) : PE X (.Subscript a (.Slice lo hi none p2) pos) (tF g B W (eSl fa fl fh)) := by
  refine ⟨fun pins s σ H Q I ⟨ρ, c, st, h⟩ => (pe_slice (SlR.or sl_list sl_tupA) ha hl hh).run pins s σ H Q I ?_⟩
  refine post_of st (Post.bd (R1 := RD g B) h) fun v H1 ⟨x, c1, r1, a1, h1⟩ => ?_
  refine ⟨ρ, c1, st.after a1, (Post.bd (R1 := fun _ (o o' : Option Int) => o = o') h1).mono fun l H2 ⟨lo', c2, r2, a2, h2⟩ => ?_⟩
  subst r2
  have st2 := (st.after a1).after a2
  refine ⟨ρ, c2, st2, (Post.bd (R1 := fun _ (o o' : Option Int) => o = o') h2).mono fun l H3 ⟨hi', c3, r3, a3, h3⟩ => ?_⟩
  subst r3
  have st3 := st2.after a3
  obtain ⟨z, e, q⟩ := post_ofO h3
  have r := (r1.after a2 st.cb).after a3 st.cb
  cases x <;> try (cases e; done)
  · cases e
    cases r with
    | lst n e1 ra => exact .inl ⟨_, _, rfl, SqL.of e1, fun p hp => q _ _ (st3.new hp) (st3.h.newList hp (ra.cut _ _))⟩
  · cases e
    cases r with
    | tup n e1 ra =>
      refine .inr ⟨_, _, rfl, SqT.of e1, fun w => ?_, fun _ p hp => q _ _ (st3.new hp) (st3.h.newTup hp (ra.cut _ _))⟩
      rw [ra.length] at w
      rw [whole_cut _ _ _ w] at q
      exact q _ _ ⟨Per.refl, a3.cup, a3.tabs, fun _ z => z⟩ (.tup n e1 ra)
theorem s_rev {k : Nat} {p1 p2 p3 : Pos} (ha : PE X a (tF g B W fa)) : PE X (.Subscript a (.Slice none none (some (.UnaryOp .USub (.Constant (.int 1) k p1) p2)) p3) pos) (tF g B W (eRev fa)) := by
  refine ⟨fun pins s σ H Q I ⟨ρ, c, st, h⟩ => (pe_revL ha).run pins s σ H Q I ?_⟩
  refine post_of st (Post.bd (R1 := RD g B) h) fun v H1 ⟨x, c1, r1, a1, h1⟩ => ?_
  cases x <;> try exact h1.elim
  cases r1 with
  | lst n e1 ra => exact ⟨_, _, rfl, SqL.of e1, fun p hp => h1 _ _ ((st.after a1).new hp) ((st.after a1).h.newList hp ra.reverse)⟩

/-! built-ins by values -/
def rDs (g : G) (B : Addr → Prop) (o : List D → Option D) : List V → Hp → VK → Prop := fun vs H Q => ∃ ds d c, StH g B c H ∧ RpA g B H vs ds ∧ o ds = some d ∧ ∀ z H', After g H H' c → Rp g B H' z d → Q z H'
theorem CallR.of {f : Value} {r r' : List V → Hp → VK → Prop} (h : CallR X f r) (i : ∀ x H Q, r' x H Q → r x H Q) : CallR X f r' := fun pins s σ H x u Q I rx q => h pins s σ H x u Q I rx (i x H Q q)
def lenB : List D → Option D
  | [.list ds] => some (.int ds.length)
  | [.tuple ds] => some (.int ds.length)
  | [.str z] => if z.length ≤ sizeLine then some (.int z.length) else none
  | _ => none
def tupleB : List D → Option D
  | [.list ds] => some (.tuple ds)
  | [.tuple ds] => some (.tuple ds)
  | _ => none
def listB : List D → Option D
  | [.list ds] => some (.list ds)
  | [.tuple ds] => some (.list ds)
  | _ => none
def bools : List D → Option (List Bool)
  | [] => some []
  | .bool b :: ds => (bools ds).map (b :: ·)
  | _ :: _ => none
def anyB : List D → Option D
  | [.list ds] => (bools ds).map fun bs => .bool (bs.any id)
  | _ => none
def allB : List D → Option D
  | [.list ds] => (bools ds).map fun bs => .bool (bs.all id)
  | _ => none
theorem RpA.bools {H : Hp} : ∀ {ds : List D} {xs : List V} {bs : List Bool}, RpA g B H xs ds → Mi.bools ds = some bs → xs = bs.map V.bl
  | [], _, bs, r, h => by cases r; cases h; rfl
  | d :: ds, _, bs, r, h => by
    cases r with
    | cons r1 r2 =>
      cases d <;> try (cases h; done)
      obtain ⟨b', e, rfl⟩ := Option.map_eq_some_iff.mp (show (Mi.bools ds).map _ = some bs from h)
      cases r1
      rw [RpA.bools r2 e] <;> rfl
theorem RpA.one {H : Hp} {vs : List V} {d : D} (r : RpA g B H vs [d]) : ∃ v, vs = [v] ∧ Rp g B H v d := by
  cases r with
  | cons r1 r2 => cases r2; exact ⟨_, rfl, r1⟩
theorem one_arg {α : Type} {o : List D → Option α} {ds : List D} {d : α} (h : o ds = some d) (h0 : o [] = none) (h2 : ∀ x y r, o (x :: y :: r) = none) : ∃ x, ds = [x] := by
  match ds, h with
  | [], h => rw [h0] at h; cases h
  | [x], _ => exact ⟨x, rfl⟩
  | x :: y :: r, h => rw [h2] at h; cases h
theorem b_len : CallR X (.builtin "len") (rDs g B lenB) := by
  refine CallR.of (CallR.or call_len_seq call_len_str) fun xs H Q h => ?_
  obtain ⟨ds, d, c, st, r, e, q⟩ := h
  obtain ⟨x, rfl⟩ := one_arg e rfl (fun x y r => by cases x <;> rfl)
  obtain ⟨v, rfl, r1⟩ := r.one
  cases x <;> try (cases e; done)
  · obtain ⟨hl, e⟩ := ite_some_eq e
    cases r1; cases e
    exact .inr ⟨_, rfl, hl, q _ _ st.refl (.int _)⟩
  · cases e
    cases r1 with
    | lst n e1 ra => exact .inl ⟨_, _, rfl, .inl (SqL.of e1), q _ _ st.refl (by rw [ra.length]; exact .int _)⟩
  · cases e
    cases r1 with
    | tup n e1 ra => exact .inl ⟨_, _, rfl, .inr (SqT.of e1), q _ _ st.refl (by rw [ra.length]; exact .int _)⟩
theorem b_tuple : CallR X (.type "tuple") (rDs g B tupleB) := by
  refine CallR.of call_tuple_of fun xs H Q h => ?_
  obtain ⟨ds, d, c, st, r, e, q⟩ := h
  obtain ⟨x, rfl⟩ := one_arg e rfl (fun x y r => by cases x <;> rfl)
  obtain ⟨v, rfl, r1⟩ := r.one
  cases x <;> try (cases e; done)
  · cases e
    cases r1 with
    | lst n e1 ra => exact ⟨_, _, rfl, .inl ⟨SqL.of e1, fun p hp => q _ _ (st.new hp) (st.newTup hp ra)⟩⟩
  · cases e
    cases r1 with
    | tup n e1 ra => exact ⟨_, _, rfl, .inr ⟨SqT.of e1, q _ _ st.refl (.tup n e1 ra)⟩⟩
theorem b_list : CallR X (.type "list") (rDs g B listB) := by
  refine CallR.of call_list_of fun xs H Q h => ?_
  obtain ⟨ds, d, c, st, r, e, q⟩ := h
  obtain ⟨x, rfl⟩ := one_arg e rfl (fun x y r => by cases x <;> rfl)
  obtain ⟨v, rfl, r1⟩ := r.one
  cases x <;> try (cases e; done)
  · cases e
    cases r1 with
    | lst n e1 ra => exact ⟨_, _, rfl, .inl (SqL.of e1), fun p hp => q _ _ (st.new hp) (st.newList hp ra)⟩
  · cases e
    cases r1 with
    | tup n e1 ra => exact ⟨_, _, rfl, .inr (SqT.of e1), fun p hp => q _ _ (st.new hp) (st.newList hp ra)⟩
theorem b_any (hc : X.calm = true) : CallR X (.builtin "any") (rDs g B anyB) := by
  refine CallR.of (cr_any hc) fun xs H Q h => ?_
  obtain ⟨ds, d, c, st, r, e, q⟩ := h
  obtain ⟨x, rfl⟩ := one_arg e rfl (fun x y r => by cases x <;> rfl)
  obtain ⟨v, rfl, r1⟩ := r.one
  cases x <;> try (cases e; done)
  cases r1 with
  | lst n e1 ra =>
    obtain ⟨bs, eb, rfl⟩ := Option.map_eq_some_iff.mp e
    rw [ra.bools eb] at e1
    exact ⟨_, bs, rfl, SqL.of e1, q _ _ st.refl (.bl _)⟩
theorem b_all (hc : X.calm = true) : CallR X (.builtin "all") (rDs g B allB) := by
  refine CallR.of (cr_all hc) fun xs H Q h => ?_
  obtain ⟨ds, d, c, st, r, e, q⟩ := h
  obtain ⟨x, rfl⟩ := one_arg e rfl (fun x y r => by cases x <;> rfl)
  obtain ⟨v, rfl, r1⟩ := r.one
  cases x <;> try (cases e; done)
  cases r1 with
  | lst n e1 ra =>
    obtain ⟨bs, eb, rfl⟩ := Option.map_eq_some_iff.mp e
    rw [ra.bools eb] at e1
    exact ⟨_, bs, rfl, SqL.of e1, q _ _ st.refl (.bl _)⟩
theorem cb_post {o : List D → Option D} {f : Av} {σ : L2.St} {H : Hp} {ρ : En} {c : Cp} {Q : VK} (st : StOK g B ρ c σ H) (h : Post g W σ H (RD g B) (eBi o f ρ c) Q) : tCB (rDs g B o) (tA g B W f) σ H Q := by
  refine ⟨ρ, c, st, (Post.bd (R1 := RDs g B) h).mono fun vs H1 ⟨xs, c1, r1, a1, h1⟩ => ?_⟩
  obtain ⟨z, e, q⟩ := post_ofO h1
  exact ⟨xs, z, c1, (st.after a1).h, r1, e, q⟩
theorem s_biB {x : Str} {id : String} {o : List D → Option D} {es : List Expr} {f : Av} {p : Pos} (hc : CallR X (.builtin id) (rDs g B o)) (hg : Gl X x) (hm : X.mg x = none) (hv : bootBuiltins x = some (.builtin id)) (ha : PA X (a :: es) (tA g B W f))
    (hn : x ≠ "__name__") (hdb : (x == ("__debug__" : Str)) = false) (he : starEach (a :: es) X.env = (false, eval a X.env) :: starEach es X.env) (hpl : (backTo pos (starEach es X.env)).any (·.1) = false) : PE X (.Call (.Name x p) (a :: es) [] pos) (tF g B W (eBi o f)) :=
  ⟨fun pins s σ H Q I ⟨ρ, c, st, h⟩ => (pe_callB hc hg hm hv ha hn hdb he hpl).run pins s σ H Q I (cb_post st h)⟩
theorem s_biT {x : Str} {T : String} {o : List D → Option D} {es : List Expr} {f : Av} {p : Pos} (hc : CallR X (.type T) (rDs g B o)) (hg : Gl X x) (hm : X.mg x = none) (hv : bootBuiltins x = some (.type T)) (ha : PA X (a :: es) (tA g B W f))
    (hn : x ≠ "__name__") (hdb : (x == ("__debug__" : Str)) = false) (he : starEach (a :: es) X.env = (false, eval a X.env) :: starEach es X.env) (hpl : (backTo pos (starEach es X.env)).any (·.1) = false) : PE X (.Call (.Name x p) (a :: es) [] pos) (tF g B W (eBi o f)) :=
  ⟨fun pins s σ H Q I ⟨ρ, c, st, h⟩ => (pe_callTy hc hg hm hv ha hn hdb he hpl).run pins s σ H Q I (cb_post st h)⟩
end
end Mi

namespace Mi
open PySem PySem.Spec PyProof.Rows L2
/-! isinstance with a built-in type -/
def kindOfD : D → Option String
  | .none => some "NoneType"
  | .bool _ => some "bool"
  | .int _ => some "int"
  | .str _ => some "str"
  | .list _ => some "list"
  | .tuple _ => some "tuple"
  | .dict _ => none
def isaB (T : String) (d : D) : Option D := (kindOfD d).bind fun k => if k = T then some (.bool true) else if k = "bool" ∧ T = "int" then some (.bool true) else some (.bool false)
def eIsa (T : String) (f : Ev) : Ev := fun ρ => bd (f ρ) fun x => ofO (isaB T x)
def isaTypes : List String := ["int", "bool", "str", "tuple", "list"]
theorem kit_all : ∀ k ∈ ["NoneType", "bool", "int", "str", "list", "tuple"], ∀ T ∈ isaTypes, kitB k T = some (if k = T then true else if k = "bool" ∧ T = "int" then true else false) := by decide +kernel
section
variable {X : Cx} {g : G} {B : Addr → Prop} {W : WX} {a b c : Expr} {fa fb fc : Ev} {pos : Pos}
theorem Rp.tyX {K : PySem.W.Frag} {H : Hp} {v : V} {d : D} {k : String} (r : Rp g B H v d) (h : kindOfD d = some k) : TyX K H v (.type k) ∧ k ∈ ["NoneType", "bool", "int", "str", "list", "tuple"] := by
  cases d <;> cases h
  · cases r; exact ⟨.base .non, by decide⟩
  · cases r; exact ⟨.base (.bl _), by decide⟩
  · cases r; exact ⟨.base (.int _), by decide⟩
  · cases r; exact ⟨.base (.str _), by decide⟩
  · cases r with
    | lst n e ra => exact ⟨.base (.lst e), by decide⟩
  · cases r with
    | tup n e ra => exact ⟨.base (.tup e), by decide⟩
theorem isaB_some {K : PySem.W.Frag} {H : Hp} {v : V} {T : String} {d z : D} (hT : T ∈ isaTypes) (r : Rp g B H v d) (h : isaB T d = some z) : ∃ k b, TyX K H v (.type k) ∧ PySem.W.kitOne K (.type k) (.type T) = some b ∧ z = .bool b := by
  obtain ⟨k, hk, h2⟩ := Option.bind_eq_some_iff.mp h
  obtain ⟨t1, t2⟩ := r.tyX (K := K) hk
  refine ⟨k, _, t1, kit_ty (kit_all k t2 T hT), ?_⟩
  by_cases c1 : k = T
  · rw [if_pos c1] at h2 ⊢; cases h2; rfl
  · rw [if_neg c1] at h2 ⊢
    by_cases c2 : k = "bool" ∧ T = "int"
    · rw [if_pos c2] at h2 ⊢; cases h2; rfl
    · rw [if_neg c2] at h2 ⊢; cases h2; rfl
theorem s_isa {T : String} {x : Str} {p p2 : Pos} (hT : T ∈ isaTypes) (hg : Gl X "isinstance") (hm : X.mg "isinstance" = none) (hgT : Gl X x) (hmT : X.mg x = none) (hvT : bootBuiltins x = some (.type T)) (ha : PE X a (tF g B W fa))
    (hn : x ≠ "__name__") (hdb : (x == ("__debug__" : Str)) = false)
    (he : starEach [a, .Name x p2] X.env = (false, eval a X.env) :: starEach [.Name x p2] X.env) : PE X (.Call (.Name "isinstance" p) [a, .Name x p2] [] pos) (tF g B W (eIsa T fa)) := by
  have hx : PE X (.Name x p2) (tC (.ty T)) := pe_bltn hgT hmT hvT rfl hn hdb
  refine ⟨fun pins s σ H Q I ⟨ρ, c, st, h⟩ => (pe_callB call_isi hg hm (by decide +kernel) (pa_cons ha (pa_cons hx pa_nil) he) (by decide) (by decide) he rfl).run pins s σ H Q I ?_⟩
  refine post_of st (Post.bd (R1 := RD g B) h) fun v H1 ⟨y, c1, r1, a1, h1⟩ => ?_
  obtain ⟨z, e, q⟩ := post_ofO h1
  obtain ⟨k, b, t1, t2, rfl⟩ := isaB_some (K := X.K) hT r1 e
  exact ⟨v, .ty T, .type k, .type T, b, rfl, .ty T, t1, t2, q _ _ ⟨Per.refl, a1.cup, a1.tabs, fun _ z => z⟩ (.bl _)⟩

/-! a def's promise, by a function of its arguments -/
def spF (mg : Str → Option Value) (TT : List (Addr × Str)) (m : Nat) (F : List D → M D) : Sp := fun vs H Q E => vs.length = m ∧ ∃ (ca : Option Addr) (B : Addr → Prop) (ds : List D) (c : Cp),
  StH ⟨mg, ca, TT⟩ B c H ∧ RpA ⟨mg, ca, TT⟩ B H vs ds ∧ Post ⟨mg, ca, TT⟩ (fun cls d _ H' => E cls d H') [] H (RD ⟨mg, ca, TT⟩ B) (F ds c) Q
structure FnH (mg : Str → Option Value) (TT : List (Addr × Str)) (k : Nat) (P : Program) (w : World) (K : PySem.W.Frag) (base : Heap) (x : Str) (m : Nat) (F : List D → M D) : Prop where
  ex : ∃ f fd ps, mg x = some (.ref f) ∧ PySem.W.keepIn K (.ref f) = true ∧ Binds K fd ps [] ∧ FnOk P w K mg base (L2N.CX P w) k f fd ps (spF mg TT m F)
theorem Post.weak {W W' : WX} {σ σ' : L2.St} {H : Hp} {α β : Type} {R : Hp → β → α → Prop} {r : Re α} {Q : β → Hp → Prop} (hw : ∀ C H', W (.ref C) none σ H' → W' (.ref C) none σ' H') (h : Post g W σ H R r Q) : Post g W' σ' H R r Q := by
  cases r with
  | ok a c => exact h
  | err e c => exact fun C H' x y => hw C H' (h C H' x y)
  | stuck => exact h
theorem sp_post {m : Nat} {F : List D → M D} {f : Av} {σ : L2.St} {H : Hp} {ρ : En} {c : Cp} {Q : VK} (st : StOK g B ρ c σ H) (h : Post g W σ H (RD g B) (eCall m F f ρ c) Q) :
    tA g B W f σ H (fun vs H1 => spF g.mg g.TT m F vs H1 Q (L2.WE W σ)) := by
  refine ⟨ρ, c, st, (Post.bd (R1 := RDs g B) h).mono fun vs H1 ⟨xs, c1, r1, a1, h1⟩ => ?_⟩
  obtain ⟨hl, h2⟩ := post_if h1
  exact ⟨by rw [r1.length]; exact hl, g.ca, B, xs, c1, (st.after a1).h, r1, h2.weak fun C H' x => x⟩
variable {k : Nat}
theorem s_callG {x : Str} {m : Nat} {F : List D → M D} {es : List Expr} {f : Av} {p : Pos} (hF : FnH g.mg g.TT k X.prog X.w X.K X.base x m F) (hmg : X.mg = g.mg) (hr : Room k X.A) (tk : L2N.Takes X W) (hg : Gl X x) (ha : PA X (a :: es) (tA g B W f))
    (hdb : (x == ("__debug__" : Str)) = false) (he : starEach (a :: es) X.env = (false, eval a X.env) :: starEach es X.env) (hpl : (backTo pos (starEach es X.env)).any (·.1) = false) : PE X (.Call (.Name x p) (a :: es) [] pos) (tF g B W (eCall m F f)) := by
  obtain ⟨fa', fd, ps, h1, h2, h3, h4⟩ := hF.ex
  rw [← hmg] at h1 h4
  refine ⟨fun pins s σ H Q I ⟨ρ, c, st, h⟩ => (pe_callS h4 hr hg h1 h2 h3 (fun σ => L2N.passAt tk σ) ha hdb he hpl).run pins s σ H Q I ?_⟩
  have z := sp_post (Q := Q) st h
  rw [← hmg] at z
  exact z
theorem s_callG0 {x : Str} {m : Nat} {F : List D → M D} {p : Pos} (hF : FnH g.mg g.TT k X.prog X.w X.K X.base x m F) (hmg : X.mg = g.mg) (hr : Room k X.A) (tk : L2N.Takes X W) (hg : Gl X x)
    (hdb : (x == ("__debug__" : Str)) = false) : PE X (.Call (.Name x p) [] [] pos) (tF g B W (eCall m F aNil)) := by
  obtain ⟨fa', fd, ps, h1, h2, h3, h4⟩ := hF.ex
  rw [← hmg] at h1 h4
  refine ⟨fun pins s σ H Q I ⟨ρ, c, st, h⟩ => wpAny_Call_Name_kw (ld_glob I hg h1 (PySem.W.callWith_K0 I.kIn h2 ?_) hdb)⟩
  obtain ⟨hl, h2'⟩ := post_if (show Post g W σ H (RD g B) ((if ([] : List D).length = m then F [] else no) c) Q from h)
  refine run_fnS (vs := []) (us := []) (E := fun σ => L2.WE W σ) h4 hr h3 (L2N.passAt tk σ) I .nil ?_
  rw [hmg]
  exact ⟨hl, g.ca, B, [], c, st.h, .nil, h2'.weak fun C H' x => x⟩
/-- a slot that holds a def -/
def slFn : Option Sl → Option Str
  | some (.d (.dict [(.str x, .none)])) => some x
  | _ => none
theorem slFn_some {o : Option Sl} {x : Str} (h : slFn o = some x) : o = some (.d (dFn x)) := by
  unfold slFn at h
  split at h
  · cases h; rfl
  · cases h
def eCallV (fns : Str → Option (Nat × (List D → M D))) (i : Nat) (f : Av) : Ev := fun ρ => match (slFn ρ[i]?).bind fns with
  | some p => eCall p.1 p.2 f ρ
  | none => no
theorem s_callV {fns : Str → Option (Nat × (List D → M D))} {i : Nat} {x : Str} {es : List Expr} {f : Av} {p : Pos} (hF : ∀ y m F, fns y = some (m, F) → FnH g.mg g.TT k X.prog X.w X.K X.base y m F) (hmg : X.mg = g.mg) (hr : Room k X.A) (tk : L2N.Takes X W)
    (hN : X.N[i]? = some x) (hv : Vis X.env.scope x) (ha : PA X (a :: es) (tA g B W f)) (hd : (x == ("__debug__" : Str)) = false) (hcd : (x == ("__classdict__" : Str)) = false)
    (he : starEach (a :: es) X.env = (false, eval a X.env) :: starEach es X.env) (hpl : (backTo pos (starEach es X.env)).any (·.1) = false) : PE X (.Call (.Name x p) (a :: es) [] pos) (tF g B W (eCallV fns i f)) := by
  refine ⟨fun pins s σ H Q I ⟨ρ, c, st, h⟩ => ?_⟩
  have h' : Post g W σ H (RD g B) ((match (slFn ρ[i]?).bind fns with | some p => eCall p.1 p.2 f ρ | none => no : M D) c) Q := h
  cases ef : (slFn ρ[i]?).bind fns with
  | none => rw [ef] at h'; exact h'.elim
  | some pF =>
    rw [ef] at h'
    have h := h'
    obtain ⟨m, F⟩ := pF
    obtain ⟨y, ey, eF⟩ := Option.bind_eq_some_iff.mp ef
    have e := slFn_some ey
    · obtain ⟨v, h1, h2⟩ := st.env i _ e
      cases h2 with
      | fn hy =>
        rename_i af
        obtain ⟨fa', fd, ps, k1, k2, k3, k4⟩ := (hF _ _ _ eF).ex
        rw [hy] at k1
        cases k1
        rw [← hmg] at k4
        refine wpAny_Call_Name_kw (thn ((pe_var (pos := p) hN hv hd hcd).run pins s σ H (fun v H1 => v = .ref af ∧ H1 = H) I ⟨.ref af, h1, rfl, rfl⟩) fun u s1 ⟨v, H1, I1, r1, q1⟩ => ?_)
        obtain ⟨rfl, rfl⟩ := q1
        cases r1
        refine PySem.W.callWith_K (h₀ := X.base) I.ok.mod.kin k2 (thn (ha.run pos pins s1 σ _ _ I1 (sp_post (Q := Q) st h)) fun us s2 ⟨vs, H2, I2, r, q⟩ => ⟨I2.kIn, ?_⟩) he hpl
        refine run_fnS (E := fun σ => L2.WE W σ) k4 hr k3 (L2N.passAt tk σ) I2 r ?_
        rw [hmg]
        exact q
end
end Mi

namespace Mi
open PySem PySem.Spec PyProof.Rows L2
open AutoSeq1 (wpAny_loadPart')
/-! enumerate over a tuple -/
theorem enum_newT (l : Addr) (items : Array Value) (n : Nat) (dct : Option Addr) (sl : Array (Option Value)) :
    Meets (Builtin.«enumerate.__new__» ⟨[.type "enumerate", .ref l], []⟩) (fun _ R s => s.heap.get? l = some { cls := .type "tuple", dict := dct, data := .seq items n, slots := sl } ∧
      R (.ok (.ret (.ref (s.heap.push { cls := .type "tuple_iterator", data := .fields #[.ref l, .int 0 0] }).objs.size)))
        { s with heap := (s.heap.push { cls := .type "tuple_iterator", data := .fields #[.ref l, .int 0 0] }).push { cls := .type "enumerate", data := .fields #[.none, .bool false, .ref s.heap.objs.size, rawInt 0, .none, .none] } }) :=
  .of_wp fun prog w A R s h => by
    obtain ⟨hp, g, d, tk, os⟩ := s; obtain ⟨hl, h⟩ := h
    have hsub := sub_enumerate
    have hL : Heap.IsTuple (Shared.heap ⟨hp, g, d, tk, os⟩) l items := ⟨_, hl, rfl, n, rfl⟩
    wp_walk using wpAny_loadPart' hl
    refine wpAny_stack_any fun st => wpAny_pure ?_
    split
    · rename_i c _ _ _ _ _
      cases (c == Value.type "enumerate")
      · wp_walk using wpAny_loadPart' hl, wpAny_pyIter_tuple hL
        exact ⟨_, rfl, h⟩
      · wp_walk using wpAny_loadPart' hl, wpAny_pyIter_tuple hL
        exact ⟨_, rfl, h⟩
    · wp_walk using wpAny_loadPart' hl, wpAny_pyIter_tuple hL
      exact ⟨_, rfl, h⟩
section
variable {prog : Program} {w : World} {A : Around} {E : Value → Shared → Prop} {s : Shared}
theorem call_enumT {l : Addr} {items : Array Value} {Q : Value → Shared → Prop} (hL : s.heap.IsTuple l items)
    (h : ∀ h', IsEnum h' (s.heap.objs.size + 1) s.heap.objs.size 0 .none → h'.IsTupleIter s.heap.objs.size l 0 → h'.objs.size = s.heap.objs.size + 2 →
      (∀ b o, s.heap.get? b = some o → h'.get? b = some o) → Q (.ref (s.heap.objs.size + 1)) { s with heap := h' }) :
    wpAny (model prog w) A (call (.type "enumerate") [.ref l]) Q E s := by
  obtain ⟨⟨c, dct, dt, sl⟩, hl, hc, n, hd⟩ := hL
  replace hc : c = .type "tuple" := hc
  replace hd : dt = .seq items n := hd
  subst hc hd
  refine callType_new F.called_enumerate (by decide) (F.typeCall_enumerate_1 _) (F.newCall_enumerate_1 _) (fun obj => F.args_object_init_2 obj _) F.entry_enumerate_new
    (enum_newT l items n dct sl) ⟨hl, ?_⟩
  have hz : (s.heap.push { cls := .type "tuple_iterator", data := .fields #[.ref l, .int 0 0] }).objs.size = s.heap.objs.size + 1 := Heap.size_push ..
  show _ ∧ _
  rw [hz]
  have he : IsEnum ((s.heap.push { cls := .type "tuple_iterator", data := .fields #[.ref l, .int 0 0] }).push
      { cls := .type "enumerate", data := .fields #[.none, .bool false, .ref s.heap.objs.size, rawInt 0, .none, .none] }) (s.heap.objs.size + 1) s.heap.objs.size 0 .none := by
    have := Heap.get?_push_size (s.heap.push { cls := .type "tuple_iterator", data := .fields #[.ref l, .int 0 0] })
      (o := { cls := .type "enumerate", data := .fields #[.none, .bool false, .ref s.heap.objs.size, rawInt 0, .none, .none] }) rfl
    rw [hz] at this; exact this
  refine ⟨⟨_, he, rfl⟩, h _ he ⟨_, Heap.get?_push_of_some _ (Heap.get?_push_size _ rfl), rfl, rfl⟩ (by rw [Heap.size_push, hz]) fun b o x => Heap.get?_push_of_some _ (Heap.get?_push_of_some _ x)⟩
end
/-- the tuple at a, each item in a new pair -/
def IteT (K : PySem.W.Frag) (a : Addr) : It :=
  ⟨fun i H => ∃ (xs : List V) (x : V), SqT K H a xs ∧ xs[i]? = some x, fun i H v H' => ∃ T x, v = .ref T ∧ H T = none ∧ H' = upd H T (.tup [.int (i : Nat), x]) ∧ ∀ xs, SqT K H a xs → xs[i]? = some x, fun i H => ∃ xs : List V, SqT K H a xs ∧ xs.length ≤ i⟩
theorem turn_enumT {P : Program} {w : World} {K : PySem.W.Frag} {elts : List Expr} {kk : Nat} {tpos : Pos} (a e it : Addr) :
    Turn P w K (.Tuple elts kk tpos) (IteT K a) [e, it] e (fun i h => (∃ old, IsEnum h e it ((i : Nat) : Int) old) ∧ h.IsTupleIter it a i ∧ e ≠ it ∧ e ≠ a ∧ a ≠ it) where
  mem := by simp
  obj := fun i h st b hb => by
    obtain ⟨⟨old, he⟩, ⟨o, ho, hc, hd⟩, _⟩ := st
    have e' : b = e ∨ b = it := by simpa using hb
    rcases e' with z | z
    · rw [z]; exact ⟨_, he, fun v q => nomatch q⟩
    · rw [z]; exact ⟨o, ho, fun v q => by rw [hd] at q; cases q⟩
  keep := fun i h h' st k => let ⟨⟨old, he⟩, hi, hne⟩ := st; ⟨⟨old, k e (by simp) _ he⟩, hi.at fun o q => k it (by simp) o q, hne⟩
  item := by
    intro X hP hw hK hc i pins s σ H E I hf st hg
    subst hP hw hK
    obtain ⟨⟨old, he⟩, hit, hne, hea, hai⟩ := st
    obtain ⟨xs, x, hq, hx⟩ := hg
    obtain ⟨its, rv, p, hz⟩ := I.tuple hq
    obtain ⟨u, hu, ru⟩ := rv.get hx
    have hel : e < s.heap.objs.size := Heap.lt_size he
    have hil : it < s.heap.objs.size := by obtain ⟨_, q, _⟩ := hit; exact Heap.lt_size q
    have hh : X.A.in1.handled = none := by have := I.ok.hd hc; simpa using this
    have hlt : i < its.toArray.size := by
      have := (List.getElem?_eq_some_iff.mp hu).1
      simpa using this
    refine wpAny_pyNext_enum_itemD (Draws.tuple hh it a hai its.toArray) he ⟨hit, p⟩ hlt hne (by simp [hne, hea]) fun y h' tk hy ho hst hT hsz hk => ?_
    have ey : y = u := by
      have q1 : its[i]? = some y := by simpa using hy
      rw [hu] at q1; exact (Option.some.inj q1).symm
    subst ey
    refine ⟨_, rfl, wpAny_letOwnedTupleGo_enum (s := { s with heap := h', toks := tk + 1 }) ho fun h'' he' sb => ?_⟩
    have hT2 : h''.get? s.heap.objs.size = some { cls := .type "tuple", data := .seq #[.int i tk, y] } := (sb.2 _ (Nat.ne_of_gt hel)).trans hT
    have new : ObjOk X.prog X.w (upd H s.heap.objs.size (.tup [.int (i : Nat), x])) h'' s.heap.objs.size (.tup [.int (i : Nat), x]) :=
      ⟨by show 2 ≤ sizeLine; decide, [.int i tk, y], .cons ⟨_, rfl⟩ (.cons ru .nil), ⟨_, hT2, rfl, _, rfl⟩⟩
    have I1 : Inv X pins σ (upd H s.heap.objs.size (.tup [.int (i : Nat), x])) { s with heap := h'', toks := tk + 1 } :=
      I.turnedNew (t' := tk + 1) (ch := [e, it]) (fun b ob hb q => (sb.2 b (fun z => hb (by simp [z]))).trans (hk b ob (fun z => hb (by simp [z])) (fun z => hb (by simp [z])) q)) hf (Nat.le_refl _) new
    refine ⟨.ref s.heap.objs.size, _, I1, rfl, ⟨_, x, rfl, I.hok.fresh (Nat.le_refl _), rfl, fun ys hy => by rw [I.tuple_inj hy hq]; exact hx⟩, ⟨⟨y, ?_⟩, hst.1.at fun o q => (sb.2 it (Ne.symm hne)).trans q, hne, hea, hai⟩, fun b hb => ?_⟩
    · have e1 : ((i + 1 : Nat) : Int) = (i : Int) + 1 := by omega
      rw [e1]; exact he'
    · have hb' : b < s.heap.objs.size := by
        have e' : b = e ∨ b = it := by simpa using hb
        rcases e' with z | z
        · rw [z]; exact hel
        · rw [z]; exact hil
      rw [upd_ne (Nat.ne_of_lt hb')]
      exact (hf b hb).1
  done := by
    intro X hP hw hK hc i pins s σ H E I hf st hg
    subst hP hw hK
    obtain ⟨⟨old, he⟩, hit, hne, hea, hai⟩ := st
    obtain ⟨xs, hq, hx⟩ := hg
    obtain ⟨its, rv, p, hz⟩ := I.tuple hq
    obtain ⟨f0, f1, f2, f3, f4, f5⟩ := hf it (by simp)
    have hl := rv.length
    have hh : X.A.in1.handled = none := by have := I.ok.hd hc; simpa using this
    refine wpAny_pyNext_enum_endD (A := X.A) (n := i) (fp := [it, a]) (P := fun _ _ => False) (St := fun j h => j = i ∧ h.IsTupleIter it a i ∧ h.IsTuple a its.toArray)
      { live := fun j h st => let ⟨o, ho, _⟩ := st.2.1; ⟨o, ho⟩
        frame := fun j h h' st hk => ⟨st.1, st.2.1.at fun o e => hk it (by simp) o e, st.2.2.at fun o e => hk a (by simp) o e⟩
        item := fun j s Q E hj st => absurd st.1 (Nat.ne_of_lt hj)
        done := fun s Q E st hE => wpAny_nextOf_tuple_end hh st.2.1 st.2.2 (by simp; omega) hE } he ⟨rfl, hit, p⟩ fun h' eb => ⟨rfl, I.turned (t' := s.toks) (fun b o hb q => eb b o hb q) f0 f1 f3 f4 f5⟩
  self := fun A i s Q E st h => let ⟨⟨_, he⟩, _⟩ := st; wpAny_pyIter_enum he h
def iEnumA (K : PySem.W.Frag) (ta : TA) : TI := fun σ H R => ta σ H fun vs H1 => ∃ a, vs = [.ref a] ∧ ((∃ xs, SqL K H1 a xs ∧ R (Ite K a) H1) ∨ ∃ xs, SqT K H1 a xs ∧ R (IteT K a) H1)
theorem pi_enumA {X : Cx} {e : Expr} {ta : TA} {p pos tpos : Pos} {elts : List Expr} {kk : Nat} (hg : Gl X "enumerate") (hm : X.mg "enumerate" = none) (ha : PA X [e] ta) (hs : starEach [e] X.env = [(false, eval e X.env)]) :
    PI X (.Tuple elts kk tpos) (.Call (.Name "enumerate" p) [e] [] pos) (iEnumA X.K ta) := by
  refine ⟨fun pins s σ H R I h => ?_⟩
  refine Call_ (ld_blt I hg hm boot_enumerate (PyProof.Rows.callWith_type1 (thn (ha.run pos pins s σ H _ I h) fun us s1 ⟨vs, H1, I1, r1, q1⟩ => ?_) hs rfl))
  obtain ⟨a, ex, q1⟩ := q1
  subst ex
  cases r1 with
  | cons r rr =>
    cases rr
    cases r
    have fpo : ∀ b ∈ [s1.heap.objs.size + 1, s1.heap.objs.size], s1.heap.objs.size ≤ b := fun b hb => by
      have e' : b = s1.heap.objs.size + 1 ∨ b = s1.heap.objs.size := by simpa using hb
      rcases e' with z | z
      · rw [z]; exact Nat.le_add_right _ _
      · rw [z]; exact Nat.le_refl _
    rcases q1 with ⟨xs, hq, q⟩ | ⟨xs, hq, q⟩
    · obtain ⟨its, rv, p', hz⟩ := I1.list hq
      refine call_enumerate_list p'.isList fun h' he hit hsz hk => wpAny_pyIter_enum he ?_
      have I2 : Inv X pins σ H1 { s1 with heap := h' } := I1.kept (t' := s1.toks) hk
      exact ⟨s1.heap.objs.size + 1, [s1.heap.objs.size + 1, s1.heap.objs.size], _, _, H1, rfl, I2, turn_enum a (s1.heap.objs.size + 1) s1.heap.objs.size, ⟨⟨.none, he⟩, hit, Nat.succ_ne_self _⟩, fun b hb => I1.fpOk (fpo b hb) (I1.hok.fresh (fpo b hb)), q⟩
    · obtain ⟨its, rv, p', hz⟩ := I1.tuple hq
      have hal : a < s1.heap.objs.size := by obtain ⟨_, q, _⟩ := id p'; exact Heap.lt_size q
      refine call_enumT p' fun h' he hit hsz hk => wpAny_pyIter_enum he ?_
      have I2 : Inv X pins σ H1 { s1 with heap := h' } := I1.kept (t' := s1.toks) hk
      exact ⟨s1.heap.objs.size + 1, [s1.heap.objs.size + 1, s1.heap.objs.size], _, _, H1, rfl, I2, turn_enumT a (s1.heap.objs.size + 1) s1.heap.objs.size, ⟨⟨.none, he⟩, hit, Nat.succ_ne_self _, Nat.ne_of_gt (Nat.lt_succ_of_lt hal), Nat.ne_of_lt hal⟩, fun b hb => I1.fpOk (fpo b hb) (I1.hok.fresh (fpo b hb)), q⟩
end Mi

namespace Mi
open PySem PySem.Spec PyProof.Rows L2
/-! what a for or a store sets -/
inductive Tg where
  | nm (i : Nat)
  | tp (is : List Nat)
def Tg.slots : Tg → List Nat
  | .nm i => [i]
  | .tp is => is
def setAll (ρ : En) : List Nat → List D → En
  | i :: is, x :: xs => setAll (ρ.set i (.d x)) is xs
  | _, _ => ρ
def bindT (t : Tg) (x : D) (ρ : En) : Option En := match t with
  | .nm i => some (ρ.set i (.d x))
  | .tp is => match x with
    | .tuple xs => if xs.length = is.length then some (setAll ρ is xs) else none
    | _ => none
def gNames : List Nat → TGs
  | [] => gNil
  | i :: is => gCons (gName i) (gNames is)
def gT (K : PySem.W.Frag) : Tg → TG
  | .nm i => gName i
  | .tp is => gTup K is.length (gNames is)
/-- σ' is σ but for these slots -/
def Sets (is : List Nat) (σ σ' : L2.St) : Prop := σ'.length = σ.length ∧ ∀ j, j ∉ is → σ'[j]? = σ[j]?
theorem Sets.refl {is : List Nat} {σ : L2.St} : Sets is σ σ := ⟨rfl, fun _ _ => rfl⟩
theorem Sets.one {is : List Nat} {σ : L2.St} {i : Nat} {o : Option V} (h : i ∈ is) : Sets is σ (σ.set i o) := ⟨List.length_set, fun j hj => List.getElem?_set_ne (fun e => hj (by rw [← e]; exact h))⟩
theorem Sets.trans {is : List Nat} {σ σ1 σ2 : L2.St} (a : Sets is σ σ1) (b : Sets is σ1 σ2) : Sets is σ σ2 := ⟨b.1.trans a.1, fun j hj => (b.2 j hj).trans (a.2 j hj)⟩
theorem Sets.mono {is js : List Nat} {σ σ' : L2.St} (a : Sets is σ σ') (h : ∀ i ∈ is, i ∈ js) : Sets js σ σ' := ⟨a.1, fun j hj => a.2 j fun z => hj (h j z)⟩
section
variable {X : Cx} {g : G} {B B' : Addr → Prop} {W : WX} {ρ : En} {c : Cp} {σ : L2.St} {H : Hp}
theorem StOK.set (s : StOK g B ρ c σ H) {i : Nat} {v : V} {x : D} (r : Rp g B H v x) : StOK g B (ρ.set i (.d x)) c (σ.set i (some v)) H where
  len := by rw [List.length_set, List.length_set]; exact s.len
  env := fun j sl e => by
    by_cases h : i = j
    · subst h
      by_cases hl : i < ρ.length
      · rw [List.getElem?_set_self hl] at e
        cases e
        rw [List.getElem?_set_self (by rw [← s.len]; exact hl)]
        exact ⟨v, rfl, r⟩
      · rw [List.getElem?_eq_none (by rw [List.length_set]; omega)] at e; cases e
    · rw [List.getElem?_set_ne h] at e ⊢
      exact s.env j sl e
  cup := s.cup
  tabs := s.tabs
  dom := s.dom
  cb := s.cb
theorem names_ok : ∀ {is : List Nat} {xs : List V} {ds : List D} {ρ : En} {σ : L2.St} {K2 : L2.St → Hp → Prop}, StOK g B ρ c σ H → RpA g B H xs ds → ds.length = is.length →
    (∀ σ', StOK g B (setAll ρ is ds) c σ' H → Sets is σ σ' → K2 σ' H) → gNames is xs σ H K2
  | [], xs, ds, ρ, σ, K2, s, r, hl, k => by
    cases ds with
    | nil => cases r; exact ⟨rfl, k σ s Sets.refl⟩
    | cons d ds => cases hl
  | i :: is, xs, [], ρ, σ, K2, s, r, hl, k => by cases hl
  | i :: is, xs, d :: ds, ρ, σ, K2, s, r, hl, k => by
    cases r with
    | cons r1 r2 =>
      refine ⟨_, _, rfl, names_ok (s.set r1) r2 (Nat.succ.inj hl) fun σ' s' h' => k σ' s' ?_⟩
      exact (Sets.one (List.mem_cons_self ..)).trans (h'.mono fun j hj => List.mem_cons_of_mem _ hj)
theorem gT_ok {K : PySem.W.Frag} {t : Tg} {x : V} {d : D} {ρ' : En} {K2 : L2.St → Hp → Prop} (s : StOK g B ρ c σ H) (r : Rp g B H x d) (h : bindT t d ρ = some ρ') (k : ∀ σ', StOK g B ρ' c σ' H → Sets t.slots σ σ' → K2 σ' H) : gT K t x σ H K2 := by
  cases t with
  | nm i => cases h; exact k _ (s.set r) (Sets.one (List.mem_cons_self ..))
  | tp is =>
    cases d <;> try (cases h; done)
    obtain ⟨hl, e⟩ := ite_some_eq (show (if _ = is.length then some (setAll ρ is _) else none) = some ρ' from h)
    subst e
    cases r with
    | tup n e ra => exact ⟨_, _, rfl, SqT.of e, by rw [ra.length]; exact hl, names_ok s ra hl k⟩

/-! what a for walks over -/
abbrev Iv := En → M (List D)
/-- from H0 on: the i-th turn yields the i-th of ds -/
def Yl (g : G) (B : Addr → Prop) (J : It) (ds : List D) (H0 : Hp) : Prop := ∀ (B' : Addr → Prop) (i : Nat) (H : Hp) (c : Cp), (∀ a o, H0 a = some o → ¬ B a → (∀ ps, o ≠ .tbl ps) → H a = some o ∧ ¬ B' a) → StH g B' c H →
  (∀ d, ds[i]? = some d → J.go i H ∧ ∀ x H', J.yld i H x H' → After g H H' c ∧ Rp g B' H' x d) ∧ (ds[i]? = none → J.stop i H)
def tI (g : G) (B : Addr → Prop) (W : WX) (f : Iv) : TI := fun σ H R => ∃ ρ c, StOK g B ρ c σ H ∧ Post g W σ H (fun H' J ds => Yl g B J ds H') (f ρ c) R
theorem seq_inj {K : PySem.W.Frag} {a : Addr} {xs : List V} (h : H a = some (.lst xs)) : SqL K H a xs := SqL.of h
theorem yl_list {K : PySem.W.Frag} {a : Addr} {xs : List V} {ds : List D} (nb : ¬ B a) (e : H a = some (.lst xs)) (r : RpA g B H xs ds) : Yl g B (Itl K a) ds H := fun B' i H' c hp st => by
  have e' := (hp a _ e nb (fun ps z => by cases z)).1
  have r' : RpA g B' H' xs ds := r.re hp
  refine ⟨fun d hd => ?_, fun hd => ⟨xs, SqL.of e', by rw [r.length]; exact List.getElem?_eq_none_iff.mp hd⟩⟩
  obtain ⟨v, hv, rv⟩ := r'.get hd
  refine ⟨⟨xs, v, SqL.of e', hv⟩, fun x H2 ⟨h1, h2⟩ => ?_⟩
  subst h1
  have := h2 xs (SqL.of e')
  rw [hv] at this
  cases this
  exact ⟨st.refl, rv⟩
theorem yl_tup {K : PySem.W.Frag} {a : Addr} {xs : List V} {ds : List D} (nb : ¬ B a) (e : H a = some (.tup xs)) (r : RpA g B H xs ds) : Yl g B (Itt K a) ds H := fun B' i H' c hp st => by
  have e' := (hp a _ e nb (fun ps z => by cases z)).1
  have r' : RpA g B' H' xs ds := r.re hp
  refine ⟨fun d hd => ?_, fun hd => ⟨xs, SqT.of e', by rw [r.length]; exact List.getElem?_eq_none_iff.mp hd⟩⟩
  obtain ⟨v, hv, rv⟩ := r'.get hd
  refine ⟨⟨xs, v, SqT.of e', hv⟩, fun x H2 ⟨h1, h2⟩ => ?_⟩
  subst h1
  have := h2 xs (SqT.of e')
  rw [hv] at this
  cases this
  exact ⟨st.refl, rv⟩
def rangeD (lo : Int) (n : Nat) : List D := (List.range n).map fun i => .int (lo + (i : Nat))
theorem range_get (lo : Int) (n i : Nat) : (rangeD lo n)[i]? = if i < n then some (.int (lo + (i : Nat))) else none := by
  unfold rangeD
  rw [List.getElem?_map]
  by_cases h : i < n
  · rw [if_pos h, List.getElem?_range h]; rfl
  · rw [if_neg h, List.getElem?_eq_none (by rw [List.length_range]; omega)]; rfl
theorem yl_range {lo : Int} {n : Nat} : Yl g B (Itr lo n) (rangeD lo n) H := fun B' i H' c hp st => by
  rw [range_get]
  by_cases h : i < n
  · rw [if_pos h]
    refine ⟨fun d hd => ⟨h, fun x H2 hh => ?_⟩, fun z => by cases z⟩
    obtain ⟨h1, h2⟩ := hh
    cases hd
    subst h1; subst h2
    exact ⟨st.refl, .int _⟩
  · rw [if_neg h]
    exact ⟨fun d hd => (by cases hd), fun _ => Nat.le_of_not_lt h⟩
def zipD : List D → List D → List D
  | x :: xs, y :: ys => .tuple [x, y] :: zipD xs ys
  | _, _ => []
theorem zip_get : ∀ (xs ys : List D) (i : Nat), (zipD xs ys)[i]? = match xs[i]?, ys[i]? with | some x, some y => some (.tuple [x, y]) | _, _ => none
  | [], ys, i => by simp [zipD]
  | x :: xs, [], i => by
    simp only [zipD, List.getElem?_nil]
    cases (x :: xs)[i]? <;> rfl
  | x :: xs, y :: ys, 0 => rfl
  | x :: xs, y :: ys, i + 1 => by
    simp only [zipD, List.getElem?_cons_succ]
    exact zip_get xs ys i
theorem pair_new {B' : Addr → Prop} {T : Addr} {x y : V} {dx dy : D} (st : StH g B' c H) (hT : H T = none) (rx : Rp g B' H x dx) (ry : Rp g B' H y dy) : After g H (upd H T (.tup [x, y])) c ∧ Rp g B' (upd H T (.tup [x, y])) (.ref T) (.tuple [dx, dy]) :=
  ⟨st.new hT, st.newTup hT (.cons rx (.cons ry .nil))⟩
theorem yl_zipL {K : PySem.W.Frag} {a b : Addr} {xs ys : List V} {ds es : List D} (na : ¬ B a) (ea : H a = some (.lst xs)) (ra : RpA g B H xs ds) (nb : ¬ B b) (eb : H b = some (.lst ys)) (rb : RpA g B H ys es) : Yl g B (Itz K a b) (zipD ds es) H := fun B' i H' c hp st => by
  have ea' := (hp a _ ea na (fun ps z => by cases z)).1
  have eb' := (hp b _ eb nb (fun ps z => by cases z)).1
  have ra' : RpA g B' H' xs ds := ra.re hp
  have rb' : RpA g B' H' ys es := rb.re hp
  rw [zip_get]
  refine ⟨fun d hd => ?_, fun hd => ⟨xs, ys, SqL.of ea', SqL.of eb', ?_⟩⟩
  · cases e1 : ds[i]? with
    | none => rw [e1] at hd; cases hd
    | some dx =>
      cases e2 : es[i]? with
      | none => rw [e1, e2] at hd; cases hd
      | some dy =>
        rw [e1, e2] at hd; cases hd
        obtain ⟨vx, hx, rx⟩ := ra'.get e1
        obtain ⟨vy, hy, ry⟩ := rb'.get e2
        refine ⟨⟨xs, ys, vx, vy, SqL.of ea', SqL.of eb', hx, hy⟩, fun x H2 ⟨T, x', y', h1, h2, h3, h4, h5⟩ => ?_⟩
        have q1 := h4 xs (SqL.of ea')
        have q2 := h5 ys (SqL.of eb')
        rw [hx] at q1; rw [hy] at q2
        cases q1; cases q2
        subst h1; subst h3
        exact pair_new st h2 rx ry
  · cases e1 : ds[i]? with
    | none => exact .inl (by rw [ra.length]; exact List.getElem?_eq_none_iff.mp e1)
    | some dx =>
      cases e2 : es[i]? with
      | none => exact .inr (by rw [rb.length]; exact List.getElem?_eq_none_iff.mp e2)
      | some dy => rw [e1, e2] at hd; cases hd
theorem yl_zipT {K : PySem.W.Frag} {a b : Addr} {xs ys : List V} {ds es : List D} (na : ¬ B a) (ea : H a = some (.tup xs)) (ra : RpA g B H xs ds) (nb : ¬ B b) (eb : H b = some (.tup ys)) (rb : RpA g B H ys es) : Yl g B (RZ.ItzT K a b) (zipD ds es) H := fun B' i H' c hp st => by
  have ea' := (hp a _ ea na (fun ps z => by cases z)).1
  have eb' := (hp b _ eb nb (fun ps z => by cases z)).1
  have ra' : RpA g B' H' xs ds := ra.re hp
  have rb' : RpA g B' H' ys es := rb.re hp
  rw [zip_get]
  refine ⟨fun d hd => ?_, fun hd => ⟨xs, ys, SqT.of ea', SqT.of eb', ?_⟩⟩
  · cases e1 : ds[i]? with
    | none => rw [e1] at hd; cases hd
    | some dx =>
      cases e2 : es[i]? with
      | none => rw [e1, e2] at hd; cases hd
      | some dy =>
        rw [e1, e2] at hd; cases hd
        obtain ⟨vx, hx, rx⟩ := ra'.get e1
        obtain ⟨vy, hy, ry⟩ := rb'.get e2
        refine ⟨⟨xs, ys, vx, vy, SqT.of ea', SqT.of eb', hx, hy⟩, fun x H2 ⟨T, x', y', h1, h2, h3, h4, h5⟩ => ?_⟩
        have q1 := h4 xs (SqT.of ea')
        have q2 := h5 ys (SqT.of eb')
        rw [hx] at q1; rw [hy] at q2
        cases q1; cases q2
        subst h1; subst h3
        exact pair_new st h2 rx ry
  · cases e1 : ds[i]? with
    | none => exact .inl (by rw [ra.length]; exact List.getElem?_eq_none_iff.mp e1)
    | some dx =>
      cases e2 : es[i]? with
      | none => exact .inr (by rw [rb.length]; exact List.getElem?_eq_none_iff.mp e2)
      | some dy => rw [e1, e2] at hd; cases hd
def enumD (k : Nat) : List D → List D
  | x :: xs => .tuple [.int (k : Nat), x] :: enumD (k + 1) xs
  | [] => []
theorem enum_get : ∀ (xs : List D) (k i : Nat), (enumD k xs)[i]? = xs[i]?.map fun x => .tuple [.int ((k + i : Nat) : Int), x]
  | [], k, i => by simp [enumD]
  | x :: xs, k, 0 => rfl
  | x :: xs, k, i + 1 => by
    simp only [enumD, List.getElem?_cons_succ]
    rw [enum_get xs (k + 1) i, show k + 1 + i = k + (i + 1) by omega]
theorem yl_enum {K : PySem.W.Frag} {a : Addr} {xs : List V} {ds : List D} (na : ¬ B a) (ea : H a = some (.lst xs)) (ra : RpA g B H xs ds) : Yl g B (Ite K a) (enumD 0 ds) H := fun B' i H' c hp st => by
  have ea' := (hp a _ ea na (fun ps z => by cases z)).1
  have ra' : RpA g B' H' xs ds := ra.re hp
  rw [enum_get, Nat.zero_add]
  refine ⟨fun d hd => ?_, fun hd => ⟨xs, SqL.of ea', ?_⟩⟩
  · obtain ⟨dx, e1, rfl⟩ := Option.map_eq_some_iff.mp hd
    obtain ⟨vx, hx, rx⟩ := ra'.get e1
    refine ⟨⟨xs, vx, SqL.of ea', hx⟩, fun x H2 ⟨T, x', h1, h2, h3, h4⟩ => ?_⟩
    have q1 := h4 xs (SqL.of ea')
    rw [hx] at q1
    cases q1
    subst h1; subst h3
    exact pair_new st h2 (.int _) rx
  · rw [ra.length]
    exact List.getElem?_eq_none_iff.mp (Option.map_eq_none_iff.mp hd)
theorem yl_enumT {K : PySem.W.Frag} {a : Addr} {xs : List V} {ds : List D} (na : ¬ B a) (ea : H a = some (.tup xs)) (ra : RpA g B H xs ds) : Yl g B (IteT K a) (enumD 0 ds) H := fun B' i H' c hp st => by
  have ea' := (hp a _ ea na (fun ps z => by cases z)).1
  have ra' : RpA g B' H' xs ds := ra.re hp
  rw [enum_get, Nat.zero_add]
  refine ⟨fun d hd => ?_, fun hd => ⟨xs, SqT.of ea', ?_⟩⟩
  · obtain ⟨dx, e1, rfl⟩ := Option.map_eq_some_iff.mp hd
    obtain ⟨vx, hx, rx⟩ := ra'.get e1
    refine ⟨⟨xs, vx, SqT.of ea', hx⟩, fun x H2 ⟨T, x', h1, h2, h3, h4⟩ => ?_⟩
    have q1 := h4 xs (SqT.of ea')
    rw [hx] at q1
    cases q1
    subst h1; subst h3
    exact pair_new st h2 (.int _) rx
  · rw [ra.length]
    exact List.getElem?_eq_none_iff.mp (Option.map_eq_none_iff.mp hd)
def iVal (f : Ev) : Iv := fun ρ => bd (f ρ) fun x => match x with
  | .list ds => rt ds
  | .tuple ds => rt ds
  | _ => no
def iR1 (a : Ev) : Iv := fun ρ => bd (a ρ) fun x => match x with
  | .int j => if -(2 ^ 62) ≤ j ∧ j < 2 ^ 62 then rt (rangeD 0 j.toNat) else no
  | _ => no
def iR2 (a b : Ev) : Iv := fun ρ => bd (a ρ) fun x => bd (b ρ) fun y => match x, y with
  | .int i, .int j => if -(2 ^ 62) ≤ i ∧ i < 2 ^ 62 ∧ -(2 ^ 62) ≤ j ∧ j < 2 ^ 62 then rt (rangeD i (j - i).toNat) else no
  | _, _ => no
def iZip (a b : Ev) : Iv := fun ρ => bd (a ρ) fun x => bd (b ρ) fun y => match x, y with
  | .list xs, .list ys => rt (zipD xs ys)
  | .tuple xs, .tuple ys => rt (zipD xs ys)
  | _, _ => no
def iEn (a : Ev) : Iv := fun ρ => bd (a ρ) fun x => match x with
  | .list xs => rt (enumD 0 xs)
  | .tuple xs => rt (enumD 0 xs)
  | _ => no
variable {a b : Expr} {fa fb : Ev} {pos p : Pos} {tg : Expr}
theorem PI.or {wi wi' : TI} {it : Expr} (h : PI X tg it wi) (h' : PI X tg it wi') : PI X tg it (fun σ H R => wi σ H R ∨ wi' σ H R) :=
  ⟨fun pins s σ H R I q => q.elim (h.run pins s σ H R I) (h'.run pins s σ H R I)⟩
theorem AfterR {H1 H2 : Hp} {c : Cp} (a : After g H1 H2 c) : After g H2 H2 c := ⟨Per.refl, a.cup, a.tabs, fun _ z => z⟩
theorem i_val {pos : Pos} (ha : PE X a (tF g B W fa)) : PI X tg a (tI g B W (iVal fa)) := by
  refine ⟨fun pins s σ H R I ⟨ρ, c, st, h⟩ => ?_⟩
  have h' : Post g W σ H (fun H' J ds => Yl g B J ds H') (bd (fa ρ) (fun x => match x with | .list ds => rt ds | .tuple ds => rt ds | _ => no) c) R := h
  unfold Mi.bd at h'
  cases e : fa ρ c with
  | stuck => rw [e] at h'; exact h'.elim
  | err er c1 =>
    rw [e] at h'
    exact (pi_list (X := X) (tg := tg) ha).run pins s σ H R I ⟨ρ, c, st, by rw [e]; exact h'⟩
  | ok x c1 =>
    rw [e] at h'
    cases x <;> try exact h'.elim
    · refine (pi_list (X := X) (tg := tg) ha).run pins s σ H R I ⟨ρ, c, st, ?_⟩
      rw [e]
      intro v H1 a1 r1
      cases r1 with
      | lst n e1 ra => exact ⟨_, rfl, ⟨_, SqL.of e1⟩, h' _ _ a1 (yl_list n e1 ra)⟩
    · refine (pi_tup (X := X) (tg := tg) ha).run pins s σ H R I ⟨ρ, c, st, ?_⟩
      rw [e]
      intro v H1 a1 r1
      cases r1 with
      | tup n e1 ra => exact ⟨_, rfl, ⟨_, SqT.of e1⟩, h' _ _ a1 (yl_tup n e1 ra)⟩
theorem a_one {c : Expr} {f : Ev} (hc : PE X c (tF g B W f)) (hs : starEach [c] X.env = (false, eval c X.env) :: starEach [] X.env) : PA X [c] (tCons (tF g B W f) tNil) := pa_cons hc pa_nil hs
theorem i_r1 {p pos : Pos} (hg : Gl X "range") (hm : X.mg "range" = none) (ha : PE X a (tF g B W fa)) (hs : starEach [a] X.env = (false, eval a X.env) :: starEach [] X.env) : PI X tg (.Call (.Name "range" p) [a] [] pos) (tI g B W (iR1 fa)) := by
  refine ⟨fun pins s σ H R I ⟨ρ, c, st, h⟩ => (pi_range1 hg hm (a_one ha hs) hs).run pins s σ H R I ?_⟩
  refine post_of st (Post.bd (R1 := RD g B) h) fun v H1 ⟨x, c1, r1, a1, h1⟩ => ?_
  cases x <;> try exact h1.elim
  cases r1
  obtain ⟨hj, h2⟩ := post_if h1
  exact ⟨_, rfl, hj.1, hj.2, h2 _ _ (AfterR a1) yl_range⟩
theorem i_r2 {p pos : Pos} (hg : Gl X "range") (hm : X.mg "range" = none) (ha : PE X a (tF g B W fa)) (hb : PE X b (tF g B W fb)) (hs : starEach [a, b] X.env = [(false, eval a X.env), (false, eval b X.env)]) (hs2 : starEach [b] X.env = [(false, eval b X.env)]) :
    PI X tg (.Call (.Name "range" p) [a, b] [] pos) (tI g B W (iR2 fa fb)) := by
  have hs1 : starEach [a, b] X.env = (false, eval a X.env) :: starEach [b] X.env := by rw [hs, hs2]
  refine ⟨fun pins s σ H R I ⟨ρ, c, st, h⟩ => (pi_range2 hg hm (pa_cons ha (pa_cons hb pa_nil hs2) hs1) hs hs2).run pins s σ H R I ?_⟩
  refine post_of st (Post.bd (R1 := RD g B) h) fun v H1 ⟨x, c1, r1, a1, h1⟩ => ?_
  refine post_of (st.after a1) (Post.bd (R1 := RD g B) h1) fun w H2 ⟨y, c2, r2, a2, h2⟩ => ?_
  cases x <;> try exact h2.elim
  cases y <;> try exact h2.elim
  cases r1; cases r2
  obtain ⟨hj, h3⟩ := post_if h2
  exact ⟨_, _, rfl, hj, h3 _ _ (AfterR a2) yl_range⟩
theorem i_zip {p pos tpos : Pos} {elts : List Expr} {kk : Nat} (hg : Gl X "zip") (hm : X.mg "zip" = none) (ha : PE X a (tF g B W fa)) (hb : PE X b (tF g B W fb)) (hs : starEach [a, b] X.env = (false, eval a X.env) :: starEach [b] X.env)
    (hs2 : starEach [b] X.env = (false, eval b X.env) :: starEach [] X.env) (hpl : (backTo pos (starEach [b] X.env)).any (·.1) = false) : PI X (.Tuple elts kk tpos) (.Call (.Name "zip" p) [a, b] [] pos) (tI g B W (iZip fa fb)) := by
  refine ⟨fun pins s σ H R I ⟨ρ, c, st, h⟩ => (RZ.pi_zipA hg hm (pa_cons ha (pa_cons hb pa_nil hs2) hs) hs hpl).run pins s σ H R I ?_⟩
  refine post_of st (Post.bd (R1 := RD g B) h) fun v H1 ⟨x, c1, r1, a1, h1⟩ => ?_
  refine post_of (st.after a1) (Post.bd (R1 := RD g B) h1) fun w H2 ⟨y, c2, r2, a2, h2⟩ => ?_
  have r1 := r1.after a2 st.cb
  cases x <;> try exact h2.elim
  · cases y <;> try exact h2.elim
    cases r1 with
    | lst n e ra => cases r2 with
      | lst n' e' ra' => exact ⟨_, _, _, _, rfl, .inl ⟨SqL.of e, SqL.of e', h2 _ _ (AfterR a2) (yl_zipL n e ra n' e' ra')⟩⟩
  · cases y <;> try exact h2.elim
    cases r1 with
    | tup n e ra => cases r2 with
      | tup n' e' ra' => exact ⟨_, _, _, _, rfl, .inr ⟨SqT.of e, SqT.of e', h2 _ _ (AfterR a2) (yl_zipT n e ra n' e' ra')⟩⟩
theorem i_en {p pos tpos : Pos} {elts : List Expr} {kk : Nat} (hg : Gl X "enumerate") (hm : X.mg "enumerate" = none) (ha : PE X a (tF g B W fa)) (hs : starEach [a] X.env = (false, eval a X.env) :: starEach [] X.env) :
    PI X (.Tuple elts kk tpos) (.Call (.Name "enumerate" p) [a] [] pos) (tI g B W (iEn fa)) := by
  refine ⟨fun pins s σ H R I ⟨ρ, c, st, h⟩ => (pi_enumA hg hm (a_one ha hs) hs).run pins s σ H R I ?_⟩
  refine post_of st (Post.bd (R1 := RD g B) h) fun v H1 ⟨x, c1, r1, a1, h1⟩ => ?_
  cases x <;> try exact h1.elim
  · cases r1 with
    | lst n e ra => exact ⟨_, rfl, .inl ⟨_, SqL.of e, h1 _ _ (AfterR a1) (yl_enum n e ra)⟩⟩
  · cases r1 with
    | tup n e ra => exact ⟨_, rfl, .inr ⟨_, SqT.of e, h1 _ _ (AfterR a1) (yl_enumT n e ra)⟩⟩
end
end Mi

namespace Mi
open PySem PySem.Spec PyProof.Rows L2
/-! list comprehensions -/
def wipeE (ρ : En) : List Nat → En
  | [] => ρ
  | v :: vs => (wipeE ρ vs).set v .no
def lcGo (step : D → M (List D)) : List D → M (List D)
  | [] => rt []
  | d :: ds => bd (step d) fun l => bd (lcGo step ds) fun r => rt (l ++ r)
def noErr {α : Type} (m : M α) : M α := fun c => match m c with
  | .ok a c' => .ok a c'
  | _ => .stuck
def step1 (ρ : En) (t : Tg) (cond : Tv) (elt : Ev) (d : D) : M (List D) := match bindT t d ρ with
  | none => no
  | some ρ' => bd (cond ρ') fun b => if b then bd (elt ρ') fun x => rt [x] else rt []
def step2 (ρ : En) (t : Tg) (cond : Tv) (vs1 : List Nat) (iv1 : Iv) (t1 : Tg) (cond1 : Tv) (elt : Ev) (d : D) : M (List D) := match bindT t d ρ with
  | none => no
  | some ρ' => bd (cond ρ') fun b => if b then bd (iv1 ρ') fun ds => lcGo (step1 (wipeE ρ' vs1) t1 cond1 elt) ds else rt []
def lcF (own : List Nat) (t : Tg) (iv : Iv) (cond : Tv) (elt : Ev) : Av := fun ρ => bd (iv ρ) fun ds => noErr (bd (lcGo (step1 (wipeE ρ own) t cond elt) ds) fun xs => if xs.length ≤ sizeLine then rt xs else no)
def lc2F (own : List Nat) (t : Tg) (iv : Iv) (cond : Tv) (vs1 : List Nat) (iv1 : Iv) (t1 : Tg) (cond1 : Tv) (elt : Ev) : Av := fun ρ => bd (iv ρ) fun ds => noErr (bd (lcGo (step2 (wipeE ρ own) t cond vs1 iv1 t1 cond1 elt) ds) fun xs => if xs.length ≤ sizeLine then rt xs else no)
def eOfA (f : Av) : Ev := fun ρ => bd (f ρ) fun xs => rt (.list xs)
def tAll : Tv := fun _ => rt true
theorem wipe_get {σ : L2.St} {j : Nat} : ∀ {vs : List Nat}, j ∉ vs → (wipe σ vs)[j]? = σ[j]?
  | [], _ => rfl
  | v :: vs, h => by
    unfold wipe
    rw [List.getElem?_set_ne (fun e => h (by rw [e]; exact List.mem_cons_self ..))]
    exact wipe_get fun z => h (List.mem_cons_of_mem _ z)
theorem wipe_in {σ : L2.St} {j : Nat} : ∀ {vs : List Nat}, j ∈ vs → (wipe σ vs)[j]? = if j < σ.length then some none else none
  | [], h => by cases h
  | v :: vs, h => by
    unfold wipe
    by_cases e : v = j
    · subst e
      by_cases hl : v < σ.length
      · rw [if_pos hl, List.getElem?_set_self (by rw [wipe_length]; exact hl)]
      · rw [if_neg hl, List.getElem?_eq_none (by rw [List.length_set, wipe_length]; omega)]
    · rw [List.getElem?_set_ne e]
      exact wipe_in ((List.mem_cons.mp h).resolve_left fun z => e z.symm)
theorem wipe_sets {σ σ' : L2.St} {is vs : List Nat} (h : Sets is (wipe σ vs) σ') (hi : ∀ i ∈ is, i ∈ vs) : wipe σ' vs = wipe σ vs := by
  apply List.ext_getElem?
  intro j
  by_cases hj : j ∈ vs
  · have hl : σ'.length = σ.length := by rw [h.1, wipe_length]
    rw [wipe_in hj, wipe_in hj, hl]
  · rw [wipe_get hj, wipe_get hj, h.2 j fun z => hj (hi j z), wipe_get hj]
section
variable {X : Cx} {g : G} {B B' : Addr → Prop} {W : WX} {ρ : En} {c c' : Cp} {σ : L2.St} {H H' : Hp}
theorem wipeE_length : ∀ vs : List Nat, (wipeE ρ vs).length = ρ.length
  | [] => rfl
  | v :: vs => by unfold wipeE; rw [List.length_set, wipeE_length vs]
theorem StOK.wipe (s : StOK g B ρ c σ H) : ∀ vs : List Nat, StOK g B (wipeE ρ vs) c (L2.wipe σ vs) H
  | [] => s
  | v :: vs => by
    have ih := s.wipe vs
    refine ⟨by rw [wipeE_length, L2.wipe_length]; exact s.len, fun j sl e => ?_, s.cup, s.tabs, s.dom, s.cb⟩
    unfold wipeE at e
    unfold L2.wipe
    by_cases h : v = j
    · subst h
      by_cases hl : v < (wipeE ρ vs).length
      · rw [List.getElem?_set_self hl] at e
        cases e; trivial
      · rw [List.getElem?_eq_none (by rw [List.length_set]; omega)] at e; cases e
    · rw [List.getElem?_set_ne h] at e ⊢
      exact ih.env j sl e
/-- the same state, more addresses kept out -/
theorem StOK.more (s : StOK g B ρ c σ H) {H1 : Hp} {c1 : Cp} (st1 : StH g B' c1 H1) (h : ∀ a o, H a = some o → ¬ B a → (∀ ps, o ≠ .tbl ps) → H1 a = some o ∧ ¬ B' a) : StOK g B' ρ c1 σ H1 where
  len := s.len
  env := fun i sl e => by
    have z := s.env i sl e
    cases sl with
    | no => trivial
    | d x => obtain ⟨v, h1, h2⟩ := z; exact ⟨v, h1, h2.re h⟩
    | box xs => obtain ⟨v, h1, h2⟩ := z; exact ⟨v, h1, h2.re h⟩
  cup := st1.cup
  tabs := st1.tabs
  dom := st1.dom
  cb := st1.cb
/-- a tracked list changes: tables stay -/
theorem tabs_upd {TT : List (Addr × Str)} {a : Addr} {xs ys : List V} (h : H a = some (.lst xs)) (t : LamX.Tabs TT H) : LamX.Tabs TT (upd H a (.lst ys)) := fun p hp => by
  obtain ⟨ps, h1, h2, h3⟩ := t p hp
  have n1 : p.1 ≠ a := fun z => by rw [z, h] at h1; cases h1
  refine ⟨ps, by rw [upd_ne n1]; exact h1, h2, fun pos cv hc => ?_⟩
  obtain ⟨c, e1, e2⟩ := h3 pos cv hc
  have n2 : c ≠ a := fun z => by rw [z, h] at e2; cases e2
  exact ⟨c, e1, by rw [upd_ne n2]; exact e2⟩
/-- the list D, new at H1, holds acc so far -/
structure Acc (g : G) (B : Addr → Prop) (Dn : Addr) (H1 : Hp) (c : Cp) (acc : List D) (H : Hp) : Prop where
  st : StH g (fun a => B a ∨ a = Dn) c H
  per : Per g.cs H1 H
  dm : ∀ a, H a = none → H1 a = none
  ex : ∃ vs, H Dn = some (.lst vs) ∧ RpA g (fun a => B a ∨ a = Dn) H vs acc
variable {Dn : Addr} {H1 : Hp} {acc : List D}
theorem Acc.after (a : Acc g B Dn H1 c acc H) (f : After g H H' c') (nc : g.ca ≠ some Dn) : Acc g B Dn H1 c' acc H' := by
  obtain ⟨vs, e, r⟩ := a.ex
  exact ⟨a.st.after f, a.per.trans f.per, fun x z => a.dm x (f.dm x z), vs, f.per _ _ e nc (fun ps z => by cases z), r.after f a.st.cb⟩
theorem Acc.push (a : Acc g B Dn H1 c acc H) {vs : List V} {y : V} {x : D} (e : H Dn = some (.lst vs)) (ry : Rp g (fun a => B a ∨ a = Dn) H y x) (nc : g.ca ≠ some Dn) (hn : H1 Dn = none) : Acc g B Dn H1 c (acc ++ [x]) (upd H Dn (.lst (vs ++ [y]))) := by
  obtain ⟨vs', e', r⟩ := a.ex
  rw [e] at e'; cases e'
  have keep : ∀ b o, H b = some o → ¬ (B b ∨ b = Dn) → (∀ ps, o ≠ .tbl ps) → upd H Dn (.lst (vs ++ [y])) b = some o ∧ ¬ (B b ∨ b = Dn) := fun b o eb nb _ => ⟨by rw [upd_ne (fun z => nb (.inr z))]; exact eb, nb⟩
  refine ⟨⟨?_, tabs_upd e a.st.tabs, fun b hb => ?_, a.st.cb⟩, fun b o eb nb nt => ?_, fun b z => ?_, _, upd_same, (r.re keep).append (.cons (ry.re keep) .nil)⟩
  · have k := a.st.cup
    unfold CupOK at k ⊢
    cases hc : g.ca with
    | none =>
      rw [hc] at k
      cases c with
      | none => trivial
      | some q => exact k.elim
    | some b =>
      rw [hc] at k
      cases c with
      | none => exact k.elim
      | some q =>
        obtain ⟨i, j⟩ := q
        show upd H Dn _ b = _
        rw [upd_ne (fun z => nc (by rw [hc, z]))]; exact k
  · by_cases hd : b = Dn
    · subst hd; exact ⟨_, upd_same⟩
    · rw [upd_ne hd]; exact a.st.dom b hb
  · rw [upd_ne (fun z => by rw [z, hn] at eb; cases eb)]; exact a.per b o eb nb nt
  · by_cases hd : b = Dn
    · subst hd; rw [upd_same] at z; cases z
    · rw [upd_ne hd] at z; exact a.dm b z
theorem Acc.fin (a : Acc g B Dn H1 c acc H) (nb : ¬ B Dn) : After g H1 H c ∧ Rp g B H (.ref Dn) (.list acc) := by
  obtain ⟨vs, e, r⟩ := a.ex
  exact ⟨⟨a.per, a.st.cup, a.st.tabs, a.dm⟩, .lst nb e (r.weak fun x h => .inl h)⟩
theorem Acc.start (s : StH g B c H1) (hn : H1 Dn = none) : Acc g B Dn H1 c [] (upd H1 Dn (.lst [])) := by
  have a := s.new (o := .lst []) hn
  refine ⟨⟨a.cup, a.tabs, fun b hb => ?_, fun b hb => .inl (s.cb b hb)⟩, a.per, a.dm, [], upd_same, .nil⟩
  by_cases hd : b = Dn
  · subst hd; exact ⟨_, upd_same⟩
  · rw [upd_ne hd]; exact s.dom b (hb.resolve_right hd)
abbrev W0 : WX := fun _ _ _ _ => False
/-- readings whatever is kept out -/
abbrev xF (g : G) (f : Ev) : TE := fun σ H Q => ∃ B, tF g B W0 f σ H Q
abbrev xT (g : G) (f : Tv) : TT := fun σ H Q => ∃ B, tT g B W0 f σ H Q
abbrev xI (g : G) (f : Iv) : TI := fun σ H Q => ∃ B, tI g B W0 f σ H Q
theorem PE.ex {e : Expr} {f : Ev} (h : ∀ B, PE X e (tF g B W0 f)) : PE X e (xF g f) := ⟨fun pins s σ H Q I ⟨B, q⟩ => (h B).run pins s σ H Q I q⟩
theorem PTs.ex {es : List Expr} {f : Tv} (h : ∀ B, PTs X es (tT g B W0 f)) : PTs X es (xT g f) := ⟨fun pins s σ H Q I ⟨B, q⟩ => (h B).run pins s σ H Q I q⟩
theorem PI.ex {tg e : Expr} {f : Iv} (h : ∀ B, PI X tg e (tI g B W0 f)) : PI X tg e (xI g f) := ⟨fun pins s σ H Q I ⟨B, q⟩ => (h B).run pins s σ H Q I q⟩
/-- the rest of a comprehension ends well -/
def Fin (step : D → M (List D)) (rest : List D) (acc : List D) (c : Cp) (K : List D → Cp → Prop) : Prop := match lcGo step rest c with
  | .ok r c' => acc.length + r.length ≤ sizeLine ∧ K (acc ++ r) c'
  | _ => False
theorem Fin.next {step : D → M (List D)} {d : D} {rest acc : List D} {K : List D → Cp → Prop} (h : Fin step (d :: rest) acc c K) : ∃ l c1, step d c = .ok l c1 ∧ acc.length + l.length ≤ sizeLine ∧ Fin step rest (acc ++ l) c1 K := by
  unfold Fin at h
  have e : lcGo step (d :: rest) c = bd (step d) (fun l => bd (lcGo step rest) fun r => rt (l ++ r)) c := rfl
  rw [e] at h
  unfold bd at h
  cases e1 : step d c with
  | err er c1 => rw [e1] at h; exact h.elim
  | stuck => rw [e1] at h; exact h.elim
  | ok l c1 =>
    rw [e1] at h
    refine ⟨l, c1, rfl, ?_⟩
    unfold Fin
    cases e2 : lcGo step rest c1 with
    | err er c2 => simp only [e2] at h
    | stuck => simp only [e2] at h
    | ok r c2 =>
      simp only [e2, rt] at h
      obtain ⟨h1, h2⟩ := h
      rw [List.length_append] at h1
      rw [List.length_append]
      refine ⟨by omega, by omega, ?_⟩
      rw [List.append_assoc]
      exact h2
theorem fin_of {step : D → M (List D)} {ds : List D} {Q : VK} (h : Post g W σ H (fun H' (v : V) xs => Rp g B H' v (.list xs)) (noErr (bd (lcGo step ds) fun xs => if xs.length ≤ sizeLine then rt xs else no) c) Q) :
    Fin step ds [] c fun xs c' => ∀ v H', After g H H' c' → Rp g B H' v (.list xs) → Q v H' := by
  unfold Fin
  unfold noErr bd at h
  cases e : lcGo step ds c with
  | err er c1 => rw [e] at h; exact h.elim
  | stuck => rw [e] at h; exact h.elim
  | ok r c1 =>
    simp only [e] at h
    by_cases hl : r.length ≤ sizeLine
    · rw [if_pos hl] at h
      exact ⟨by simpa using hl, h⟩
    · rw [if_neg hl] at h; exact h.elim
/-- one clause: a turn -/
theorem turn1 {K : PySem.W.Frag} {t : Tg} {cond : Tv} {elt : Ev} {own : List Nat} {x : V} {d : D} {l : List D} {c1 : Cp} {Nx : Hp → Prop} (hs : ∀ i ∈ t.slots, i ∈ own) (nc : g.ca ≠ some Dn) (hn : H1 Dn = none)
    (st : StOK g (fun a => B a ∨ a = Dn) (wipeE ρ own) c (L2.wipe σ own) H) (a : Acc g B Dn H1 c acc H) (rx : Rp g (fun a => B a ∨ a = Dn) H x d) (he : step1 (wipeE ρ own) t cond elt d c = .ok l c1) (hl : acc.length + l.length ≤ sizeLine)
    (k : ∀ H', Acc g B Dn H1 c1 (acc ++ l) H' → (∀ b o, H b = some o → ¬ (B b ∨ b = Dn) → (∀ ps, o ≠ .tbl ps) → H' b = some o ∧ ¬ (B b ∨ b = Dn)) → Nx H') :
    gT K t x (L2.wipe σ own) H fun σ2 H2 => L2.wipe σ2 own = L2.wipe σ own ∧ xT g cond σ2 H2 fun b H3 => if b = true then xF g elt σ2 H3 fun y H4 => ∃ vs, H4 Dn = some (.lst vs) ∧ vs.length < sizeLine ∧ Nx (upd H4 Dn (.lst (vs ++ [y]))) else Nx H3 := by
  unfold step1 at he
  cases eb : bindT t d (wipeE ρ own) with
  | none => rw [eb] at he; cases he
  | some ρ' =>
    rw [eb] at he
    refine gT_ok st rx eb fun σ' s' h' => ⟨wipe_sets h' hs, _, ρ', c, s', ?_⟩
    simp only at he
    unfold bd at he
    cases ec : cond ρ' c with
    | err er c2 => rw [ec] at he; cases he
    | stuck => rw [ec] at he; cases he
    | ok b c2 =>
      rw [ec] at he
      intro b' H3 a3 eb'
      cases eb'
      have acc3 := a.after a3 nc
      have s3 := s'.after a3
      cases b with
      | false =>
        simp only [Bool.false_eq_true, if_false, rt] at he ⊢
        cases he
        rw [List.append_nil] at k
        exact k _ acc3 fun b o eb nb nt => ⟨a3.per b o eb (fun z => nb (s'.cb b z)) nt, nb⟩
      | true =>
        simp only [if_true] at he ⊢
        cases ee : elt ρ' c2 with
        | err er c4 => rw [ee] at he; cases he
        | stuck => rw [ee] at he; cases he
        | ok z c4 =>
          rw [ee] at he
          cases he
          refine ⟨_, ρ', c2, s3, ?_⟩
          rw [ee]
          intro y H4 a4 ry
          have acc4 := acc3.after a4 nc
          obtain ⟨vs, e4, r4⟩ := id acc4.ex
          refine ⟨vs, e4, by rw [r4.length]; simp only [List.length_singleton] at hl; omega, k _ (acc4.push e4 ry nc hn) fun b o eb nb nt => ⟨?_, nb⟩⟩
          rw [upd_ne (fun z => nb (.inr z))]
          exact a4.per b o (a3.per b o eb (fun z => nb (s'.cb b z)) nt) (fun z => nb (s'.cb b z)) nt
end
end Mi

namespace Mi
open PySem PySem.Spec PyProof.Rows L2
/-- a new list, which nothing else holds -/
def FrL (g : G) (B : Addr → Prop) (H H' : Hp) (v : V) (xs : List D) : Prop := ∃ p vs, v = .ref p ∧ H p = none ∧ H' p = some (.lst vs) ∧ RpA g (fun a => B a ∨ a = p) H' vs xs
def tL (g : G) (B : Addr → Prop) (W : WX) (f : Av) : TE := fun σ H Q => ∃ ρ c, StOK g B ρ c σ H ∧ Post g W σ H (FrL g B H) (f ρ c) Q
section
variable {X : Cx} {g : G} {B : Addr → Prop} {W : WX} {ρ : En} {c : Cp} {σ : L2.St} {H H' : Hp} {Dn : Addr} {H1 : Hp} {acc : List D}
theorem FrL.rp {v : V} {xs : List D} (s : StH g B c H) (h : FrL g B H H' v xs) : Rp g B H' v (.list xs) := by
  obtain ⟨p, vs, rfl, e, e', r⟩ := h
  exact .lst (s.nb e) e' (r.weak fun a z => .inl z)
theorem FrL.early {v : V} {xs : List D} {c1 : Cp} (a : After g H H1 c1) (h : FrL g B H1 H' v xs) : FrL g B H H' v xs := by
  obtain ⟨p, vs, rfl, e, e', r⟩ := h
  exact ⟨p, vs, rfl, a.dm p e, e', r⟩
theorem s_fresh {e : Expr} {f : Av} (h : PE X e (tL g B W f)) : PE X e (tF g B W (eOfA f)) := by
  refine ⟨fun pins s σ H Q I ⟨ρ, c, st, hh⟩ => h.run pins s σ H Q I ⟨ρ, c, st, (Post.bd (R1 := FrL g B H) hh).mono fun v H1 ⟨xs, c1, r1, a1, h1⟩ => ?_⟩⟩
  exact h1 _ _ (AfterR a1) (r1.rp st.h)
/-- the end of a comprehension -/
theorem Acc.frl (a : Acc g B Dn H1 c acc H') (hn : H1 Dn = none) : After g H1 H' c ∧ FrL g B H1 H' (.ref Dn) acc := by
  obtain ⟨vs, e, r⟩ := a.ex
  exact ⟨⟨a.per, a.st.cup, a.st.tabs, a.dm⟩, Dn, vs, rfl, hn, e, r⟩
theorem fin_frl {step : D → M (List D)} {ds : List D} {Q : VK} (h : Post g W σ H (FrL g B H') (noErr (bd (lcGo step ds) fun xs => if xs.length ≤ sizeLine then rt xs else no) c) Q) :
    Fin step ds [] c fun xs c' => ∀ v H2, After g H H2 c' → FrL g B H' H2 v xs → Q v H2 := by
  unfold Fin
  unfold noErr bd at h
  cases e : lcGo step ds c with
  | err er c1 => rw [e] at h; exact h.elim
  | stuck => rw [e] at h; exact h.elim
  | ok r c1 =>
    simp only [e] at h
    by_cases hl : r.length ≤ sizeLine
    · rw [if_pos hl] at h
      exact ⟨by simpa using hl, h⟩
    · rw [if_neg hl] at h; exact h.elim
theorem cup_ne (st : StH g B c H) {p : Addr} (hn : H p = none) : g.ca ≠ some p := fun z => by
  obtain ⟨xs, e⟩ := cup_list st.cup z
  rw [hn] at e; cases e
theorem lc_read {K : PySem.W.Frag} {own : List Nat} {t : Tg} {iv : Iv} {cond : Tv} {elt : Ev} {Q : VK} (hs : ∀ i ∈ t.slots, i ∈ own) (h : tL g B W (lcF own t iv cond elt) σ H Q) :
    tLc (tI g B W iv) (gT K t) (xT g cond) (xF g elt) own σ H Q := by
  obtain ⟨ρ, c, st, h⟩ := h
  refine ⟨ρ, c, st, (Post.bd (R1 := fun H' J ds => Yl g B J ds H') h).mono fun J H1 ⟨ds, c1, yl, a1, h1⟩ => fun Dn hn => ?_⟩
  have fin := fin_frl h1
  have st1 := st.after a1
  have nc : g.ca ≠ some Dn := cup_ne st1.h hn
  refine ⟨fun i m Hc => m = ds.length - i ∧ i ≤ ds.length ∧ ∃ c acc, Acc g B Dn H1 c acc Hc ∧ (∀ b o, H1 b = some o → ¬ B b → (∀ ps, o ≠ .tbl ps) → Hc b = some o ∧ ¬ (B b ∨ b = Dn)) ∧
    Fin (step1 (wipeE ρ own) t cond elt) (ds.drop i) acc c (fun xs c' => ∀ v H2, After g H1 H2 c' → FrL g B H H2 v xs → Q v H2), ⟨ds.length, by simp, Nat.zero_le _, c1, [], Acc.start st1.h hn, fun b o eb nb nt => ?_, fin⟩, ?_⟩
  · have hb : b ≠ Dn := ne_of_none eb hn
    exact ⟨by rw [upd_ne hb]; exact eb, fun z => z.elim nb hb⟩
  rintro i m Hc ⟨rfl, hi, cc, acc, A, kp, F⟩
  have Y := yl (fun a => B a ∨ a = Dn) i Hc cc kp A.st
  by_cases hlt : i < ds.length
  · have ed : ds.drop i = ds[i] :: ds.drop (i + 1) := List.drop_eq_getElem_cons hlt
    rw [ed] at F
    obtain ⟨l, c2, e2, l2, F2⟩ := F.next
    obtain ⟨go, yy⟩ := Y.1 ds[i] (List.getElem?_eq_getElem hlt)
    refine .inr ⟨go, fun H' => i + 1 ≤ ds.length ∧ ∃ c acc, Acc g B Dn H1 c acc H' ∧ (∀ b o, H1 b = some o → ¬ B b → (∀ ps, o ≠ .tbl ps) → H' b = some o ∧ ¬ (B b ∨ b = Dn)) ∧
      Fin (step1 (wipeE ρ own) t cond elt) (ds.drop (i + 1)) acc c (fun xs c' => ∀ v H2, After g H1 H2 c' → FrL g B H H2 v xs → Q v H2), fun H' ⟨z1, z2⟩ => ⟨ds.length - (i + 1), by omega, rfl, z1, z2⟩, fun x H' y => ?_⟩
    obtain ⟨af, rx⟩ := yy x H' y
    have A' := A.after af nc
    have s0 : StOK g (fun a => B a ∨ a = Dn) ρ cc σ H' := st1.more A'.st fun b o eb nb nt => by
      obtain ⟨k1, k2⟩ := kp b o eb nb nt
      exact ⟨af.per b o k1 (fun z => k2 (A.st.cb b z)) nt, k2⟩
    refine turn1 hs nc hn (s0.wipe own) A' rx e2 l2 fun H2 A2 k2 => ⟨hlt, c2, acc ++ l, A2, fun b o eb nb nt => ?_, F2⟩
    obtain ⟨k3, k4⟩ := kp b o eb nb nt
    exact ⟨(k2 b o (af.per b o k3 (fun z => k4 (A.st.cb b z)) nt) k4 nt).1, k4⟩
  · have e : i = ds.length := by omega
    subst e
    rw [List.drop_length] at F
    obtain ⟨f1, f2⟩ := A.frl hn
    refine .inl ⟨Y.2 (List.getElem?_eq_none (Nat.le_refl _)), ?_⟩
    have F' : acc.length + 0 ≤ sizeLine ∧ ∀ v H2, After g H1 H2 cc → FrL g B H H2 v (acc ++ []) → Q v H2 := F
    rw [List.append_nil] at F'
    exact F'.2 _ _ f1 (f2.early a1)
/-- a comprehension of one clause -/
theorem s_lc {elt tg iter : Expr} {ifs : List Expr} {scope : Scope} {own : List (Str × Nat)} {pos : Pos} {t : Tg} {iv : Iv} {cond : Tv} {fe : Ev} (hc : X.calm = true) (hN : X.N.Nodup) (ok : BlkOk X.N X.env.scope scope own) (hs : ∀ i ∈ t.slots, i ∈ own.map (·.2))
    (hi : PI X tg iter (tI g B W iv)) (hg : ∀ (s : Shared) (H : Hp) (C : Addr) (cl : List (Str × Addr)) (fp : List Addr), PG (X.blk s H scope (compEnvC scope cl C X.env) fp) tg (gT X.K t))
    (ht : ∀ (s : Shared) (H : Hp) (C : Addr) (cl : List (Str × Addr)) (fp : List Addr) (B : Addr → Prop), PTs (X.blk s H scope (compEnvC scope cl C X.env) fp) ifs (tT g B W0 cond))
    (he : ∀ (s : Shared) (H : Hp) (C : Addr) (cl : List (Str × Addr)) (fp : List Addr) (B : Addr → Prop), PE (X.blk s H scope (compEnvC scope cl C X.env) fp) elt (tF g B W0 fe)) (hf : ∀ x, foldedSetIterable iter X.env x = pure x) :
    PE X (.ListComp elt [⟨tg, iter, ifs, 0⟩] scope pos) (tL g B W (lcF (own.map (·.2)) t iv cond fe)) :=
  ⟨fun pins s σ H Q I h => (pe_lc hc hN hi ok hg (fun s H C cl fp => PTs.ex (ht s H C cl fp)) (fun s H C cl fp => PE.ex (he s H C cl fp)) hf).run pins s σ H Q I (lc_read hs h)⟩
end
end Mi

namespace Mi
open PySem PySem.Spec PyProof.Rows L2
section
variable {X : Cx} {g : G} {B : Addr → Prop} {W : WX} {ρ : En} {c : Cp} {σ : L2.St} {H H' : Hp} {Dn : Addr} {H1 : Hp} {acc : List D}
theorem lc2_read {K : PySem.W.Frag} {own vs1 : List Nat} {t t1 : Tg} {iv iv1 : Iv} {cond cond1 : Tv} {elt : Ev} {Q : VK} (hs : ∀ i ∈ t.slots, i ∈ own) (hs1 : ∀ i ∈ t1.slots, i ∈ vs1) (h : tL g B W (lc2F own t iv cond vs1 iv1 t1 cond1 elt) σ H Q) :
    tLc2 (tI g B W iv) (gT K t) (xT g cond) (xI g iv1) (gT K t1) (xT g cond1) (xF g elt) own vs1 σ H Q := by
  obtain ⟨ρ, c, st, h⟩ := h
  refine ⟨ρ, c, st, (Post.bd (R1 := fun H' J ds => Yl g B J ds H') h).mono fun J H1 ⟨ds, c1, yl, a1, h1⟩ => fun Dn hn => ?_⟩
  have fin := fin_frl h1
  have st1 := st.after a1
  have nc : g.ca ≠ some Dn := cup_ne st1.h hn
  refine ⟨fun i m Hc => m = ds.length - i ∧ i ≤ ds.length ∧ ∃ c acc, Acc g B Dn H1 c acc Hc ∧ (∀ b o, H1 b = some o → ¬ B b → (∀ ps, o ≠ .tbl ps) → Hc b = some o ∧ ¬ (B b ∨ b = Dn)) ∧
    Fin (step2 (wipeE ρ own) t cond vs1 iv1 t1 cond1 elt) (ds.drop i) acc c (fun xs c' => ∀ v H2, After g H1 H2 c' → FrL g B H H2 v xs → Q v H2), ⟨ds.length, by simp, Nat.zero_le _, c1, [], Acc.start st1.h hn, fun b o eb nb nt => ?_, fin⟩, ?_⟩
  · have hb : b ≠ Dn := ne_of_none eb hn
    exact ⟨by rw [upd_ne hb]; exact eb, fun z => z.elim nb hb⟩
  rintro i m Hc ⟨rfl, hi, cc, acc, A, kp, F⟩
  have Y := yl (fun a => B a ∨ a = Dn) i Hc cc kp A.st
  by_cases hlt : i < ds.length
  · have ed : ds.drop i = ds[i] :: ds.drop (i + 1) := List.drop_eq_getElem_cons hlt
    rw [ed] at F
    obtain ⟨l, c2, e2, l2, F2⟩ := F.next
    obtain ⟨go, yy⟩ := Y.1 ds[i] (List.getElem?_eq_getElem hlt)
    refine .inr ⟨go, fun H' => i + 1 ≤ ds.length ∧ ∃ c acc, Acc g B Dn H1 c acc H' ∧ (∀ b o, H1 b = some o → ¬ B b → (∀ ps, o ≠ .tbl ps) → H' b = some o ∧ ¬ (B b ∨ b = Dn)) ∧
      Fin (step2 (wipeE ρ own) t cond vs1 iv1 t1 cond1 elt) (ds.drop (i + 1)) acc c (fun xs c' => ∀ v H2, After g H1 H2 c' → FrL g B H H2 v xs → Q v H2), fun H' ⟨z1, z2⟩ => ⟨ds.length - (i + 1), by omega, rfl, z1, z2⟩, fun x H' y => ?_⟩
    obtain ⟨af, rx⟩ := yy x H' y
    have A' := A.after af nc
    have kp' : ∀ b o, H1 b = some o → ¬ B b → (∀ ps, o ≠ .tbl ps) → H' b = some o ∧ ¬ (B b ∨ b = Dn) := fun b o eb nb nt => by
      obtain ⟨k1, k2⟩ := kp b o eb nb nt
      exact ⟨af.per b o k1 (fun z => k2 (A.st.cb b z)) nt, k2⟩
    have s0 : StOK g (fun a => B a ∨ a = Dn) ρ cc σ H' := st1.more A'.st kp'
    unfold step2 at e2
    cases eb : bindT t ds[i] (wipeE ρ own) with
    | none => rw [eb] at e2; cases e2
    | some ρ' =>
      rw [eb] at e2
      refine gT_ok (s0.wipe own) rx eb fun σ' s' h' => ⟨wipe_sets h' hs, _, ρ', cc, s', ?_⟩
      simp only at e2
      unfold bd at e2
      cases ec : cond ρ' cc with
      | err er c3 => rw [ec] at e2; cases e2
      | stuck => rw [ec] at e2; cases e2
      | ok b c3 =>
        rw [ec] at e2
        intro b' H3 a3 eb'
        cases eb'
        have A3 := A'.after a3 nc
        have s3 := s'.after a3
        have kp3 : ∀ b o, H1 b = some o → ¬ B b → (∀ ps, o ≠ .tbl ps) → H3 b = some o ∧ ¬ (B b ∨ b = Dn) := fun b o eb nb nt => by
          obtain ⟨k1, k2⟩ := kp' b o eb nb nt
          exact ⟨a3.per b o k1 (fun z => k2 (A'.st.cb b z)) nt, k2⟩
        cases b with
        | false =>
          simp only [Bool.false_eq_true, if_false, rt] at e2 ⊢
          cases e2
          rw [List.append_nil] at F2
          exact ⟨hlt, _, _, A3, kp3, F2⟩
        | true =>
          simp only [if_true] at e2 ⊢
          cases ei : iv1 ρ' c3 with
          | err er c4 => rw [ei] at e2; cases e2
          | stuck => rw [ei] at e2; cases e2
          | ok ds1 c4 =>
            rw [ei] at e2
            refine ⟨_, ρ', c3, s3, ?_⟩
            rw [ei]
            intro J1 H4 a4 yl1
            have A4 := A3.after a4 nc
            have s4 := s3.after a4
            have kp4 : ∀ b o, H1 b = some o → ¬ B b → (∀ ps, o ≠ .tbl ps) → H4 b = some o ∧ ¬ (B b ∨ b = Dn) := fun b o eb nb nt => by
              obtain ⟨k1, k2⟩ := kp3 b o eb nb nt
              exact ⟨a4.per b o k1 (fun z => k2 (A3.st.cb b z)) nt, k2⟩
            have F0 : Fin (step1 (wipeE ρ' vs1) t1 cond1 elt) ds1 acc c4 (fun xs c' => xs = acc ++ l ∧ c' = c2) := by
              unfold Fin
              have e2' : lcGo (step1 (wipeE ρ' vs1) t1 cond1 elt) ds1 c4 = .ok l c2 := e2
              rw [e2']
              exact ⟨l2, rfl, rfl⟩
            refine ⟨fun j m Hd => m = ds1.length - j ∧ j ≤ ds1.length ∧ ∃ c5 acc5, Acc g B Dn H1 c5 acc5 Hd ∧ (∀ b o, H4 b = some o → ¬ (B b ∨ b = Dn) → (∀ ps, o ≠ .tbl ps) → Hd b = some o ∧ ¬ (B b ∨ b = Dn)) ∧
              Fin (step1 (wipeE ρ' vs1) t1 cond1 elt) (ds1.drop j) acc5 c5 (fun xs c' => xs = acc ++ l ∧ c' = c2), ⟨ds1.length, by simp, Nat.zero_le _, c4, acc, A4, fun b o eb nb nt => ⟨eb, nb⟩, F0⟩, ?_⟩
            rintro j m Hd ⟨rfl, hj, c5, acc5, A5, kp5, F5⟩
            have Y1 := yl1 (fun a => B a ∨ a = Dn) j Hd c5 kp5 A5.st
            by_cases hlj : j < ds1.length
            · have edj : ds1.drop j = ds1[j] :: ds1.drop (j + 1) := List.drop_eq_getElem_cons hlj
              rw [edj] at F5
              obtain ⟨l5, c6, e6, l6, F6⟩ := F5.next
              obtain ⟨go1, yy1⟩ := Y1.1 ds1[j] (List.getElem?_eq_getElem hlj)
              refine .inr ⟨go1, fun H' => j + 1 ≤ ds1.length ∧ ∃ c5 acc5, Acc g B Dn H1 c5 acc5 H' ∧ (∀ b o, H4 b = some o → ¬ (B b ∨ b = Dn) → (∀ ps, o ≠ .tbl ps) → H' b = some o ∧ ¬ (B b ∨ b = Dn)) ∧
                Fin (step1 (wipeE ρ' vs1) t1 cond1 elt) (ds1.drop (j + 1)) acc5 c5 (fun xs c' => xs = acc ++ l ∧ c' = c2), fun H' ⟨z1, z2⟩ => ⟨ds1.length - (j + 1), by omega, rfl, z1, z2⟩, fun x1 H6 y1 => ?_⟩
              obtain ⟨af1, rx1⟩ := yy1 x1 H6 y1
              have A6 := A5.after af1 nc
              have kp6 : ∀ b o, H4 b = some o → ¬ (B b ∨ b = Dn) → (∀ ps, o ≠ .tbl ps) → H6 b = some o ∧ ¬ (B b ∨ b = Dn) := fun b o eb nb nt => by
                obtain ⟨k1, k2⟩ := kp5 b o eb nb nt
                exact ⟨af1.per b o k1 (fun z => k2 (A5.st.cb b z)) nt, k2⟩
              have s6 : StOK g (fun a => B a ∨ a = Dn) ρ' c5 σ' H6 := s4.more A6.st kp6
              refine turn1 hs1 nc hn (s6.wipe vs1) A6 rx1 e6 l6 fun H2 A2 k2 => ⟨hlj, c6, acc5 ++ l5, A2, fun b o eb nb nt => ?_, F6⟩
              obtain ⟨k3, k4⟩ := kp6 b o eb nb nt
              exact k2 b o k3 k4 nt
            · have e : j = ds1.length := by omega
              subst e
              rw [List.drop_length] at F5
              have F' : acc5.length + 0 ≤ sizeLine ∧ acc5 ++ [] = acc ++ l ∧ c5 = c2 := F5
              rw [List.append_nil] at F'
              obtain ⟨_, q1, q2⟩ := F'
              subst q2
              rw [q1] at A5
              exact .inl ⟨Y1.2 (List.getElem?_eq_none (Nat.le_refl _)), hlt, _, _, A5, fun b o eb nb nt => by
                obtain ⟨k3, k4⟩ := kp4 b o eb nb nt
                exact kp5 b o k3 k4 nt, F2⟩
  · have e : i = ds.length := by omega
    subst e
    rw [List.drop_length] at F
    obtain ⟨f1, f2⟩ := A.frl hn
    refine .inl ⟨Y.2 (List.getElem?_eq_none (Nat.le_refl _)), ?_⟩
    have F' : acc.length + 0 ≤ sizeLine ∧ ∀ v H2, After g H1 H2 cc → FrL g B H H2 v (acc ++ []) → Q v H2 := F
    rw [List.append_nil] at F'
    exact F'.2 _ _ f1 (f2.early a1)
theorem s_lc2 {elt tg iter tg1 iter1 : Expr} {ifs ifs1 : List Expr} {scope : Scope} {own : List (Str × Nat)} {vs1 : List Nat} {pos : Pos} {t t1 : Tg} {iv iv1 : Iv} {cond cond1 : Tv} {fe : Ev} (hc : X.calm = true) (hN : X.N.Nodup) (ok : BlkOk X.N X.env.scope scope own) (hv : ∀ i ∈ vs1, i ∈ own.map (·.2))
    (hs : ∀ i ∈ t.slots, i ∈ own.map (·.2)) (hs1 : ∀ i ∈ t1.slots, i ∈ vs1)
    (hi : PI X tg iter (tI g B W iv)) (hg : ∀ (s : Shared) (H : Hp) (C : Addr) (cl : List (Str × Addr)) (fp : List Addr), PG (X.blk s H scope (compEnvC scope cl C X.env) fp) tg (gT X.K t))
    (ht : ∀ (s : Shared) (H : Hp) (C : Addr) (cl : List (Str × Addr)) (fp : List Addr) (B : Addr → Prop), PTs (X.blk s H scope (compEnvC scope cl C X.env) fp) ifs (tT g B W0 cond))
    (hi1 : ∀ (s : Shared) (H : Hp) (C : Addr) (cl : List (Str × Addr)) (fp : List Addr) (B : Addr → Prop), PI (X.blk s H scope (compEnvC scope cl C X.env) fp) tg1 iter1 (tI g B W0 iv1))
    (hg1 : ∀ (s : Shared) (H : Hp) (C : Addr) (cl : List (Str × Addr)) (fp : List Addr), PG (X.blk s H scope (compEnvC scope cl C X.env) fp) tg1 (gT X.K t1))
    (ht1 : ∀ (s : Shared) (H : Hp) (C : Addr) (cl : List (Str × Addr)) (fp : List Addr) (B : Addr → Prop), PTs (X.blk s H scope (compEnvC scope cl C X.env) fp) ifs1 (tT g B W0 cond1))
    (he : ∀ (s : Shared) (H : Hp) (C : Addr) (cl : List (Str × Addr)) (fp : List Addr) (B : Addr → Prop), PE (X.blk s H scope (compEnvC scope cl C X.env) fp) elt (tF g B W0 fe)) (hf : ∀ x, foldedSetIterable iter X.env x = pure x)
    (hf1 : ∀ env x, foldedSetIterable iter1 env x = pure x) :
    PE X (.ListComp elt [⟨tg, iter, ifs, 0⟩, ⟨tg1, iter1, ifs1, 0⟩] scope pos) (tL g B W (lc2F (own.map (·.2)) t iv cond vs1 iv1 t1 cond1 fe)) :=
  ⟨fun pins s σ H Q I h => (pe_lc2 hc hN hi ok hv hg (fun s H C cl fp => PTs.ex (ht s H C cl fp)) (fun s H C cl fp => PI.ex (hi1 s H C cl fp)) hg1 (fun s H C cl fp => PTs.ex (ht1 s H C cl fp)) (fun s H C cl fp => PE.ex (he s H C cl fp)) hf hf1).run pins s σ H Q I (lc2_read hs hs1 h)⟩
end
end Mi

namespace Mi
open PySem PySem.Spec PyProof.Rows L2
/-! statements -/
inductive Fl where
  | next
  | ret (d : D)
  | brk
  | cont
abbrev Sv := En → M (Fl × En)
mutual
def noL : D → Bool
  | .list _ => false
  | .tuple ds => noLs ds
  | _ => true
def noLs : List D → Bool
  | [] => true
  | d :: ds => noL d && noLs ds
end
def SlS (g : G) (B B' : Addr → Prop) (H0 H : Hp) (o : Option (Option V)) : Sl → Prop
  | .no => True
  | .d x => ∃ v, o = some (some v) ∧ Rp g B' H v x
  | .box xs => ∃ a vs, o = some (some (.ref a)) ∧ B' a ∧ ¬ B a ∧ H0 a = none ∧ H a = some (.lst vs) ∧ RpA g B' H vs xs
/-- what a statement meets: B' has the frame's own lists, too -/
structure SOK (g : G) (B B' : Addr → Prop) (H0 : Hp) (ρ : En) (c : Cp) (σ : L2.St) (H : Hp) : Prop where
  len : ρ.length = σ.length
  env : ∀ (i : Nat) (s : Sl), ρ[i]? = some s → SlS g B B' H0 H σ[i]? s
  inj : ∀ (i j : Nat) (xs ys : List D) (a : Addr), ρ[i]? = some (.box xs) → ρ[j]? = some (.box ys) → σ[i]? = some (some (.ref a)) → σ[j]? = some (some (.ref a)) → i = j
  st : StH g B' c H
  sub : ∀ a, B a → B' a
  cb : ∀ a, g.ca = some a → B a
  per : Per g.cs H0 H
  dm : ∀ a, H a = none → H0 a = none
/-- what stands and is kept in goes on so -/
def Gr (B' : Addr → Prop) (H : Hp) (B1 : Addr → Prop) (H1 : Hp) : Prop := ∀ a o, H a = some o → ¬ B' a → (∀ ps, o ≠ .tbl ps) → H1 a = some o ∧ ¬ B1 a
theorem Gr.refl {B' : Addr → Prop} {H : Hp} : Gr B' H B' H := fun _ _ e n _ => ⟨e, n⟩
theorem Gr.trans {B1 B2 B3 : Addr → Prop} {H1 H2 H3 : Hp} (a : Gr B1 H1 B2 H2) (b : Gr B2 H2 B3 H3) : Gr B1 H1 B3 H3 := fun x o e n t => let ⟨h1, h2⟩ := a x o e n t; b x o h1 h2 t
section
variable (g : G) (B : Addr → Prop) (H0 : Hp) (W : WX)
def PostS (B' : Addr → Prop) (H : Hp) (r : Re (Fl × En)) (D : Ends) : Prop := match r with
  | .ok (.next, ρ1) c1 => ∀ B1 σ1 H1, SOK g B B1 H0 ρ1 c1 σ1 H1 → Gr B' H B1 H1 → D.nx σ1 H1
  | .ok (.brk, ρ1) c1 => ∀ B1 σ1 H1, SOK g B B1 H0 ρ1 c1 σ1 H1 → Gr B' H B1 H1 → D.bk σ1 H1
  | .ok (.cont, ρ1) c1 => ∀ B1 σ1 H1, SOK g B B1 H0 ρ1 c1 σ1 H1 → Gr B' H B1 H1 → D.ct σ1 H1
  | .ok (.ret d, _) c1 => ∀ v H1, After g H0 H1 c1 → Rp g B H1 v d → D.rt v H1
  | .err e c1 => ∀ C σ1 H1, After g H0 H1 c1 → g.mg e = some (.ref C) → W (.ref C) none σ1 H1
  | .stuck => False
def tS (f : Sv) : TS := fun D σ H => ∃ B' ρ c, SOK g B B' H0 ρ c σ H ∧ PostS g B H0 W B' H (f ρ c) D
end
section
variable {X : Cx} {g : G} {B B' B1 : Addr → Prop} {H0 H H1 : Hp} {W : WX} {ρ : En} {c c' : Cp} {σ : L2.St} {D : Ends}
theorem PostS.later {r : Re (Fl × En)} (gr : Gr B' H B1 H1) (h : PostS g B H0 W B' H r D) : PostS g B H0 W B1 H1 r D := by
  cases r with
  | stuck => exact h
  | err e c1 => exact h
  | ok p c1 =>
    obtain ⟨fl, ρ1⟩ := p
    cases fl with
    | next => exact fun B2 σ2 H2 s q => h B2 σ2 H2 s (gr.trans q)
    | brk => exact fun B2 σ2 H2 s q => h B2 σ2 H2 s (gr.trans q)
    | cont => exact fun B2 σ2 H2 s q => h B2 σ2 H2 s (gr.trans q)
    | ret d => exact h
theorem SOK.loose (s : SOK g B B' H0 ρ c σ H) : StOK g B ρ c σ H where
  len := s.len
  env := fun i sl e => by
    have z := s.env i sl e
    cases sl with
    | no => trivial
    | d x => obtain ⟨v, h1, h2⟩ := z; exact ⟨v, h1, h2.weak s.sub⟩
    | box xs => obtain ⟨a, vs, h1, h2, h3, h4, h5, h6⟩ := z; exact ⟨_, h1, .lst h3 h5 (h6.weak s.sub)⟩
  cup := s.st.cup
  tabs := s.st.tabs
  dom := fun a h => s.st.dom a (s.sub a h)
  cb := s.cb
theorem strict_get (ρ : En) (i : Nat) : (strict ρ)[i]? = ρ[i]?.map strictS := by
  unfold strict
  rw [List.getElem?_map]
theorem SOK.strict (s : SOK g B B' H0 ρ c σ H) : StOK g B' (Mi.strict ρ) c σ H where
  len := by unfold Mi.strict; rw [List.length_map]; exact s.len
  env := fun i sl e => by
    rw [strict_get] at e
    obtain ⟨s0, e0, rfl⟩ := Option.map_eq_some_iff.mp e
    have z := s.env i s0 e0
    cases s0 with
    | no => trivial
    | d x => exact z
    | box xs => trivial
  cup := s.st.cup
  tabs := s.st.tabs
  dom := s.st.dom
  cb := s.st.cb
theorem gr_after (cb : ∀ a, g.ca = some a → B' a) (a : After g H H1 c') : Gr B' H B' H1 := fun x o e nb nt => ⟨a.per x o e (fun z => nb (cb x z)) nt, nb⟩
/-- the state behind an expression -/
theorem SOK.after (s : SOK g B B' H0 ρ c σ H) (a : After g H H1 c') : SOK g B B' H0 ρ c' σ H1 where
  len := s.len
  env := fun i sl e => by
    have z := s.env i sl e
    cases sl with
    | no => trivial
    | d x => obtain ⟨v, h1, h2⟩ := z; exact ⟨v, h1, h2.after a s.st.cb⟩
    | box xs =>
      obtain ⟨b, vs, h1, h2, h3, h4, h5, h6⟩ := z
      exact ⟨b, vs, h1, h2, h3, h4, a.per b _ h5 (fun q => h3 (s.cb b q)) (fun ps z => by cases z), h6.after a s.st.cb⟩
  inj := s.inj
  st := s.st.after a
  sub := s.sub
  cb := s.cb
  per := s.per.trans a.per
  dm := fun b e => s.dm b (a.dm b e)
theorem SOK.aft (s : SOK g B B' H0 ρ c σ H) (a : After g H H1 c') : After g H0 H1 c' := ⟨s.per.trans a.per, a.cup, a.tabs, fun b e => s.dm b (a.dm b e)⟩
theorem SOK.set (s : SOK g B B' H0 ρ c σ H) {i : Nat} {v : V} {x : Mi.D} (r : Rp g B' H v x) : SOK g B B' H0 (ρ.set i (.d x)) c (σ.set i (some v)) H where
  len := by rw [List.length_set, List.length_set]; exact s.len
  env := fun j sl e => by
    by_cases h : i = j
    · subst h
      by_cases hl : i < ρ.length
      · rw [List.getElem?_set_self hl] at e
        cases e
        rw [List.getElem?_set_self (by rw [← s.len]; exact hl)]
        exact ⟨v, rfl, r⟩
      · rw [List.getElem?_eq_none (by rw [List.length_set]; omega)] at e; cases e
    · rw [List.getElem?_set_ne h] at e ⊢
      exact s.env j sl e
  inj := fun j k xs ys a e1 e2 e3 e4 => by
    have n1 : i ≠ j := fun z => by
      subst z
      by_cases hl : i < ρ.length
      · rw [List.getElem?_set_self hl] at e1; cases e1
      · rw [List.getElem?_eq_none (by rw [List.length_set]; omega)] at e1; cases e1
    have n2 : i ≠ k := fun z => by
      subst z
      by_cases hl : i < ρ.length
      · rw [List.getElem?_set_self hl] at e2; cases e2
      · rw [List.getElem?_eq_none (by rw [List.length_set]; omega)] at e2; cases e2
    rw [List.getElem?_set_ne n1] at e1 e3
    rw [List.getElem?_set_ne n2] at e2 e4
    exact s.inj j k xs ys a e1 e2 e3 e4
  st := s.st
  sub := s.sub
  cb := s.cb
  per := s.per
  dm := s.dm
/-- a list that is the frame's own from now on -/
theorem SOK.setBox (s : SOK g B B' H0 ρ c σ H) (a : After g H H1 c') {i : Nat} {p : Addr} {vs : List V} {xs : List Mi.D} (hp : H p = none) (e1 : H1 p = some (.lst vs)) (r : RpA g (fun a => B' a ∨ a = p) H1 vs xs) :
    SOK g B (fun a => B' a ∨ a = p) H0 (ρ.set i (.box xs)) c' (σ.set i (some (.ref p))) H1 ∧ Gr B' H (fun a => B' a ∨ a = p) H1 := by
  have gr : Gr B' H (fun a => B' a ∨ a = p) H1 := fun b o e nb nt => ⟨a.per b o e (fun z => nb (s.st.cb b z)) nt, fun z => z.elim nb fun z => by rw [z, hp] at e; cases e⟩
  have s1 := s.after a
  have old : ∀ (j : Nat) (b : Addr) (ys : List Mi.D), ρ[j]? = some (.box ys) → σ[j]? = some (some (.ref b)) → b ≠ p := fun j b ys h1 h2 z => by
    obtain ⟨b', vs', k1, k2, k3, k4, k5, k6⟩ := s.env j _ h1
    rw [h2] at k1; cases k1
    rw [z, hp] at k5; cases k5
  refine ⟨⟨by rw [List.length_set, List.length_set]; exact s.len, fun j sl e => ?_, fun j k ys zs b h1 h2 h3 h4 => ?_, ⟨s1.st.cup, s1.st.tabs, fun b hb => ?_, fun b z => .inl (s.st.cb b z)⟩, fun b z => .inl (s.sub b z), s.cb, s1.per, s1.dm⟩, gr⟩
  · by_cases h : i = j
    · subst h
      by_cases hl : i < ρ.length
      · rw [List.getElem?_set_self hl] at e
        cases e
        rw [List.getElem?_set_self (by rw [← s.len]; exact hl)]
        exact ⟨p, vs, rfl, .inr rfl, fun z => s.st.nb hp (s.sub p z), s.dm p hp, e1, r⟩
      · rw [List.getElem?_eq_none (by rw [List.length_set]; omega)] at e; cases e
    · rw [List.getElem?_set_ne h] at e ⊢
      have z := s.env j sl e
      cases sl with
      | no => trivial
      | d x => obtain ⟨v, h1, h2⟩ := z; exact ⟨v, h1, h2.re gr⟩
      | box ys =>
        obtain ⟨b, ws, h1, h2, h3, h4, h5, h6⟩ := z
        exact ⟨b, ws, h1, .inl h2, h3, h4, a.per b _ h5 (fun q => h3 (s.cb b q)) (fun ps z => by cases z), h6.re gr⟩
  · by_cases n1 : i = j
    · by_cases n2 : i = k
      · exact n1.symm.trans n2
      · subst n1
        rw [List.getElem?_set_ne n2] at h2 h4
        by_cases hl : i < σ.length
        · rw [List.getElem?_set_self hl] at h3
          cases h3
          exact absurd rfl (old k p zs h2 h4)
        · rw [List.getElem?_eq_none (by rw [List.length_set]; omega)] at h3; cases h3
    · rw [List.getElem?_set_ne n1] at h1 h3
      by_cases n2 : i = k
      · subst n2
        by_cases hl : i < σ.length
        · rw [List.getElem?_set_self hl] at h4
          cases h4
          exact absurd rfl (old j p ys h1 h3)
        · rw [List.getElem?_eq_none (by rw [List.length_set]; omega)] at h4; cases h4
      · rw [List.getElem?_set_ne n2] at h2 h4
        exact s.inj j k ys zs b h1 h2 h3 h4
  · rcases hb with hb | hb
    · exact s1.st.dom b hb
    · rw [hb]; exact ⟨_, e1⟩
/-- one of the frame's own lists is changed -/
theorem SOK.write (s : SOK g B B' H0 ρ c σ H) {i : Nat} {a : Addr} {xs ys : List Mi.D} {ws : List V} (h1 : ρ[i]? = some (.box xs)) (h2 : σ[i]? = some (some (.ref a))) (r : RpA g B' H ws ys) :
    SOK g B B' H0 (ρ.set i (.box ys)) c σ (upd H a (.lst ws)) ∧ Gr B' H B' (upd H a (.lst ws)) := by
  obtain ⟨a', vs, k1, k2, k3, k4, k5, k6⟩ := s.env i _ h1
  rw [h2] at k1; cases k1
  have gr : Gr B' H B' (upd H a (.lst ws)) := fun b o e nb nt => ⟨by rw [upd_ne (fun z => nb (by rw [z]; exact k2))]; exact e, nb⟩
  have nc : g.ca ≠ some a := fun z => k3 (s.cb a z)
  have hl : i < ρ.length := (List.getElem?_eq_some_iff.mp h1).1
  refine ⟨⟨by rw [List.length_set]; exact s.len, fun j sl e => ?_, fun j k zs us b e1 e2 e3 e4 => ?_, ⟨?_, tabs_upd k5 s.st.tabs, fun b hb => ?_, s.st.cb⟩, s.sub, s.cb, fun b o e nb nt => ?_, fun b e => ?_⟩, gr⟩
  · by_cases h : i = j
    · subst h
      rw [List.getElem?_set_self hl] at e
      cases e
      exact ⟨a, ws, h2, k2, k3, k4, upd_same, r.re gr⟩
    · rw [List.getElem?_set_ne h] at e
      have z := s.env j sl e
      cases sl with
      | no => trivial
      | d x => obtain ⟨v, q1, q2⟩ := z; exact ⟨v, q1, q2.re gr⟩
      | box zs =>
        obtain ⟨b, us, q1, q2, q3, q4, q5, q6⟩ := z
        have nb : b ≠ a := fun z => h (s.inj i j xs zs a h1 e h2 (by rw [q1, z]))
        exact ⟨b, us, q1, q2, q3, q4, by rw [upd_ne nb]; exact q5, q6.re gr⟩
  · have get : ∀ (j : Nat) (zs : List Mi.D), (ρ.set i (.box ys))[j]? = some (.box zs) → ∃ us, ρ[j]? = some (.box us) := fun j zs e => by
      by_cases h : i = j
      · subst h; exact ⟨xs, h1⟩
      · rw [List.getElem?_set_ne h] at e; exact ⟨zs, e⟩
    obtain ⟨u1, w1⟩ := get j zs e1
    obtain ⟨u2, w2⟩ := get k us e2
    exact s.inj j k u1 u2 b w1 w2 e3 e4
  · have k := s.st.cup
    unfold CupOK at k ⊢
    cases hc : g.ca with
    | none =>
      rw [hc] at k
      cases c with
      | none => trivial
      | some q => exact k.elim
    | some b =>
      rw [hc] at k
      cases c with
      | none => exact k.elim
      | some q =>
        obtain ⟨m, n⟩ := q
        show upd H a _ b = _
        rw [upd_ne (fun z => nc (by rw [hc, z]))]; exact k
  · by_cases hd : b = a
    · subst hd; exact ⟨_, upd_same⟩
    · rw [upd_ne hd]; exact s.st.dom b hb
  · rw [upd_ne (fun z => by rw [z, k4] at e; cases e)]; exact s.per b o e nb nt
  · by_cases hd : b = a
    · subst hd; exact k4
    · rw [upd_ne hd] at e; exact s.dm b e
mutual
theorem Rp.up (dom : ∀ a, B' a → ∃ xs, H a = some (.lst xs)) : ∀ {d : Mi.D} {v : V}, Rp g B H v d → noL d = true → Rp g B' H v d
  | .none, _, r, _ => by cases r; exact .non
  | .bool _, _, r, _ => by cases r; exact .bl _
  | .int _, _, r, _ => by cases r; exact .int _
  | .str _, _, r, _ => by cases r; exact .str _
  | .list ds, _, r, h => by simp [noL] at h
  | .tuple ds, _, r, h => by
    cases r with
    | tup nb e ra =>
      refine .tup (fun z => ?_) e (RpA.up dom ra (by simpa [noL] using h))
      obtain ⟨xs, e'⟩ := dom _ z
      rw [e] at e'; cases e'
  | .dict kvs, _, r, _ => by
    cases r with
    | fn e => exact .fn e
    | cup e => exact .cup e
    | ptr => exact .ptr
theorem RpA.up (dom : ∀ a, B' a → ∃ xs, H a = some (.lst xs)) : ∀ {ds : List Mi.D} {vs : List V}, RpA g B H vs ds → noLs ds = true → RpA g B' H vs ds
  | [], _, r, _ => by cases r; exact .nil
  | d :: ds, _, r, h => by
    cases r with
    | cons r1 r2 =>
      have h' : noL d = true ∧ noLs ds = true := by simpa [noLs] using h
      exact .cons (Rp.up dom r1 h'.1) (RpA.up dom r2 h'.2)
end
end
end Mi

namespace Mi
open PySem PySem.Spec PyProof.Rows L2
/-- a value that may be kept: told without the frame's own lists, or free of lists -/
def keepD (f : Ev) (ρ : En) : M D := fun c => match f (strict ρ) c with
  | .ok d c' => .ok d c'
  | .err e c' => .err e c'
  | .stuck => match f ρ c with
    | .ok d c' => if noL d then .ok d c' else .stuck
    | .err e c' => .err e c'
    | .stuck => .stuck
def keepL (f : Av) (ρ : En) : M (List D) := fun c => match f (strict ρ) c with
  | .ok d c' => .ok d c'
  | .err e c' => .err e c'
  | .stuck => match f ρ c with
    | .ok d c' => if noLs d then .ok d c' else .stuck
    | .err e c' => .err e c'
    | .stuck => .stuck
def nxt (ρ : En) : M (Fl × En) := rt (.next, ρ)
def sNop : Sv := nxt
def sSeq (f h : Sv) : Sv := fun ρ => bd (f ρ) fun p => match p.1 with
  | .next => h p.2
  | _ => rt p
def sExp (f : Ev) : Sv := fun ρ => bd (f ρ) fun _ => nxt ρ
def sRet (f : Ev) : Sv := fun ρ => bd (f ρ) fun d => rt (.ret d, ρ)
def sRetN : Sv := fun ρ => rt (.ret .none, ρ)
def sBrk : Sv := fun ρ => rt (.brk, ρ)
def sCnt : Sv := fun ρ => rt (.cont, ρ)
def sIf (t : Tv) (a b : Sv) : Sv := fun ρ => bd (t ρ) fun k => if k then a ρ else b ρ
def sAsg (t : Tg) (f : Ev) : Sv := fun ρ => bd (keepD f ρ) fun d => match bindT t d ρ with
  | some ρ' => nxt ρ'
  | none => no
def sBox (i : Nat) (f : Av) : Sv := fun ρ => bd (keepL f ρ) fun xs => nxt (ρ.set i (.box xs))
def sPar (i j : Nat) (f : Av) : Sv := fun ρ => bd (keepL f ρ) fun xs => match xs with
  | [x, y] => nxt ((ρ.set i (.d x)).set j (.d y))
  | _ => no
def sApp (i : Nat) (f : Ev) : Sv := fun ρ => match ρ[i]? with
  | some (.box xs) => bd (keepD f ρ) fun d => if xs.length < sizeLine then nxt (ρ.set i (.box (xs ++ [d]))) else no
  | _ => no
def sRaise (e : Str) : Sv := fun _ c => .err e c
def forGo (t : Tg) (body : Sv) : List D → Sv
  | [], ρ => nxt ρ
  | d :: ds, ρ => match bindT t d ρ with
    | none => no
    | some ρ' => bd (body ρ') fun p => match p.1 with
      | .next => forGo t body ds p.2
      | .cont => forGo t body ds p.2
      | .brk => nxt p.2
      | .ret _ => rt p
def sFor (t : Tg) (iv : Iv) (body : Sv) : Sv := fun ρ => bd (iv (strict ρ)) fun ds => forGo t body ds ρ
def whGo (t : Tv) (body : Sv) : Nat → Sv
  | 0, _ => no
  | n + 1, ρ => bd (t ρ) fun k => if k then bd (body ρ) fun p => match p.1 with
      | .next => whGo t body n p.2
      | .cont => whGo t body n p.2
      | .brk => nxt p.2
      | .ret _ => rt p
    else nxt ρ
section
variable {X : Cx} {g : G} {B B' B1 : Addr → Prop} {H0 H H1 : Hp} {W : WX} {ρ : En} {c c' : Cp} {σ : L2.St} {D : Ends} {e : Expr} {f : Ev} {fl : Av} {pos : Pos}
theorem keep_split {Q : VK} (s : SOK g B B' H0 ρ c σ H) (h : Post g W σ H (RD g B') (keepD f ρ c) Q) : tF g B' W f σ H Q ∨ tF g B W f σ H Q := by
  unfold keepD at h
  cases e1 : f (strict ρ) c with
  | ok d c1 => rw [e1] at h; exact .inl ⟨_, c, s.strict, by rw [e1]; exact h⟩
  | err er c1 => rw [e1] at h; exact .inl ⟨_, c, s.strict, by rw [e1]; exact h⟩
  | stuck =>
    rw [e1] at h
    simp only at h
    cases e2 : f ρ c with
    | ok d c1 =>
      rw [e2] at h
      simp only at h
      by_cases hn : noL d = true
      · rw [if_pos hn] at h
        refine .inr ⟨ρ, c, s.loose, ?_⟩
        rw [e2]
        exact fun v H2 a r => h v H2 a (r.up (dom_after (a := a) s.st.dom) hn)
      · rw [if_neg hn] at h; exact h.elim
    | err er c1 => rw [e2] at h; exact .inr ⟨ρ, c, s.loose, by rw [e2]; exact h⟩
    | stuck => rw [e2] at h; exact h.elim
theorem keepL_splitF {Q : VK} (s : SOK g B B' H0 ρ c σ H) (h : Post g W σ H (FrL g B' H) (keepL fl ρ c) Q) : tL g B' W fl σ H Q ∨ tL g B W fl σ H Q := by
  unfold keepL at h
  cases e1 : fl (strict ρ) c with
  | ok d c1 => rw [e1] at h; exact .inl ⟨_, c, s.strict, by rw [e1]; exact h⟩
  | err er c1 => rw [e1] at h; exact .inl ⟨_, c, s.strict, by rw [e1]; exact h⟩
  | stuck =>
    rw [e1] at h
    simp only at h
    cases e2 : fl ρ c with
    | ok d c1 =>
      rw [e2] at h
      simp only at h
      by_cases hn : noLs d = true
      · rw [if_pos hn] at h
        refine .inr ⟨ρ, c, s.loose, ?_⟩
        rw [e2]
        intro v H2 a r
        obtain ⟨p, vs, rfl, h1, h2, h3⟩ := r
        refine h _ H2 a ⟨p, vs, rfl, h1, h2, h3.up (fun x hx => ?_) hn⟩
        rcases hx with hx | hx
        · exact dom_after (a := a) s.st.dom x hx
        · rw [hx]; exact ⟨_, h2⟩
      · rw [if_neg hn] at h; exact h.elim
    | err er c1 => rw [e2] at h; exact .inr ⟨ρ, c, s.loose, by rw [e2]; exact h⟩
    | stuck => rw [e2] at h; exact h.elim
theorem keepL_splitA {Q : List V → Hp → Prop} (s : SOK g B B' H0 ρ c σ H) (h : Post g W σ H (RDs g B') (keepL fl ρ c) Q) : tA g B' W fl σ H Q ∨ tA g B W fl σ H Q := by
  unfold keepL at h
  cases e1 : fl (strict ρ) c with
  | ok d c1 => rw [e1] at h; exact .inl ⟨_, c, s.strict, by rw [e1]; exact h⟩
  | err er c1 => rw [e1] at h; exact .inl ⟨_, c, s.strict, by rw [e1]; exact h⟩
  | stuck =>
    rw [e1] at h
    simp only at h
    cases e2 : fl ρ c with
    | ok d c1 =>
      rw [e2] at h
      simp only at h
      by_cases hn : noLs d = true
      · rw [if_pos hn] at h
        refine .inr ⟨ρ, c, s.loose, ?_⟩
        rw [e2]
        exact fun v H2 a r => h v H2 a (r.up (dom_after (a := a) s.st.dom) hn)
      · rw [if_neg hn] at h; exact h.elim
    | err er c1 => rw [e2] at h; exact .inr ⟨ρ, c, s.loose, by rw [e2]; exact h⟩
    | stuck => rw [e2] at h; exact h.elim
/-- from a statement's end to an expression's: the expression m, then k -/
theorem posts_bd {α β : Type} {R : Hp → β → α → Prop} {m : M α} {k : α → M (Fl × En)} (s : SOK g B B' H0 ρ c σ H) (h : PostS g B H0 W B' H (bd m k c) D) :
    Post g W σ H R (m c) fun b H1 => ∃ a c1, R H1 b a ∧ After g H H1 c1 ∧ SOK g B B' H0 ρ c1 σ H1 ∧ PostS g B H0 W B' H1 (k a c1) D := by
  unfold bd at h
  cases e1 : m c with
  | ok a c1 =>
    rw [e1] at h
    exact fun b H1 x y => ⟨a, c1, y, x, s.after x, h.later (gr_after s.st.cb x)⟩
  | err er c1 => rw [e1] at h; exact fun C H1 x y => h C σ H1 (s.aft x) y
  | stuck => rw [e1] at h; exact h.elim
theorem posts_next {ρ1 : En} (s : SOK g B B' H0 ρ1 c σ H) (h : PostS g B H0 W B' H (nxt ρ1 c) D) : D.nx σ H := h _ _ _ s Gr.refl
abbrev bod (g : G) (B : Addr → Prop) (H0 : Hp) (W : WX) (f : Sv) : TS := tS g B H0 W f
theorem st_nil : PSs X [] (tS g B H0 W sNop) := ⟨fun pins s σ H D I ⟨B', ρ, c, so, h⟩ => pss_nil.run pins s σ H D I (posts_next so h)⟩
theorem st_cons {st : Stmt} {rest : List Stmt} {a b : Sv} (h1 : PS X st (tS g B H0 W a)) (h2 : PSs X rest (tS g B H0 W b)) : PSs X (st :: rest) (tS g B H0 W (sSeq a b)) := by
  refine ⟨fun pins s σ H D I ⟨B', ρ, c, so, h⟩ => (pss_cons h1 h2).run pins s σ H D I ?_⟩
  refine ⟨B', ρ, c, so, ?_⟩
  have h' : PostS g B H0 W B' H (bd (a ρ) (fun p => match p.1 with | .next => b p.2 | _ => rt p) c) D := h
  unfold bd at h'
  cases e1 : a ρ c with
  | stuck => rw [e1] at h'; exact h'
  | err er c1 => rw [e1] at h'; exact h'
  | ok p c1 =>
    rw [e1] at h'
    obtain ⟨fl, ρ1⟩ := p
    cases fl with
    | next => exact fun B1 σ1 H1 s1 gr => ⟨B1, ρ1, c1, s1, PostS.later gr h'⟩
    | brk => exact h'
    | cont => exact h'
    | ret d => exact h'
theorem st_pass : PS X (.Pass pos) (tS g B H0 W sNop) := ⟨fun pins s σ H D I ⟨B', ρ, c, so, h⟩ => ps_pass.run pins s σ H D I (posts_next so h)⟩
theorem st_brk : PS X (.Break pos) (tS g B H0 W sBrk) := ⟨fun pins s σ H D I ⟨B', ρ, c, so, h⟩ => ps_break.run pins s σ H D I (h _ _ _ so Gr.refl)⟩
theorem st_cnt : PS X (.Continue pos) (tS g B H0 W sCnt) := ⟨fun pins s σ H D I ⟨B', ρ, c, so, h⟩ => ps_continue.run pins s σ H D I (h _ _ _ so Gr.refl)⟩
theorem st_exp (he : PE X e (tF g B W f)) (hs : swapsWith e none pos.line X.env = pure false) : PS X (.Expr e pos) (tS g B H0 W (sExp f)) := by
  refine ⟨fun pins s σ H D I ⟨B', ρ, c, so, h⟩ => (ps_expr he hs).run pins s σ H D I ?_⟩
  refine post_of so.loose (posts_bd (R := RD g B) so h) fun v H1 ⟨x, c1, r1, a1, s1, h1⟩ => posts_next s1 h1
theorem st_ret (he : PE X e (tF g B W f)) : PS X (.Return (some e) pos) (tS g B H0 W (sRet f)) := by
  refine ⟨fun pins s σ H D I ⟨B', ρ, c, so, h⟩ => (ps_ret he).run pins s σ H D I ?_⟩
  refine post_of so.loose (posts_bd (R := RD g B) so h) fun v H1 ⟨x, c1, r1, a1, s1, h1⟩ => h1 v H1 (so.aft a1) r1
theorem st_retN : PS X (.Return none pos) (tS g B H0 W sRetN) :=
  ⟨fun pins s σ H D I ⟨B', ρ, c, so, h⟩ => ps_retN.run pins s σ H D I (h .non H (so.aft so.st.refl) .non)⟩
theorem st_if {tst : Expr} {a b : List Stmt} {t : Tv} {fa fb : Sv} (ht : PT X tst (tT g B W t)) (ha : PSs X a (tS g B H0 W fa)) (hb : PSs X b (tS g B H0 W fb)) : PS X (.If tst a b pos) (tS g B H0 W (sIf t fa fb)) := by
  refine ⟨fun pins s σ H D I ⟨B', ρ, c, so, h⟩ => (ps_if ht ha hb).run pins s σ H D I ?_⟩
  refine ⟨ρ, c, so.loose, (posts_bd (R := RB) so h).mono fun k H1 ⟨x, c1, r1, a1, s1, h1⟩ => ?_⟩
  cases r1
  cases k with
  | true => simp only [if_true] at h1 ⊢; exact ⟨B', ρ, c1, s1, h1⟩
  | false => simp only [Bool.false_eq_true, if_false] at h1 ⊢; exact ⟨B', ρ, c1, s1, h1⟩
/-! stores -/
theorem namesS_ok : ∀ {is : List Nat} {xs : List V} {ds : List Mi.D} {ρ : En} {σ : L2.St} {K2 : L2.St → Hp → Prop}, SOK g B B' H0 ρ c σ H → RpA g B' H xs ds → ds.length = is.length →
    (∀ σ', SOK g B B' H0 (setAll ρ is ds) c σ' H → K2 σ' H) → gNames is xs σ H K2
  | [], xs, ds, ρ, σ, K2, s, r, hl, k => by
    cases ds with
    | nil => cases r; exact ⟨rfl, k σ s⟩
    | cons d ds => cases hl
  | i :: is, xs, [], ρ, σ, K2, s, r, hl, k => by cases hl
  | i :: is, xs, d :: ds, ρ, σ, K2, s, r, hl, k => by
    cases r with
    | cons r1 r2 => exact ⟨_, _, rfl, namesS_ok (s.set r1) r2 (Nat.succ.inj hl) fun σ' s' => k σ' s'⟩
theorem gTS_ok {K : PySem.W.Frag} {t : Tg} {x : V} {d : Mi.D} {ρ' : En} {K2 : L2.St → Hp → Prop} (s : SOK g B B' H0 ρ c σ H) (r : Rp g B' H x d) (h : bindT t d ρ = some ρ') (k : ∀ σ', SOK g B B' H0 ρ' c σ' H → K2 σ' H) : gT K t x σ H K2 := by
  cases t with
  | nm i => cases h; exact k _ (s.set r)
  | tp is =>
    cases d <;> try (cases h; done)
    obtain ⟨hl, e⟩ := ite_some_eq (show (if _ = is.length then some (setAll ρ is _) else none) = some ρ' from h)
    subst e
    cases r with
    | tup n e ra => exact ⟨_, _, rfl, SqT.of e, by rw [ra.length]; exact hl, namesS_ok s ra hl k⟩
theorem asg_end {K : PySem.W.Frag} {t : Tg} {v : V} {d : Mi.D} {c1 : Cp} (so : SOK g B B' H0 ρ c1 σ H1) (r : Rp g B' H1 v d) (h : PostS g B H0 W B' H1 ((match bindT t d ρ with | some ρ' => nxt ρ' | none => no : M (Fl × En)) c1) D) : gT K t v σ H1 D.nx := by
  cases eb : bindT t d ρ with
  | none => rw [eb] at h; exact h.elim
  | some ρ' =>
    rw [eb] at h
    exact gTS_ok so r eb fun σ' s' => posts_next (W := W) s' h
theorem asg_read {K : PySem.W.Frag} {t : Tg} (so : SOK g B B' H0 ρ c σ H) (h : PostS g B H0 W B' H (sAsg t f ρ c) D) : tF g B' W f σ H (fun v H1 => gT K t v σ H1 D.nx) ∨ tF g B W f σ H (fun v H1 => gT K t v σ H1 D.nx) :=
  keep_split so ((posts_bd (R := RD g B') so h).mono fun v H1 ⟨x, c1, r1, a1, s1, h1⟩ => asg_end s1 r1 h1)
theorem st_asg {tg : Expr} {t : Tg} (he : ∀ B, PE X e (tF g B W f)) (hg : PG X tg (gT X.K t)) (hs : swapsWithSole [tg] e pos.line X.env = pure false) (hw : swappedStores [tg] e X.env = pure none)
    (h1 : (assignEach [tg] X.env).map (·.2) = [assign tg X.env]) : PS X (.Assign [tg] e pos) (tS g B H0 W (sAsg t f)) := by
  refine ⟨fun pins s σ H D I ⟨B', ρ, c, so, h⟩ => ?_⟩
  rcases asg_read (K := X.K) so h with z | z
  · exact (ps_asg (he B') hg hs hw h1).run pins s σ H D I z
  · exact (ps_asg (he B) hg hs hw h1).run pins s σ H D I z
theorem box_read {i : Nat} (so : SOK g B B' H0 ρ c σ H) (h : PostS g B H0 W B' H (sBox i fl ρ c) D) : tL g B' W fl σ H (fun v H1 => gName i v σ H1 D.nx) ∨ tL g B W fl σ H (fun v H1 => gName i v σ H1 D.nx) := by
  refine keepL_splitF so ?_
  have h' : PostS g B H0 W B' H (bd (keepL fl ρ) (fun xs => nxt (ρ.set i (.box xs))) c) D := h
  unfold bd at h'
  cases e1 : keepL fl ρ c with
  | stuck => rw [e1] at h'; exact h'.elim
  | err er c1 => rw [e1] at h'; exact fun C H1 x y => h' C σ H1 (so.aft x) y
  | ok xs c1 =>
    rw [e1] at h'
    rintro v H1 a ⟨p, vs, rfl, q1, q2, q3⟩
    obtain ⟨s2, gr⟩ := so.setBox (i := i) a q1 q2 q3
    exact h' _ _ _ s2 gr
theorem st_box {i : Nat} {y : Str} {py : Pos} (he : ∀ B, PE X e (tL g B W fl)) (hg : PG X (.Name y py) (gName i)) (hs : swapsWithSole [.Name y py] e pos.line X.env = pure false) (hw : swappedStores [.Name y py] e X.env = pure none)
    (h1 : (assignEach [.Name y py] X.env).map (·.2) = [assign (.Name y py) X.env]) : PS X (.Assign [.Name y py] e pos) (tS g B H0 W (sBox i fl)) := by
  refine ⟨fun pins s σ H D I ⟨B', ρ, c, so, h⟩ => ?_⟩
  rcases box_read so h with z | z
  · exact (ps_asg (he B') hg hs hw h1).run pins s σ H D I z
  · exact (ps_asg (he B) hg hs hw h1).run pins s σ H D I z
theorem st_par {i j : Nat} {x y : Str} {a b : Expr} {px py pt pt2 : Pos} {kt k2 : Nat} (hc : X.calm = true) (hN : X.N.Nodup) (hi : X.N[i]? = some x) (hj : X.N[j]? = some y) (hij : i ≠ j) (hx : X.env.scope.names.lookup x = some .local) (hy : X.env.scope.names.lookup y = some .local)
    (ha : ∀ B, PA X [a, b] (tA g B W fl)) (hw : swappedStores [.Tuple [.Name x px, .Name y py] kt pt] (.Tuple [a, b] k2 pt2) X.env = pure (some [x, y])) (hs : swapsWithSole [.Tuple [.Name x px, .Name y py] kt pt] (.Tuple [a, b] k2 pt2) pos.line X.env = pure false) :
    PS X (.Assign [.Tuple [.Name x px, .Name y py] kt pt] (.Tuple [a, b] k2 pt2) pos) (tS g B H0 W (sPar i j fl)) := by
  refine ⟨fun pins s σ H D I ⟨B', ρ, c, so, h⟩ => ?_⟩
  have key : tA g B' W fl σ H (fun vs H1 => ∃ v w, vs = [v, w] ∧ D.nx ((σ.set i (some v)).set j (some w)) H1) ∨ tA g B W fl σ H (fun vs H1 => ∃ v w, vs = [v, w] ∧ D.nx ((σ.set i (some v)).set j (some w)) H1) := by
    refine keepL_splitA so ((posts_bd (R := RDs g B') so h).mono fun vs H1 ⟨xs, c1, r1, a1, s1, h1⟩ => ?_)
    match xs, r1, h1 with
    | [], _, h1 => exact h1.elim
    | [x], _, h1 => exact h1.elim
    | x :: y :: z :: r, _, h1 => exact h1.elim
    | [x, y], r1, h1 =>
      cases r1 with
      | cons ra rb => cases rb with
        | cons rb rn =>
          cases rn
          exact ⟨_, _, rfl, posts_next ((s1.set ra).set rb) h1⟩
  rcases key with z | z
  · exact (ps_par hc hN hi hj hij hx hy (ha B') hw hs).run pins s σ H D I z
  · exact (ps_par hc hN hi hj hij hx hy (ha B) hw hs).run pins s σ H D I z
end
end Mi

namespace Mi
open PySem PySem.Spec PyProof.Rows L2
section
variable {X : Cx} {g : G} {B B' B1 : Addr → Prop} {H0 H H1 : Hp} {W : WX} {ρ : En} {c c' : Cp} {σ : L2.St} {D : Ends} {e : Expr} {f : Ev} {fl : Av} {pos : Pos}
theorem st_app {i : Nat} {x : Str} {px apos cpos : Pos} (hN : X.N[i]? = some x) (hv : Vis X.env.scope x) (hd : (x == ("__debug__" : Str)) = false) (hcd : (x == ("__classdict__" : Str)) = false) (he : ∀ B, PE X e (tF g B W f))
    (hst : starEach [e] X.env = (false, eval e X.env) :: starEach [] X.env) (hl : (apos.endLine == cpos.line) = true) : PS X (.Expr (.Call (.Attribute (.Name x px) "append" apos) [e] [] cpos) pos) (tS g B H0 W (sApp i f)) := by
  refine ⟨fun pins s σ H D I ⟨B', ρ, c, so, h⟩ => ?_⟩
  have rule : ∀ B2, PS X (.Expr (.Call (.Attribute (.Name x px) "append" apos) [e] [] cpos) pos) (tDrop (tBM X.K "list" rAppend (tVar i) (tCons (tF g B2 W f) tNil))) := fun B2 =>
    ps_expr (pe_bm PySem.F.plainAttrs_list PySem.F.slot_list_append PySem.F.type_list_append mt_append (pe_var hN hv hd hcd) (pa_cons (he B2) pa_nil hst) rfl (by rw [hst]; rfl) hl hst rfl)
  have h0 : PostS g B H0 W B' H ((match ρ[i]? with | some (.box xs) => bd (keepD f ρ) fun d => if xs.length < sizeLine then nxt (ρ.set i (.box (xs ++ [d]))) else no | _ => no : M (Fl × En)) c) D := h
  cases eb : ρ[i]? with
  | none => rw [eb] at h0; exact h0.elim
  | some sl =>
    rw [eb] at h0
    cases sl with
    | no => exact h0.elim
    | d x => exact h0.elim
    | box xs =>
      obtain ⟨a, vs, k1, k2, k3, k4, k5, k6⟩ := so.env i _ eb
      have z : Post g W σ H (RD g B') (keepD f ρ c) (fun v H2 => ∃ l ys y, V.ref a = .ref l ∧ [v] = [y] ∧ H2 l = some (.lst ys) ∧ ys.length < sizeLine ∧ D.nx σ (upd H2 l (.lst (ys ++ [y])))) := by
        refine (posts_bd (R := RD g B') so h0).mono fun v H2 ⟨d, c1, r1, a1, s1, h1⟩ => ?_
        obtain ⟨a', vs', q1, q2, q3, q4, q5, q6⟩ := s1.env i _ eb
        rw [k1] at q1; cases q1
        by_cases hl : xs.length < sizeLine
        · rw [if_pos hl] at h1
          obtain ⟨s2, gr⟩ := s1.write eb k1 (q6.append (.cons r1 .nil))
          exact ⟨a, vs', v, rfl, rfl, q5, by rw [q6.length]; exact hl, h1 _ _ _ s2 gr⟩
        · rw [if_neg hl] at h1; exact h1.elim
      rcases keep_split so z with z | z
      · exact (rule B').run pins s σ H D I ⟨.ref a, k1, .inl ⟨rfl, vs, SqL.of k5⟩, z⟩
      · exact (rule B).run pins s σ H D I ⟨.ref a, k1, .inl ⟨rfl, vs, SqL.of k5⟩, z⟩
theorem st_raise {x m : Str} {j : Nat} {p p2 pos2 : Pos} {C : Addr} (hc : X.calm = true) (tk : L2N.Takes X W) (q : PySem.W.excIn X.K C [.type "ValueError", .type "Exception", .type "BaseException", .type "object"] "ValueError.__new__" = true) (gC : X.mg x = some (.ref C))
    (kC : PySem.W.keepIn X.K (.ref C) = true) (h1 : PySem.W.subIn X.K (.ref C) (.type "BaseException") = some true) (h2 : PySem.W.typeIn X.K (.ref C) = some (.type "type")) (hg : Gl X x) (hdb : (x == ("__debug__" : Str)) = false) (hmg : X.mg = g.mg) :
    PS X (.Raise (some (.Call (.Name x p) [.Constant (.str m) j p2] [] pos)) none pos2) (tS g B H0 W (sRaise x)) := by
  refine ⟨fun pins s σ H D I ⟨B', ρ, c, so, h⟩ => (L2N.ps_raise hc tk (L2N.pmk_own PySem.F.excBase_ValueError q gC kC (raises_own h1 h2) hg hdb)).run pins s σ H D I ?_⟩
  exact h C σ H (so.aft so.st.refl) (by rw [← hmg]; exact gC)
/-! loops -/
theorem for_turn {K : PySem.W.Frag} {t : Tg} {fb : Sv} {d : Mi.D} {ds : List Mi.D} {x : V} {N : L2.St → Hp → Prop} (so : SOK g B B' H0 ρ c σ H) (rx : Rp g B' H x d) (h : PostS g B H0 W B' H (forGo t fb (d :: ds) ρ c) D)
    (hN : ∀ B1 ρ1 c1 σ1 H1, SOK g B B1 H0 ρ1 c1 σ1 H1 → Gr B' H B1 H1 → PostS g B H0 W B1 H1 (forGo t fb ds ρ1 c1) D → N σ1 H1) :
    gT K t x σ H fun σ2 H2 => tS g B H0 W fb { D with nx := N, ct := N, bk := D.nx } σ2 H2 := by
  have h' : PostS g B H0 W B' H ((match bindT t d ρ with | none => no | some ρ' => bd (fb ρ') fun p => match p.1 with | .next => forGo t fb ds p.2 | .cont => forGo t fb ds p.2 | .brk => nxt p.2 | .ret _ => rt p : M (Fl × En)) c) D := h
  cases eb : bindT t d ρ with
  | none => rw [eb] at h'; exact h'.elim
  | some ρ' =>
    rw [eb] at h'
    refine gTS_ok so rx eb fun σ' s' => ⟨B', ρ', c, s', ?_⟩
    unfold bd at h'
    simp only at h'
    cases e1 : fb ρ' c with
    | stuck => rw [e1] at h'; exact h'
    | err er c1 => rw [e1] at h'; exact h'
    | ok p c1 =>
      rw [e1] at h'
      obtain ⟨fl, ρ1⟩ := p
      cases fl with
      | next => exact fun B1 σ1 H1 s1 gr => hN B1 ρ1 c1 σ1 H1 s1 gr (PostS.later gr h')
      | cont => exact fun B1 σ1 H1 s1 gr => hN B1 ρ1 c1 σ1 H1 s1 gr (PostS.later gr h')
      | brk => exact h'
      | ret d => exact h'
theorem st_for {tg iter : Expr} {body : List Stmt} {t : Tg} {iv : Iv} {fb : Sv} (hp : PassesOwn (model X.prog X.w) X.A X.env X.xe) (hc : X.calm = true) (hi : ∀ B, PI X tg iter (tI g B W iv)) (hg : PG X tg (gT X.K t)) (hb : PSs X body (tS g B H0 W fb))
    (hf : ∀ x, foldedSetIterable iter X.env x = pure x) : PS X (.For tg iter body [] pos) (tS g B H0 W (sFor t iv fb)) := by
  refine ⟨fun pins s σ H D I ⟨B', ρ, c, so, h⟩ => (ps_for hp hc (hi B') hg hb hf).run pins s σ H D I ?_⟩
  refine ⟨_, c, so.strict, (posts_bd (R := fun H' J ds => Yl g B' J ds H') so h).mono fun J H1 ⟨ds, c1, yl, a1, s1, h1⟩ => ?_⟩
  refine ⟨fun i m σ H => m = ds.length - i ∧ i ≤ ds.length ∧ ∃ B1 ρ1 c1, SOK g B B1 H0 ρ1 c1 σ H ∧ Gr B' H1 B1 H ∧ PostS g B H0 W B1 H (forGo t fb (ds.drop i) ρ1 c1) D, ⟨ds.length, by simp, Nat.zero_le _, B', ρ, c1, s1, Gr.refl, h1⟩, ?_⟩
  rintro i m σ2 H2 ⟨rfl, hle, B2, ρ2, c2, s2, gr2, h2⟩
  have Y := yl B2 i H2 c2 gr2 s2.st
  by_cases hlt : i < ds.length
  · have ed : ds.drop i = ds[i] :: ds.drop (i + 1) := List.drop_eq_getElem_cons hlt
    rw [ed] at h2
    obtain ⟨go, yy⟩ := Y.1 ds[i] (List.getElem?_eq_getElem hlt)
    refine .inr ⟨go, fun σ H => i + 1 ≤ ds.length ∧ ∃ B1 ρ1 c1, SOK g B B1 H0 ρ1 c1 σ H ∧ Gr B' H1 B1 H ∧ PostS g B H0 W B1 H (forGo t fb (ds.drop (i + 1)) ρ1 c1) D, fun σ' H' ⟨z1, z2⟩ => ⟨ds.length - (i + 1), by omega, rfl, z1, z2⟩, fun x H' y => ?_⟩
    obtain ⟨af, rx⟩ := yy x H' y
    have gra : Gr B2 H2 B2 H' := gr_after s2.st.cb af
    exact for_turn (s2.after af) rx (h2.later gra) fun B3 ρ3 c3 σ3 H3 s3 gr3 h3 => ⟨hlt, B3, ρ3, c3, s3, (gr2.trans gra).trans gr3, h3⟩
  · have e : i = ds.length := by omega
    subst e
    rw [List.drop_length] at h2
    exact .inl ⟨Y.2 (List.getElem?_eq_none (Nat.le_refl _)), posts_next s2 h2⟩
theorem st_while {tst : Expr} {body : List Stmt} {t : Tv} {fb : Sv} {n : Nat} (hp : PassesOwn (model X.prog X.w) X.A X.env X.xe) (ht : PT X tst (tT g B W t)) (hb : PSs X body (tS g B H0 W fb)) : PS X (.While tst body [] pos) (tS g B H0 W (whGo t fb n)) := by
  refine ⟨fun pins s σ H D I ⟨B', ρ, c, so, h⟩ => (ps_while hp ht hb).run pins s σ H D I ?_⟩
  refine ⟨fun m σ H => ∃ B1 ρ1 c1, SOK g B B1 H0 ρ1 c1 σ H ∧ PostS g B H0 W B1 H (whGo t fb m ρ1 c1) D, ⟨n, B', ρ, c, so, h⟩, ?_⟩
  rintro m σ1 H1 ⟨B1, ρ1, c1, s1, h1⟩
  cases m with
  | zero => exact h1.elim
  | succ m =>
    refine ⟨ρ1, c1, s1.loose, (posts_bd (R := RB) s1 h1).mono fun k H2 ⟨x, c2, r2, a2, s2, h2⟩ => ?_⟩
    cases r2
    cases k with
    | false => simp only [Bool.false_eq_true, if_false] at h2 ⊢; exact posts_next s2 h2
    | true =>
      simp only [if_true] at h2 ⊢
      refine ⟨fun σ H => ∃ B1 ρ1 c1, SOK g B B1 H0 ρ1 c1 σ H ∧ PostS g B H0 W B1 H (whGo t fb m ρ1 c1) D, fun σ' H' z => ⟨m, Nat.lt_succ_self _, z⟩, B1, ρ1, c2, s2, ?_⟩
      unfold bd at h2
      cases e1 : fb ρ1 c2 with
      | stuck => rw [e1] at h2; exact h2
      | err er c3 => rw [e1] at h2; exact h2
      | ok p c3 =>
        rw [e1] at h2
        obtain ⟨fl, ρ3⟩ := p
        cases fl with
        | next => exact fun B3 σ3 H3 s3 gr => ⟨B3, ρ3, c3, s3, PostS.later gr h2⟩
        | cont => exact fun B3 σ3 H3 s3 gr => ⟨B3, ρ3, c3, s3, PostS.later gr h2⟩
        | brk => exact h2
        | ret d => exact h2
end
end Mi

namespace Mi
open PySem PySem.Spec PyProof.Rows L2
/-! new lists -/
def aLst (a : Av) : Av := fun ρ => bd (a ρ) fun xs => if xs.length ≤ sizeLine then rt xs else no
def aCat (a b : Ev) : Av := fun ρ => bd (a ρ) fun x => bd (b ρ) fun y => match x, y with
  | .list xs, .list ys => if xs.length + ys.length ≤ sizeLine then rt (xs ++ ys) else no
  | _, _ => no
def aBi (o : List D → Option (List D)) (a : Av) : Av := fun ρ => bd (a ρ) fun xs => ofO (o xs)
def listL : List D → Option (List D)
  | [.list ds] => some ds
  | [.tuple ds] => some ds
  | _ => none
section
variable {X : Cx} {g : G} {B B' B1 : Addr → Prop} {H0 H H1 : Hp} {W : WX} {ρ : En} {c c' : Cp} {σ : L2.St} {D : Ends} {e a b : Expr} {f fa fb : Ev} {fl : Av} {pos : Pos}
theorem frl_new {c1 : Cp} {H1 : Hp} {vs : List V} {xs : List Mi.D} (st1 : StH g B c1 H1) (dm : ∀ a, H1 a = none → H a = none) (r : RpA g B H1 vs xs) {p : Addr} (hp : H1 p = none) : FrL g B H (upd H1 p (.lst vs)) (.ref p) xs :=
  ⟨p, vs, rfl, dm p hp, upd_same, r.re fun b o e nb nt => ⟨by rw [upd_ne (ne_of_none e hp)]; exact e, fun z => z.elim nb (ne_of_none e hp)⟩⟩
theorem l_lst {es : List Expr} {r : Av} (h : PA X es (tA g B W r)) : PE X (.List es pos) (tL g B W (aLst r)) := by
  refine ⟨fun pins s σ H Q I ⟨ρ, c, st, hh⟩ => (pe_lst h).run pins s σ H Q I ?_⟩
  refine ⟨ρ, c, st, (Post.bd (R1 := RDs g B) hh).mono fun vs H1 ⟨xs, c1, r1, a1, h1⟩ => ?_⟩
  obtain ⟨z, h2⟩ := post_if h1
  have st1 := (st.after a1).h
  exact ⟨by rw [r1.length]; exact z, fun p hp => h2 _ _ (st1.new hp) (frl_new st1 a1.dm r1 hp)⟩
theorem l_cat (ha : PE X a (tF g B W fa)) (hb : PE X b (tF g B W fb)) : PE X (.BinOp a .Add b pos) (tL g B W (aCat fa fb)) := by
  refine ⟨fun pins s σ H Q I ⟨ρ, c, st, h⟩ => (pe_op op_cat ha hb).run pins s σ H Q I ?_⟩
  refine post_of st (Post.bd (R1 := RD g B) h) fun v H1 ⟨x, c1, r1, a1, h1⟩ => ?_
  refine post_of (st.after a1) (Post.bd (R1 := RD g B) h1) fun w H2 ⟨y, c2, r2, a2, h2⟩ => ?_
  have r1 := r1.after a2 st.cb
  have st2 := ((st.after a1).after a2).h
  cases x <;> try exact h2.elim
  cases y <;> try exact h2.elim
  obtain ⟨z, h3⟩ := post_if h2
  cases r1 with
  | lst n e ra => cases r2 with
    | lst n' e' ra' =>
      exact ⟨_, _, _, _, rfl, rfl, e, e', by rw [ra.length, ra'.length]; exact z, fun p hp => h3 _ _ (st2.new hp) (frl_new st2 (fun q hq => a1.dm q (a2.dm q hq)) (ra.append ra') hp)⟩
/-- a built-in that makes a list -/
def rLs (g : G) (B : Addr → Prop) (o : List Mi.D → Option (List Mi.D)) : List V → Hp → VK → Prop := fun vs H Q => ∃ ds xs c, StH g B c H ∧ RpA g B H vs ds ∧ o ds = some xs ∧ ∀ z H', After g H H' c → FrL g B H H' z xs → Q z H'
theorem cl_post {o : List Mi.D → Option (List Mi.D)} {Q : VK} (h : tL g B W (aBi o fl) σ H Q) : tCB (rLs g B o) (tA g B W fl) σ H Q := by
  obtain ⟨ρ, c, st, h⟩ := h
  refine ⟨ρ, c, st, (Post.bd (R1 := RDs g B) h).mono fun vs H1 ⟨xs, c1, r1, a1, h1⟩ => ?_⟩
  obtain ⟨z, e, q⟩ := post_ofO h1
  exact ⟨xs, z, c1, (st.after a1).h, r1, e, fun v H2 a2 f2 => q v H2 a2 (f2.early a1)⟩
theorem l_biB {x : Str} {id : String} {o : List Mi.D → Option (List Mi.D)} {es : List Expr} {p : Pos} (hc : CallR X (.builtin id) (rLs g B o)) (hg : Gl X x) (hm : X.mg x = none) (hv : bootBuiltins x = some (.builtin id)) (ha : PA X (a :: es) (tA g B W fl))
    (hn : x ≠ "__name__") (hdb : (x == ("__debug__" : Str)) = false) (he : starEach (a :: es) X.env = (false, eval a X.env) :: starEach es X.env) (hpl : (backTo pos (starEach es X.env)).any (·.1) = false) : PE X (.Call (.Name x p) (a :: es) [] pos) (tL g B W (aBi o fl)) :=
  ⟨fun pins s σ H Q I h => (pe_callB hc hg hm hv ha hn hdb he hpl).run pins s σ H Q I (cl_post h)⟩
theorem l_biT {x : Str} {T : String} {o : List Mi.D → Option (List Mi.D)} {es : List Expr} {p : Pos} (hc : CallR X (.type T) (rLs g B o)) (hg : Gl X x) (hm : X.mg x = none) (hv : bootBuiltins x = some (.type T)) (ha : PA X (a :: es) (tA g B W fl))
    (hn : x ≠ "__name__") (hdb : (x == ("__debug__" : Str)) = false) (he : starEach (a :: es) X.env = (false, eval a X.env) :: starEach es X.env) (hpl : (backTo pos (starEach es X.env)).any (·.1) = false) : PE X (.Call (.Name x p) (a :: es) [] pos) (tL g B W (aBi o fl)) :=
  ⟨fun pins s σ H Q I h => (pe_callTy hc hg hm hv ha hn hdb he hpl).run pins s σ H Q I (cl_post h)⟩
theorem bl_list : CallR X (.type "list") (rLs g B listL) := by
  refine CallR.of call_list_of fun xs H Q h => ?_
  obtain ⟨ds, d, c, st, r, e, q⟩ := h
  obtain ⟨x, rfl⟩ := one_arg e rfl (fun x y r => by cases x <;> rfl)
  obtain ⟨v, rfl, r1⟩ := r.one
  cases x <;> try (cases e; done)
  · cases e
    cases r1 with
    | lst n e1 ra => exact ⟨_, _, rfl, .inl (SqL.of e1), fun p hp => q _ _ (st.new hp) (frl_new st (fun _ z => z) ra hp)⟩
  · cases e
    cases r1 with
    | tup n e1 ra => exact ⟨_, _, rfl, .inr (SqT.of e1), fun p hp => q _ _ (st.new hp) (frl_new st (fun _ z => z) ra hp)⟩
/-! a comprehension stored at a name of the def -/
theorem tF_tL {Q : VK} (h : tF g B W (eOfA fl) σ H Q) : tL g B W fl σ H Q := by
  obtain ⟨ρ, c, st, h⟩ := h
  exact ⟨ρ, c, st, (Post.bd (R1 := FrL g B H) h).mono fun v H1 ⟨xs, c1, r1, a1, h1⟩ => h1 _ _ (AfterR a1) (r1.rp st.h)⟩
theorem st_asgLc {t : Tg} {i : Nat} (ht : t = .nm i) (he : ∀ B, ∃ tl, PS X (.Assign [e] a pos) (tAsg tl (gName i)) ∧ ∀ σ H Q, tL g B W fl σ H Q → tl σ H Q) : PS X (.Assign [e] a pos) (tS g B H0 W (sAsg t (eOfA fl))) := by
  subst ht
  refine ⟨fun pins s σ H D I ⟨B', ρ, c, so, h⟩ => ?_⟩
  rcases asg_read (K := X.K) so h with z | z
  · obtain ⟨tl, h1, h2⟩ := he B'
    exact h1.run pins s σ H D I (h2 σ H _ (tF_tL z))
  · obtain ⟨tl, h1, h2⟩ := he B
    exact h1.run pins s σ H D I (h2 σ H _ (tF_tL z))
theorem st_boxLc {i : Nat} (he : ∀ B, ∃ tl, PS X (.Assign [e] a pos) (tAsg tl (gName i)) ∧ ∀ σ H Q, tL g B W fl σ H Q → tl σ H Q) : PS X (.Assign [e] a pos) (tS g B H0 W (sBox i fl)) := by
  refine ⟨fun pins s σ H D I ⟨B', ρ, c, so, h⟩ => ?_⟩
  rcases box_read so h with z | z
  · obtain ⟨tl, h1, h2⟩ := he B'
    exact h1.run pins s σ H D I (h2 σ H _ z)
  · obtain ⟨tl, h1, h2⟩ := he B
    exact h1.run pins s σ H D I (h2 σ H _ z)
end
end Mi

/-! tuples, empty ones too, in sorting -/
namespace PySem.SeqAt
open PySem
variable {A : Around} {s : Shared}
theorem call_tuple_ltM {prog : Program} {w : World} {R : Value → Shared → Prop} {Q : Value → Shared → Prop} {p q : Addr} {us vs : Array Value} {eq lt : Nat → Bool} (hp : s.heap.IsTuple p us) (hq : s.heap.IsTuple q vs)
    (same : ∀ i (i1 : i < us.size) (i2 : i < vs.size), EqAt A.in1 s us[i] vs[i] (eq i)) (less : ∀ i (i1 : i < us.size) (i2 : i < vs.size), eq i = false → RcLt A.in1 s us[i] vs[i] (lt i))
    (fin : Q (.bool (firstLt eq lt (decide (us.size < vs.size)) (List.range (min us.size vs.size)))) s) : wpAny (model prog w) A (call (.builtin "tuple.__lt__") [.ref p, .ref q]) Q R s := by
  obtain ⟨⟨c1, d1, dat1, s1⟩, g1, k1, m1, z1⟩ := id hp
  obtain ⟨⟨c2, d2, dat2, s2⟩, g2, k2, m2, z2⟩ := id hq
  simp only at k1 z1 k2 z2
  subst k1 z1 k2 z2
  exact call_meets F.slot_tuple_lt ⟨_, g1, rfl⟩ F.entry_tuple_lt (F.args_tuple_lt_2 _ _) (tuple_ltAt p q us vs m1 m2 d1 d2 s1 s2 eq lt) ⟨g1, g2, same, less, fin⟩
end PySem.SeqAt
namespace PySem.W
open PySem PySem.SeqAt PyProof.Rows
variable {prog : Program} {w : World} {A : Around} {E : Value → Shared → Prop} {s : Shared}
theorem oneLt_tup {xs ys : List PyData} {a b : Value} {as bs : List Addr} {Q : Bool → Shared → Prop} (ra : Reads s.heap a (.tuple xs) as) (rb : Reads s.heap b (.tuple ys) bs) (hal : alikeAll xs ys = true)
    (hu : A.units + min (PyData.tuple xs).depth (PyData.tuple ys).depth < cLine) (hq : Q (dataLt (.tuple xs) (.tuple ys)) s) : wpAny (model prog w) A (oneLt' true a b) Q E s := by
  cases ra with
  | @tuple l o vs n _ _ h1 h2 h3 h4 =>
    cases rb with
    | @tuple l' o' vs' n' _ _ k1 k2 k3 k4 =>
      have z1 : vs.size = xs.length := by simpa using SeqAt.ReadsAll.length _ _ _ h4
      have z2 : vs'.size = ys.length := by simpa using SeqAt.ReadsAll.length _ _ _ k4
      rw [dataLt_tuple, ← firstLt_toks xs ys hal, ← z1, ← z2] at hq
      rw [oneLt'_eq]
      simp only [if_true]
      refine wpAny_bind (wpAny_cRoomFor (room_here hu) ?_)
      refine wpAny_bind (wpAny_callSpecialIfBound?_slot (T := "tuple") ⟨_, h1, h2⟩ F.slot_tuple_lt ?_)
      refine call_tuple_ltM (eq := pairEq xs ys) (lt := fun j => dataLt (xs.getD j .none) (ys.getD j .none)) ⟨_, h1, h2, _, h3⟩ ⟨_, k1, k2, _, k3⟩ (fun j j1 j2 => ?_) (fun j j1 j2 hj => ?_) (wpAny_truthy_bool hq)
      · have q := eqAt_alikeAll xs ys A.in1 s vs.toList vs'.toList _ _ h4 k4 hal (room_in hu) j (by simpa using j1) (by simpa using j2)
        simpa using q
      · have q := rcLt_alikeAll xs ys A.in1 s vs.toList vs'.toList _ _ h4 k4 hal (room_in hu) j (by simpa using j1) (by simpa using j2) hj
        simpa using q
def neTup : PyData → Bool
  | .tuple (_ :: _) => true
  | _ => false
theorem firsts_mixed {M : Model} : ∀ (vs : List Value) (ds : List PyData) {Q : List (Option Value) → Shared → Prop}, EachIs (fun v d => ∃ as, Reads s.heap v d as) vs ds → (∀ d ∈ ds, ∃ xs, d = PyData.tuple xs) →
    (∀ l : List (Option Value), l.map Option.isSome = ds.map neTup → Q l s) → wpAny M A (vs.mapM firstOfTuple') Q E s
  | _, _, Q, .nil, _, h => by rw [List.mapM_nil]; exact wpAny_pure (h [] rfl)
  | v :: vs, d :: ds, Q, .cons e er, ht, h => by
    obtain ⟨as, r⟩ := e
    obtain ⟨xs, rfl⟩ := ht _ List.mem_cons_self
    rw [List.mapM_cons]
    refine wpAny_bind ?_
    cases r with
    | @tuple a o its n _ _ h1 h2 h3 h4 =>
      rw [kas_first_eq]
      refine wpAny_bind (Looks.here (show Looks M s.heap (typeOf (.ref a)) o.cls from (Looks.ld h1).andThen .now) ?_)
      rw [h2, if_neg (by first | decide | simp)]
      refine wpAny_bind (listItems_at h1 h3 (wpAny_pure ?_))
      have sz : its.toList.length = xs.length := SeqAt.ReadsAll.length _ _ _ h4
      have hs : its[0]?.isSome = neTup (.tuple xs) := by
        cases xs with
        | nil =>
          have : its.size = 0 := by simpa using sz
          rw [Array.getElem?_eq_none (by omega)]; rfl
        | cons x r =>
          have : its.size = r.length + 1 := by simpa using sz
          rw [Array.getElem?_eq_getElem (by omega)]; rfl
      exact wpAny_bind (firsts_mixed vs ds (Q := fun bs s' => wpAny M A (pure (its[0]? :: bs)) Q E s') er (fun d hd => ht d (List.mem_cons_of_mem _ hd)) fun l hl => wpAny_pure (h _ (by simp only [List.map_cons, hs, hl])))
theorem SortsAt.mixed {vs : List Value} {ds : List PyData} (e : EachIs (fun v d => ∃ as, Reads s.heap v d as) vs ds) (hal : AllAlike ds) (ht : ∀ d ∈ ds, ∃ xs, d = PyData.tuple xs) (hu : ∀ d, d ∈ ds → A.units + d.depth < cLine) : SortsAt prog w A s (dataKind s.heap ds) vs := by
  by_cases hne : ∀ d ∈ ds, neTup d = true
  · exact SortsAt.data e hal (.inl fun d hd => by
      obtain ⟨xs, rfl⟩ := ht d hd
      have q := hne _ hd
      cases xs with
      | nil => cases q
      | cons x r => exact ⟨x, r, rfl⟩) hu
  have room : ∀ (d1 d2 : PyData), d1 ∈ ds → A.units + min d1.depth d2.depth < cLine := fun d1 d2 m => by
    have z := hu d1 m
    omega
  have notAll : (ds.map neTup).all id = false := by
    rw [Bool.eq_false_iff]
    intro z
    refine hne fun d hd => ?_
    rw [List.all_eq_true] at z
    exact z _ (List.mem_map.mpr ⟨d, hd, rfl⟩)
  have lt : ∀ (f : Bool), H.LtAt prog w A s (dataKind s.heap ds) (if f = true then oneType' else general') := fun f E x y a b Q ha hb hq => by
    obtain ⟨d1, as1, m1, ra, rfl⟩ := dataKind_inv ha
    obtain ⟨d2, as2, m2, rb, rfl⟩ := dataKind_inv hb
    obtain ⟨xs, rfl⟩ := ht d1 m1
    obtain ⟨ys, rfl⟩ := ht d2 m2
    have hxy := hal _ m1 _ m2
    cases f with
    | true =>
      simp only [if_true]
      rw [keyLt'_oneType]
      exact oneLt_tup ra rb (by simpa [alike] using hxy) (room _ _ m1) hq
    | false =>
      simp only [Bool.false_eq_true, if_false]
      show wpAny (model prog w) A (oneLt' false x y) Q E s
      exact oneLt_alike (fun z => by cases z) ra rb hxy (fun z => by cases z) (room _ _ m1) hq
  refine ⟨fun v hv => ?_, ?_⟩
  · obtain ⟨d1, m1, as1, r1⟩ := e.left v hv
    exact ⟨_, dataKind_some hal m1 r1⟩
  · cases ds with
    | nil => exact absurd (fun d hd => absurd hd (by simp)) hne
    | cons d0 dr =>
      refine ⟨if (!neTup d0) = true then oneType' else general', lt _, fun h2 E Q hq => ?_⟩
      rw [kat_kind_eq, List.mapM_toArray, map_eq_pure_bind]
      refine wpAny_bind (wpAny_bind (firsts_mixed vs _ e ht fun l hl => wpAny_pure ?_))
      have ha : (l.toArray.all fun x => x.isSome) = false := by
        rw [← hl] at notAll
        rw [List.all_toArray]
        rw [List.all_map] at notAll
        exact notAll
      rw [if_neg (by rw [ha]; exact Bool.false_ne_true)]
      cases l with
      | nil => cases hl
      | cons o lr =>
        have ho : o.isSome = neTup d0 := by
          have q := congrArg List.head? hl
          simpa using q
        have h0 : ((o :: lr).toArray[0]?.bind id) = o := by simp
        rw [h0, ho]
        cases hz : neTup d0 with
        | true =>
          rw [hz] at hq
          simp only [if_true, Bool.not_true, Bool.false_eq_true, if_false] at hq ⊢
          exact wpAny_pure hq
        | false =>
          rw [hz] at hq
          simp only [Bool.false_eq_true, if_false, Bool.not_false, if_true] at hq ⊢
          rw [oneTypeOnly'_eq, List.mapM_toArray, map_eq_pure_bind]
          refine wpAny_bind (wpAny_bind (wpAny_bind (kas_mapM (r := Value.type "tuple") _ (fun v hv Q' hq' => ?_) (wpAny_pure ?_))))
          · obtain ⟨d, hd, as, r⟩ := e.left v hv
            obtain ⟨xs, rfl⟩ := ht d hd
            exact (looks_reads r).here hq'
          · cases e with
            | @cons v0 _ vr _ e1 er =>
              have q1 : (List.map (fun _ => Value.type "tuple") (v0 :: vr)).toArray[0]? = some (Value.type "tuple") := by simp
              rw [q1]
              have q2 : ((List.map (fun _ => Value.type "tuple") (v0 :: vr)).toArray.all fun x => x == Value.type "tuple") = true := by
                simp only [List.all_toArray, List.all_map, List.all_eq_true]
                intro _ _
                exact beq_self_eq_true _
              simp only [q2, if_true]
              exact wpAny_pure (wpAny_pure hq)
end PySem.W

namespace Mi
open PySem PySem.Spec PyProof.Rows L2
/-! sorted -/
def leD (x y : D) : Bool := PySem.W.dataLe false (fun d : D => d) x y
def insD (x : D) : List D → List D
  | [] => [x]
  | y :: r => if leD x y then x :: y :: r else y :: insD x r
def srtD : List D → List D
  | [] => []
  | x :: r => insD x (srtD r)
theorem le_tot : PySem.W.TotalLe leD := PySem.W.sortLe_total (listOrd itemOrd) false fun d : D => PySem.W.keyToks d
theorem ins_perm (x : D) : ∀ l : List D, (insD x l).Perm (x :: l)
  | [] => List.Perm.refl _
  | y :: r => by
    unfold insD
    by_cases h : leD x y = true
    · rw [if_pos h]
    · rw [if_neg h]
      exact ((ins_perm x r).cons y).trans (List.Perm.swap x y r)
theorem srt_perm : ∀ l : List D, (srtD l).Perm l
  | [] => List.Perm.refl _
  | x :: r => (ins_perm x _).trans ((srt_perm r).cons x)
theorem ins_pw (x : D) : ∀ {l : List D}, l.Pairwise (fun a b => leD a b = true) → (insD x l).Pairwise (fun a b => leD a b = true)
  | [], _ => List.pairwise_singleton _ _
  | y :: r, h => by
    obtain ⟨h1, h2⟩ := List.pairwise_cons.mp h
    unfold insD
    by_cases hx : leD x y = true
    · rw [if_pos hx]
      exact List.pairwise_cons.mpr ⟨fun z hz => (List.mem_cons.mp hz).elim (fun e => by rw [e]; exact hx) fun m => le_tot.trans _ _ _ hx (h1 z m), h⟩
    · rw [if_neg hx]
      refine List.pairwise_cons.mpr ⟨fun z hz => ?_, ins_pw x h2⟩
      rcases List.mem_cons.mp ((ins_perm x r).mem_iff.mp hz) with e | m
      · rw [e]; exact (le_tot.total y x).resolve_right hx
      · exact h1 z m
theorem srt_pw : ∀ l : List D, (srtD l).Pairwise (fun a b => leD a b = true)
  | [] => List.Pairwise.nil
  | x :: r => ins_pw x (srt_pw r)
theorem ins_filter (c x : D) : ∀ {l : List D}, (insD x l).filter (PySem.W.sameRank leD c) = (x :: l).filter (PySem.W.sameRank leD c)
  | [] => rfl
  | y :: r => by
    unfold insD
    by_cases hx : leD x y = true
    · rw [if_pos hx]
    · rw [if_neg hx, List.filter_cons, ins_filter c x, List.filter_cons]
      by_cases px : PySem.W.sameRank leD c x = true
      · have py : PySem.W.sameRank leD c y = false := by
          rw [Bool.eq_false_iff]
          intro py
          unfold PySem.W.sameRank at px py
          rw [Bool.and_eq_true] at px py
          exact hx (le_tot.trans _ _ _ px.2 py.1)
        rw [if_neg (by rw [py]; exact Bool.false_ne_true), if_pos px, List.filter_cons, if_pos px, List.filter_cons, if_neg (by rw [py]; exact Bool.false_ne_true)]
      · rw [if_neg px, List.filter_cons, if_neg px, List.filter_cons]
theorem srt_filter (c : D) : ∀ l : List D, (srtD l).filter (PySem.W.sameRank leD c) = l.filter (PySem.W.sameRank leD c)
  | [] => rfl
  | x :: r => by
    show (insD x (srtD r)).filter _ = _
    rw [ins_filter c x, List.filter_cons, List.filter_cons, srt_filter c r]
theorem srt_merge (l : List D) : l.mergeSort leD = srtD l := (PySem.W.sort_unique le_tot (srt_pw l) fun c => srt_filter c l).symm
def isTupD : D → Bool
  | .tuple _ => true
  | _ => false
def atomD : D → Bool
  | .int _ => true
  | .str _ => true
  | _ => false
def likeAll (ds : List D) : Bool := ds.all fun d => ds.all fun e => PySem.W.alike d e
def sortOK (ds : List D) : Bool := likeAll ds && (ds.all isTupD || ds.all atomD) && SeqAt.shaped (.list ds)
def sortedL : List D → Option (List D)
  | [.list ds] => if sortOK ds then some (srtD ds) else none
  | [.tuple ds] => if sortOK ds then some (srtD ds) else none
  | _ => none
def sortedB (xs : List D) : Option D := (sortedL xs).map .list
theorem likeAll_ok {ds : List D} (h : likeAll ds = true) : PySem.W.AllAlike ds := fun d hd e he => by
  unfold likeAll at h
  rw [List.all_eq_true] at h
  have z := h d hd
  rw [List.all_eq_true] at z
  exact z e he
theorem sorts_at {prog : Program} {w : World} {A : Around} {s : Shared} {vs : List Value} {ds : List D} (e : PySem.W.EachIs (fun v d => ∃ as, Reads s.heap v d as) vs ds) (h : sortOK ds = true) (hu : A.units + 70 < cLine) : PySem.W.SortsAt prog w A s (PySem.W.dataKind s.heap ds) vs := by
  unfold sortOK at h
  simp only [Bool.and_eq_true, Bool.or_eq_true] at h
  obtain ⟨⟨h1, h2⟩, h3⟩ := h
  have dp : ∀ d ∈ ds, A.units + d.depth < cLine := fun d hd => by
    have z := SeqAt.depth_of_shaped h3
    have z2 := depth_mem hd
    simp only [PyData.depth] at z
    omega
  rcases h2 with h2 | h2
  · refine PySem.W.SortsAt.mixed e (likeAll_ok h1) (fun d hd => ?_) dp
    rw [List.all_eq_true] at h2
    have z := h2 d hd
    cases d <;> first
      | (cases z; done)
      | exact ⟨_, rfl⟩
  · refine PySem.W.SortsAt.data e (likeAll_ok h1) (.inr fun d hd => ?_) dp
    rw [List.all_eq_true] at h2
    have z := h2 d hd
    cases d <;> first
      | (cases z; done)
      | exact ⟨fun q => (by cases q), fun xs q => (by cases q)⟩
section
variable {prog : Program} {w : World} {A : Around} {E : Value → Shared → Prop} {s : Shared} {κ : PyProof.Rows.KeyKind}
open PyProof.Rows in
theorem collect_tup {l : Addr} {vs : List Value} {Q : List Value → Shared → Prop} (hl : s.heap.IsTuple l vs.toArray)
    (h : Q vs { s with heap := (s.heap.push (seqObj "list" #[] 0)).update s.heap.objs.size (Obj.mapSeq (· ++ vs.toArray)) }) (hsz : vs.length ≤ sizeLine := by size_fits) :
    wpAny (model prog w) A (collect (.ref l)) Q E s := by
  obtain ⟨o, ho, hc, n, hd⟩ := id hl
  unfold collect
  refine wpAny_bind (wpAny_runValue (codeAny_builtin entry_proto_collect' ?_))
  show wpAny _ _ (do again (.builtin "list.__iadd__" ⟨[← newList [], .ref l], []⟩)) _ _ s
  refine wpAny_bind (wpAny_newList (wpAny_pure ⟨Code.quiet_builtin _ (by decide +kernel), codeAny_builtin entry_list_iadd' ?_⟩))
  show wpAny _ _ (Builtin.List.listExtendWith (.ref s.heap.objs.size) (.ref l) (.ref s.heap.objs.size)) _ _ { s with heap := s.heap.push (seqObj "list" #[] 0) }
  unfold Builtin.List.listExtendWith
  have ho' : (s.heap.push (seqObj "list" #[] 0)).get? l = some o := Heap.get?_push_of_some _ ho
  refine wpAny_bind (wpAny_typeOf (T := "tuple") ⟨o, ho', hc⟩ ?_)
  have ht : (Value.type "tuple" == Value.type "tuple") = true := by rfl
  rw [if_pos (by rw [ht]; simp)]
  refine wpAny_bind (listItems_at ho' hd ?_)
  refine wpAny_bind (listItems_at (xs := #[]) (n := 0) (Heap.get?_push_size _ rfl) rfl ?_)
  rw [if_neg (by simp)]
  refine wpAny_bind (listUpdate_at (xs := #[]) (n := 0) (Heap.get?_push_size _ rfl) rfl ?_ (Nat.zero_le _) (by show (#[] ++ vs.toArray).size ≤ sizeLine + 1; simp only [Array.size_append, List.size_toArray, List.length_nil]; omega))
  refine wpAny_pure ?_
  show wpAny (model prog w) A (do
      let o ← load s.heap.objs.size
      match o.data with
      | .seq xs _ => pure xs.toList
      | _ => unsupported "internal:collect") Q E { s with heap := (s.heap.push (seqObj "list" #[] 0)).update s.heap.objs.size (Obj.mapSeq (· ++ vs.toArray)) }
  refine wpAny_bind (wpAny_load (get?_update_seq (Heap.get?_push_size _ rfl) _) ?_)
  show wpAny _ _ (pure ((#[] : Array Value) ++ vs.toArray).toList) Q E _
  rw [show ((#[] : Array Value) ++ vs.toArray).toList = vs by simp]
  exact wpAny_pure h
open PyProof.Rows PySem.W in
theorem sorted_vals_tup {l : Addr} {vs : List Value} {Q : Value → Shared → Prop} (hl : s.heap.IsTuple l vs.toArray) (S : SortsAt prog w A.in1.in1 { s with heap := sortingHeap (copyHeap s.heap vs) (s.heap.objs.size + 1) vs } κ vs) (hL : vs.length ≤ sizeLine)
    (h : Q (.ref (s.heap.objs.size + 1)) { s with heap := sortedAll s.heap vs (sortVals κ false vs vs).toArray }) : wpAny (model prog w) A (call (.builtin "sorted") [.ref l]) Q E s := by
  refine Calls.call_function_entry kind_sorted plain_sorted entry_sorted (args_sorted1 _) ?_
  unfold Builtin.«sorted»
  refine wpAny_bind (m := checkCount "sorted" 1 1 _) (wpAny_pure ?_)
  refine wpAny_bind (collect_tup hl ?_ hL)
  refine wpAny_bind (wpAny_newList ?_ hL)
  have hsz : ((s.heap.push (seqObj "list" #[] 0)).update s.heap.objs.size (Obj.mapSeq (· ++ vs.toArray))).objs.size = s.heap.objs.size + 1 := by
    rw [Heap.size_update, size_push']
  show wpAny _ _ _ _ _ { s with heap := copyHeap s.heap vs }
  rw [hsz]
  refine wpAny_bind (wpAny_holding (wpAny_call_entry_kw slot_list_sort ⟨_, copyHeap_at s.heap vs, rfl⟩ entry_list_sort ?body (args_list_sort _)))
  case body =>
    show wpAny (model prog w) A.in1.in1 (Builtin.«list.sort» ⟨[.ref (s.heap.objs.size + 1)], []⟩) _ _ _
    refine wpAny_mono (list_sort_vals (s := { s with heap := copyHeap s.heap vs }) (P := fun f s' => f = .done (.ret .none) ∧ Q (.ref (s.heap.objs.size + 1)) s') (copyHeap_at s.heap vs) S hL ⟨rfl, h⟩) (fun f s' hf => ?_) fun _ _ e => e
    obtain ⟨rfl, hq⟩ := hf
    exact ⟨_, rfl, wpAny_pure ⟨_, rfl, hq⟩⟩
end
section
variable {X : Cx} {g : G} {B : Addr → Prop} {H : Hp}
theorem lay_mems {ds : List D} (h : SeqAt.shaped (.list ds) = true) : PyData.canLayAll0 ds = true := by
  have z := SeqAt.canLay_of_shaped h
  simpa [PyData.canLay0] using z
/-- values and what they stand for -/
def RV (g : G) (B : Addr → Prop) (H : Hp) (u : Value) (d : D) : Prop := ∃ x : V, RelV x u ∧ Rp g B H x d
theorem each_rv : ∀ {us : List Value} {vs : List V} {ds : List D}, Vals vs us → RpA g B H vs ds → PySem.W.EachIs (RV g B H) us ds
  | _, _, _, .nil, r => by cases r; exact .nil
  | _, _, _, .cons rv rr, r => by
    cases r with
    | cons r1 r2 => exact .cons ⟨_, rv, r1⟩ (each_rv rr r2)
theorem rv_each : ∀ {us : List Value} {ds : List D}, PySem.W.EachIs (RV g B H) us ds → ∃ vs, Vals vs us ∧ RpA g B H vs ds
  | _, _, .nil => ⟨[], .nil, .nil⟩
  | _, _, .cons ⟨x, rx, r1⟩ r => by
    obtain ⟨vs, h1, h2⟩ := rv_each r
    exact ⟨x :: vs, .cons rx h1, .cons r1 h2⟩
theorem each_reads {pins : List (Addr × Obj)} {σ : L2.St} {s : Shared} (I : Inv X pins σ H s) : ∀ {us : List Value} {ds : List D}, PySem.W.EachIs (RV g B H) us ds → PyData.canLayAll0 ds = true → PySem.W.EachIs (fun v d => ∃ as, Reads s.heap v d as) us ds
  | _, _, .nil, _ => .nil
  | u :: us, d :: ds, .cons ⟨x, rx, r1⟩ r, c => by
    have c' : d.canLay0 = true ∧ PyData.canLayAll0 ds = true := by simpa [PyData.canLayAll0] using c
    exact .cons (Dp.reads I _ _ _ (r1.dp X.K c'.1) rx) (each_reads I r c'.2)
theorem each_map_id {R : Value → D → Prop} {us : List Value} {ds : List D} (h : PySem.W.EachIs R us ds) : PySem.W.EachIs R us (ds.map fun d => d) := by rw [List.map_id']; exact h
theorem cr_sorted (hu : X.A.units + 100 < cLine) : CallR X (.builtin "sorted") (rLs g B sortedL) := by
  intro pins s σ H vs us Q I r h
  obtain ⟨ds, xs, c, st, ra, e, q⟩ := h
  match ds, e, ra with
  | [], e, _ => cases e
  | d1 :: d2 :: dr, e, _ => cases d1 <;> cases e
  | [d], e, ra =>
    obtain ⟨v, rfl, r1⟩ := ra.one
    cases d <;> try (cases e; done)
    · rename_i es
      obtain ⟨ho, rfl⟩ := ite_some_eq (show (if sortOK es = true then some (srtD es) else none) = some xs from e)
      cases r1 with
      | @lst a ys _ nb e1 rb =>
        obtain ⟨its, rv, hl, hz⟩ := I.list (SqL.of e1)
        rw [Vals.ref1 r]
        have sh : SeqAt.shaped (.list es) = true := by
          unfold sortOK at ho
          simp only [Bool.and_eq_true] at ho
          exact ho.2
        have e2 := each_rv rv rb
        have er := each_reads I e2 (lay_mems sh)
        have lits : its.length ≤ sizeLine := by rw [← rv.length]; exact hz
        have er' : PySem.W.EachIs (fun v d => ∃ as, Reads (PySem.W.sortingHeap (PySem.W.copyHeap s.heap its) (s.heap.objs.size + 1) its) v d as) its es := er.mono fun _ _ ⟨as, z⟩ => ⟨as, PyProof.Rows.Reads.keeps (fun _ _ => PySem.W.sorting_copy_old) z⟩
        have S : PySem.W.SortsAt X.prog X.w X.A.in1.in1 { s with heap := PySem.W.sortingHeap (PySem.W.copyHeap s.heap its) (s.heap.objs.size + 1) its } (PySem.W.dataKind (PySem.W.sortingHeap (PySem.W.copyHeap s.heap its) (s.heap.objs.size + 1) its) es) its :=
          sorts_at (s := { s with heap := PySem.W.sortingHeap (PySem.W.copyHeap s.heap its) (s.heap.objs.size + 1) its }) er' ho (by show X.A.units + 1 + 1 + 70 < cLine; omega)
        have lk : PySem.W.AllAlike (es.map fun d => d) := by
          rw [List.map_id']
          unfold sortOK at ho
          simp only [Bool.and_eq_true] at ho
          exact likeAll_ok ho.1.1
        have out := PySem.W.sortVals_data (enc := fun d : D => d) false e2 er' lk
        rw [List.map_id'] at out
        have em : es.mergeSort (PySem.W.dataLe false fun d : D => d) = srtD es := srt_merge es
        rw [em] at out
        refine PySem.W.sorted_vals hl.isList S lits ?_
        obtain ⟨zs, k1, k2⟩ := rv_each out
        obtain ⟨ep, he⟩ := PyProof.Rows.sortedAll_at s.heap its (PySem.W.sortVals (PySem.W.dataKind (PySem.W.sortingHeap (PySem.W.copyHeap s.heap its) (s.heap.objs.size + 1) its) es) false its its).toArray
        have hn : H (s.heap.objs.size + 1) = none := I.hok.fresh (Nat.le_succ _)
        have hzl : zs.length ≤ sizeLine := by
          rw [k2.length, (srt_perm es).length_eq, ← rb.length]
          exact hz
        exact ⟨.ref _, upd H (s.heap.objs.size + 1) (.lst zs), I.laid (t' := s.toks) (fun _ _ => PyProof.Rows.sortedAll_old) (Nat.le_succ _) ⟨hzl, _, ep, k1, he⟩, rfl, q _ _ (st.new hn) (frl_new st (fun _ z => z) k2 hn)⟩
    · rename_i es
      obtain ⟨ho, rfl⟩ := ite_some_eq (show (if sortOK es = true then some (srtD es) else none) = some xs from e)
      cases r1 with
      | @tup a ys _ nb e1 rb =>
        obtain ⟨its, rv, hl, hz⟩ := I.tuple (SqT.of e1)
        rw [Vals.ref1 r]
        have sh : SeqAt.shaped (.list es) = true := by
          unfold sortOK at ho
          simp only [Bool.and_eq_true] at ho
          exact ho.2
        have e2 := each_rv rv rb
        have er := each_reads I e2 (lay_mems sh)
        have lits : its.length ≤ sizeLine := by rw [← rv.length]; exact hz
        have er' : PySem.W.EachIs (fun v d => ∃ as, Reads (PySem.W.sortingHeap (PySem.W.copyHeap s.heap its) (s.heap.objs.size + 1) its) v d as) its es := er.mono fun _ _ ⟨as, z⟩ => ⟨as, PyProof.Rows.Reads.keeps (fun _ _ => PySem.W.sorting_copy_old) z⟩
        have S : PySem.W.SortsAt X.prog X.w X.A.in1.in1 { s with heap := PySem.W.sortingHeap (PySem.W.copyHeap s.heap its) (s.heap.objs.size + 1) its } (PySem.W.dataKind (PySem.W.sortingHeap (PySem.W.copyHeap s.heap its) (s.heap.objs.size + 1) its) es) its :=
          sorts_at (s := { s with heap := PySem.W.sortingHeap (PySem.W.copyHeap s.heap its) (s.heap.objs.size + 1) its }) er' ho (by show X.A.units + 1 + 1 + 70 < cLine; omega)
        have lk : PySem.W.AllAlike (es.map fun d => d) := by
          rw [List.map_id']
          unfold sortOK at ho
          simp only [Bool.and_eq_true] at ho
          exact likeAll_ok ho.1.1
        have out := PySem.W.sortVals_data (enc := fun d : D => d) false e2 er' lk
        rw [List.map_id'] at out
        have em : es.mergeSort (PySem.W.dataLe false fun d : D => d) = srtD es := srt_merge es
        rw [em] at out
        refine sorted_vals_tup hl S lits ?_
        obtain ⟨zs, k1, k2⟩ := rv_each out
        obtain ⟨ep, he⟩ := PyProof.Rows.sortedAll_at s.heap its (PySem.W.sortVals (PySem.W.dataKind (PySem.W.sortingHeap (PySem.W.copyHeap s.heap its) (s.heap.objs.size + 1) its) es) false its its).toArray
        have hn : H (s.heap.objs.size + 1) = none := I.hok.fresh (Nat.le_succ _)
        have hzl : zs.length ≤ sizeLine := by
          rw [k2.length, (srt_perm es).length_eq, ← rb.length]
          exact hz
        exact ⟨.ref _, upd H (s.heap.objs.size + 1) (.lst zs), I.laid (t' := s.toks) (fun _ _ => PyProof.Rows.sortedAll_old) (Nat.le_succ _) ⟨hzl, _, ep, k1, he⟩, rfl, q _ _ (st.new hn) (frl_new st (fun _ z => z) k2 hn)⟩
end
end Mi

namespace Mi
open PySem PySem.Spec PyProof.Rows L2
/-! set(xs), xs a list of whole numbers (the kit has it of tuples) -/
section
variable {P : Program} {w : World} {A : Around} {E : Value → Shared → Prop} {s : Shared}
theorem call_set_lstI {l : Addr} {items : Array Value} (ns : List Int) {Q : Value → Shared → Prop} (hh : A.handled = none) (hl : s.heap.IsList l items) (hit : IntsAre items.toList ns) (hb : ns.length + 1 < scanBound)
    (h : ∀ (h' : Heap) (tk c : Nat), SetR w h' s.heap.objs.size (fun j => decide (j ∈ ns)) c → c ≤ ns.length → (∀ b o, s.heap.get? b = some o → h'.get? b = some o) → Q (.ref s.heap.objs.size) { s with heap := h', toks := tk }) :
    wpAny (model P w) A (call (.type "set") [.ref l]) Q E s := by
  have hisz : items.size = ns.length := by
    have q := IntsAre.length hit
    rw [Array.length_toList] at q
    exact q
  obtain ⟨c, tl, hmro⟩ := F.called_set.mro
  have hmade := F.called_set.made
  have hsub := F.called_set.sub
  refine wpAny_call (codeAny_of_tree ?_)
  show wpAny _ _ (callAny (.type "set") _) _ _ _
  refine wpAny_pure ⟨Code.quiet_builtin _ (by decide +kernel), codeAny_builtin F.entry_type_call ?_⟩
  rw [Around.under_plain (weight_type_call_type "set" [.ref l] []) rfl]
  have h1 := F.called_set.notType
  have h2 := F.called_set.canCreate
  have hct := F.typeCall_set_1 (.ref l)
  repeat (any_goals (first | assumption | wp_step))

  refine codeAny_mono (code_set_led1 (.ref l) (E := E) (Q₁ := fun obj s₁ => obj = .ref s.heap.objs.size ∧ s₁ = { s with heap := s.heap.push { cls := .type "set", dict := none, data := .set #[] 0 (.fresh 0 0 (!w.params.followText "set-order")) } }) ⟨rfl, rfl⟩) fun r s₁ hr => ?_
  cases r with
  | error e => exact hr
  | ok fl =>
    cases fl with
    | ret obj =>
      obtain ⟨rfl, rfl⟩ := hr
      have hS : (s.heap.push { cls := .type "set", dict := none, data := .set #[] 0 (.fresh 0 0 (!w.params.followText "set-order")) }).get? s.heap.objs.size = some { cls := .type "set", dict := none, data := .set #[] 0 (.fresh 0 0 (!w.params.followText "set-order")) } := Heap.get?_push_size _ rfl
      have hT : Shared.TypeIs { s with heap := s.heap.push { cls := .type "set", dict := none, data := .set #[] 0 (.fresh 0 0 (!w.params.followText "set-order")) } } (.ref s.heap.objs.size) "set" := ⟨_, hS, rfl⟩
      have hli := F.called_set.init.lookup
      have hbi := F.called_set.init.bind (.ref s.heap.objs.size)
      repeat (any_goals (first | assumption | wp_step))

      refine codeAny_mono (codeAny_call_builtin (R := wants (fun r s₂ => r = .none ∧ ∃ h' tk c, s₂ = { s with heap := h', toks := tk } ∧ SetR w h' s.heap.objs.size (fun j => decide (j ∈ ns)) c ∧ c ≤ ns.length ∧
          (∀ b o, s.heap.get? b = some o → h'.get? b = some o)) E) F.called_set.init.plain F.entry_set_init (check_set_init_1 hT ?_)) fun r₂ s₂ hr₂ => ?_
      · obtain ⟨ol, hol, hcl, nl, hdl⟩ := hl
        obtain ⟨ocls, odict, odata, oslots⟩ := ol
        simp only at hcl hdl
        subst hcl; subst hdl
        have hol' : (s.heap.push { cls := .type "set", dict := none, data := .set #[] 0 (.fresh 0 0 (!w.params.followText "set-order")) }).get? l = some { cls := .type "list", dict := odict, data := .seq items nl, slots := oslots } := Heap.get?_push_of_some _ hol
        have hsls := F.sub_list_set
        have hslf := F.sub_list_frozenset
        have hne : (Value.type "list" == Value.type "dict") = false := by decide
        have hl1 : (s.heap.push { cls := .type "set", dict := none, data := .set #[] 0 (.fresh 0 0 (!w.params.followText "set-order")) }).IsList l items := ⟨_, hol', rfl, nl, rfl⟩
        unfold Builtin.«set.__init__» noKeywords Builtin.Frozenset.updateFrom
        generalize hPI : pyIter = PI
        wp_walk
        subst hPI

        refine wpAny_pyIter_list hl1 ?_
        refine wpAny_bind (wpAny_runValue ?_)
        have hlS : l < s.heap.objs.size := Heap.lt_size hol
        have hh3 : A.in1.in1.in1.handled = none := by simp [hh]
        have hz1 : (s.heap.push { cls := .type "set", dict := none, data := .set #[] 0 (.fresh 0 0 (!w.params.followText "set-order")) }).objs.size = s.heap.objs.size + 1 := Heap.size_push ..
        have hneI : l ≠ (s.heap.push { cls := .type "set", dict := none, data := .set #[] 0 (.fresh 0 0 (!w.params.followText "set-order")) }).objs.size := by
          rw [Heap.size_push]; exact Nat.ne_of_lt (Nat.lt_succ_of_lt hlS)
        have hSf : s.heap.objs.size ∉ [(s.heap.push { cls := .type "set", dict := none, data := .set #[] 0 (.fresh 0 0 (!w.params.followText "set-order")) }).objs.size, l] := by
          rw [Heap.size_push]; simp only [List.mem_cons, List.mem_singleton, List.not_mem_nil, or_false, not_or]
          exact ⟨Nat.ne_of_lt (Nat.lt_succ_self _), Nat.ne_of_gt hlS⟩
        have hval : ∀ (i : Nat) (v : Value), items[i]? = some v → ∃ k t, ns[i]? = some k ∧ v = .int k t := fun i v hv => by
          have hi : i < ns.length := by rw [← hisz]; exact (Array.getElem?_eq_some_iff.mp hv).1
          obtain ⟨t, e⟩ := PyProof.Rows.IntsAre.int_at hit i v (by rw [Array.getElem?_toList]; exact hv)
          refine ⟨ns[i], t, List.getElem?_eq_getElem hi, ?_⟩
          rw [e, List.getD_eq_getElem?_getD, List.getElem?_eq_getElem hi] <;> rfl
        refine set_update_ints ((Walks.list hh3 _ l hneI items).toS) s.heap.objs.size
          hSf ns hisz hb hval (items.size - 0) 0 _ (by omega) (Nat.zero_le _)
          ⟨⟨_, Heap.get?_push_size _ rfl, rfl, rfl⟩, (hl1.push _)⟩ ?hS0 ?hR
        case hS0 =>
          have hget : ((s.heap.push { cls := .type "set", dict := none, data := .set #[] 0 (.fresh 0 0 (!w.params.followText "set-order")) }).push { cls := .type "list_iterator", data := .fields #[.ref l, .int 0 0] }).get? s.heap.objs.size
              = some { cls := .type "set", dict := none, data := .set #[] 0 (.fresh 0 0 (!w.params.followText "set-order")) } := Heap.get?_push_of_some _ hS
          exact ⟨0, Nat.le_refl 0, setR_new_at hget⟩
        case hR =>
          intro s' c' hm hc' hS'
          obtain ⟨h', g2, d', tk', os'⟩ := s'
          have eg : g2 = s.gens := hm.gens
          have ed : d' = s.drawn := hm.drawn
          have eo : os' = s.os := hm.os
          subst eg; subst ed; subst eo
          show wpAny _ _ _ _ _ _
          refine wpAny_pure ?_
          show wpAny _ _ (ret Value.none) _ _ _
          rw [hisz] at hc'
          refine wpAny_pure ⟨rfl, h', tk', c', rfl, hS', hc', fun b o e => ?_⟩
          have hb0 : b < s.heap.objs.size := Heap.lt_size e
          have hb1 : b ≠ s.heap.objs.size := Nat.ne_of_lt hb0
          have hb2 : b ≠ (s.heap.push { cls := .type "set", dict := none, data := .set #[] 0 (.fresh 0 0 (!w.params.followText "set-order")) }).objs.size := by
            rw [Heap.size_push]; exact Nat.ne_of_lt (Nat.lt_succ_of_lt hb0)
          exact hm.heap b o (by simp only [List.mem_cons, List.mem_singleton, List.not_mem_nil, or_false, not_or]; exact ⟨hb1, hb2⟩) (Heap.get?_push_of_some _ (Heap.get?_push_of_some _ e))

      · cases r₂ with
        | error e => exact hr₂
        | ok fl₂ =>
          cases fl₂ with
          | ret r =>
            obtain ⟨rfl, h', tk, c', rfl, hS', hc', hk'⟩ := hr₂
            repeat (any_goals (first | assumption | wp_step))
            exact h _ _ _ hS' hc' hk'
          | _ => exact hr₂.elim
    | _ => exact hr.elim

end
end Mi

namespace Mi
open PySem PySem.Spec PyProof.Rows L2
/-! sorted(set(xs)), xs a list of tuples of ints -/
def intD : D → Option Int
  | .int i => some i
  | _ => none
def intsD : List D → Option (List Int)
  | [] => some []
  | d :: ds => match intD d, intsD ds with
    | some i, some is => some (i :: is)
    | _, _ => none
def rowD : D → Option (List Int)
  | .tuple ds => intsD ds
  | _ => none
def rowsD : List D → Option (List (List Int))
  | [] => some []
  | d :: ds => match rowD d, rowsD ds with
    | some i, some is => some (i :: is)
    | _, _ => none
def nub : List (List Int) → List (List Int)
  | [] => []
  | x :: r => if (nub r).contains x then nub r else x :: nub r
def tupI (k : List Int) : D := .tuple (k.map .int)
def insI (x : Int) : List Int → List Int
  | [] => [x]
  | y :: r => if x < y then x :: y :: r else if x = y then y :: r else y :: insI x r
def ssI (ns : List Int) : List Int := ns.foldr insI []
theorem mem_insI {x z : Int} : ∀ {l : List Int}, z ∈ insI x l ↔ z = x ∨ z ∈ l
  | [] => by simp [insI]
  | y :: r => by
    unfold insI
    by_cases h : x < y
    · rw [if_pos h]; simp
    · rw [if_neg h]
      by_cases e : x = y
      · rw [if_pos e]; subst e; simp
      · rw [if_neg e, List.mem_cons, mem_insI, List.mem_cons]
        constructor
        · rintro (h | h | h)
          · exact .inr (.inl h)
          · exact .inl h
          · exact .inr (.inr h)
        · rintro (h | h | h)
          · exact .inr (.inl h)
          · exact .inl h
          · exact .inr (.inr h)
theorem pw_insI {x : Int} : ∀ {l : List Int}, l.Pairwise (· < ·) → (insI x l).Pairwise (· < ·)
  | [], _ => List.pairwise_singleton ..
  | y :: r, p => by
    have q := List.pairwise_cons.mp p
    unfold insI
    by_cases h : x < y
    · rw [if_pos h]
      refine List.pairwise_cons.mpr ⟨fun z hz => ?_, p⟩
      rcases List.mem_cons.mp hz with rfl | hz
      · exact h
      · exact Int.lt_trans h (q.1 z hz)
    · rw [if_neg h]
      by_cases e : x = y
      · rw [if_pos e]; exact p
      · rw [if_neg e]
        refine List.pairwise_cons.mpr ⟨fun z hz => ?_, pw_insI q.2⟩
        rcases mem_insI.mp hz with rfl | hz
        · omega
        · exact q.1 z hz
theorem mem_ssI {z : Int} : ∀ {ns : List Int}, z ∈ ssI ns ↔ z ∈ ns
  | [] => Iff.rfl
  | x :: r => by
    show z ∈ insI x (ssI r) ↔ _
    rw [mem_insI, mem_ssI, List.mem_cons]
theorem pw_ssI : ∀ ns : List Int, (ssI ns).Pairwise (· < ·)
  | [] => .nil
  | x :: r => pw_insI (pw_ssI r)
theorem asc_same {a b : List Int} (ha : a.Pairwise (· < ·)) (hb : b.Pairwise (· < ·)) (h : ∀ x, x ∈ a ↔ x ∈ b) : a = b :=
  List.Perm.eq_of_pairwise (le := fun x y : Int => x < y) (fun x y _ _ h1 h2 => absurd h1 (by omega)) ha hb ((List.perm_ext_iff_of_nodup (ha.imp fun h => Int.ne_of_lt h) (hb.imp fun h => Int.ne_of_lt h)).mpr h)
def ssL (ds : List D) : Option (List D) := match rowsD ds with
  | some ks => if ks.length < 64 && ((nub ks).all fun k => decide (k.length ≤ sizeLine)) then some (srtD ((nub ks).map tupI)) else none
  | none => match intsD ds with
    | some ns => if ns.length < 64 then some ((ssI ns).map .int) else none
    | none => none
def ssT (ds : List D) : Option (List D) := match intsD ds with
  | some ns => if ns.length < 64 then some ((ssI ns).map .int) else none
  | none => none
def aSS (f : Ev) : Av := fun ρ => bd (f ρ) fun x => match x with
  | .list ds => ofO (ssL ds)
  | .tuple ds => ofO (ssT ds)
  | _ => no
theorem intsD_some : ∀ {ds : List D} {is : List Int}, intsD ds = some is → ds = is.map .int
  | [], is, h => by cases h; rfl
  | d :: ds, is, h => by
    unfold intsD at h
    split at h
    · rename_i i is' e1 e2
      cases h
      cases d <;> try (cases e1; done)
      cases e1
      rw [intsD_some e2]; rfl
    · cases h
theorem rowsD_some : ∀ {ds : List D} {ks : List (List Int)}, rowsD ds = some ks → ds = ks.map tupI
  | [], is, h => by cases h; rfl
  | d :: ds, is, h => by
    unfold rowsD at h
    split at h
    · rename_i i is' e1 e2
      cases h
      cases d <;> try (cases e1; done)
      rw [rowsD_some e2, List.map_cons]
      have z := intsD_some e1
      rw [z]; rfl
    · cases h
theorem nub_mem : ∀ {l : List (List Int)} {x : List Int}, x ∈ nub l ↔ x ∈ l
  | [], x => Iff.rfl
  | y :: r, x => by
    unfold nub
    by_cases h : (nub r).contains y = true
    · rw [if_pos h, nub_mem, List.mem_cons]
      have hy : y ∈ r := nub_mem.mp (by simpa using h)
      exact ⟨.inr, fun z => z.elim (fun e => by rw [e]; exact hy) id⟩
    · rw [if_neg h, List.mem_cons, List.mem_cons, nub_mem]
theorem nub_nodup : ∀ l : List (List Int), (nub l).Nodup
  | [] => List.nodup_nil
  | y :: r => by
    unfold nub
    by_cases h : (nub r).contains y = true
    · rw [if_pos h]; exact nub_nodup r
    · rw [if_neg h]
      exact List.nodup_cons.mpr ⟨by simpa using h, nub_nodup r⟩
/-! tuples of ints are told apart by the order -/
theorem toks_ints : ∀ (k : List Int), PySem.W.keyToksAll (k.map .int) = k.flatMap (fun i => [Sum.inl 1, Sum.inl i]) ++ [Sum.inl 0]
  | [] => by rw [List.map_nil, PySem.W.keyToksAll]; rfl
  | i :: k => by
    rw [List.map_cons, PySem.W.toks_all_cons, toks_ints k, List.flatMap_cons]
    simp [PySem.W.keyToks]
theorem toks_inj : ∀ (k l : List Int), k.flatMap (fun i => [(Sum.inl 1 : Int ⊕ List Nat), Sum.inl i]) ++ [Sum.inl 0] = l.flatMap (fun i => [Sum.inl 1, Sum.inl i]) ++ [Sum.inl 0] → k = l
  | [], [], _ => rfl
  | [], j :: l, h => by simp at h
  | i :: k, [], h => by simp at h
  | i :: k, j :: l, h => by
    simp only [List.flatMap_cons, List.cons_append, List.nil_append, List.append_assoc, List.cons.injEq, true_and] at h
    have e := Sum.inl.inj h.1
    rw [e, toks_inj k l h.2]
theorem le_anti {k l : List Int} (h1 : leD (tupI k) (tupI l) = true) (h2 : leD (tupI l) (tupI k) = true) : k = l := by
  have a1 : PyProof.Rows.lexLt itemOrd (PySem.W.keyToks (tupI l)) (PySem.W.keyToks (tupI k)) = false := by
    have z : (!PyProof.Rows.lexLt itemOrd (PySem.W.keyToks (tupI l)) (PySem.W.keyToks (tupI k))) = true := h1
    simpa using z
  have a2 : PyProof.Rows.lexLt itemOrd (PySem.W.keyToks (tupI k)) (PySem.W.keyToks (tupI l)) = false := by
    have z : (!PyProof.Rows.lexLt itemOrd (PySem.W.keyToks (tupI k)) (PySem.W.keyToks (tupI l))) = true := h2
    simpa using z
  have e := PyProof.Rows.lex_total _ _ a2 a1
  have q1 : PySem.W.keyToks (tupI k) = PySem.W.keyToksAll (k.map .int) := by unfold tupI; rw [PySem.W.keyToks]
  have q2 : PySem.W.keyToks (tupI l) = PySem.W.keyToksAll (l.map .int) := by unfold tupI; rw [PySem.W.keyToks]
  rw [q1, q2, toks_ints, toks_ints] at e
  exact toks_inj k l e
theorem srt_of_perm {xs ys : List (List Int)} (p : xs.Perm ys) : srtD (xs.map tupI) = srtD (ys.map tupI) := by
  refine List.Perm.eq_of_pairwise (le := fun a b => leD a b = true) (fun a b ha hb h1 h2 => ?_) (srt_pw _) (srt_pw _) ((srt_perm _).trans ((p.map tupI).trans (srt_perm _).symm))
  obtain ⟨k, _, rfl⟩ := List.mem_map.mp ((srt_perm _).mem_iff.mp ha)
  obtain ⟨l, _, rfl⟩ := List.mem_map.mp ((srt_perm _).mem_iff.mp hb)
  rw [le_anti h1 h2]
theorem perm_lift {α β : Type} {f : α → β} : ∀ {vs : List β} {L : List α}, vs.Perm (L.map f) → ∃ M : List α, vs = M.map f ∧ M.Perm L
  | [], L, p => by
    have : L = [] := by simpa using p.nil_eq.symm
    exact ⟨[], rfl, by rw [this]⟩
  | v :: vs, L, p => by
    obtain ⟨q, hq, e⟩ := List.mem_map.mp (p.mem_iff.mp List.mem_cons_self)
    obtain ⟨s, t, rfl⟩ := List.append_of_mem hq
    have p2 : (v :: vs).Perm (v :: ((s ++ t).map f)) := p.trans (by
      rw [← e, List.map_append, List.map_cons, List.map_append]
      exact List.perm_middle)
    obtain ⟨M, rfl, pm⟩ := perm_lift ((List.perm_cons v).mp p2)
    exact ⟨q :: M, by rw [List.map_cons, e], (pm.cons q).trans List.perm_middle.symm⟩
section
variable {X : Cx} {g : G} {B : Addr → Prop} {W : WX}
theorem like_ints : ∀ k l : List Int, PySem.W.alikeAll (k.map .int) (l.map .int) = true := PySem.W.alike_ints
theorem each_tups {h : Heap} {P : Program} {w : World} : ∀ {L : List (Addr × List Int)}, (∀ p ∈ L, IsT P w h p.2 p.1) → PySem.W.EachIs (fun v d => ∃ as, Reads h v d as) (L.map fun q => Value.ref q.1) (L.map fun q => tupI q.2)
  | [], _ => .nil
  | p :: L, hp => by
    refine .cons ?_ (each_tups fun q hq => hp q (List.mem_cons_of_mem _ hq))
    obtain ⟨o, its, n, ho, hc, hd, hi⟩ := hp p List.mem_cons_self
    have ra : ∀ {us : List Value} {k : List Int}, IntsAre us k → ∃ as, ReadsAll h us (k.map .int) as := by
      intro us k z
      induction z with
      | nil => exact ⟨[], .nil⟩
      | cons i t r ih =>
        obtain ⟨as, hr⟩ := ih
        exact ⟨_, .cons (.int i t) hr⟩
    obtain ⟨as, hr⟩ := ra (ints_of_items hi)
    exact ⟨_, .tuple ho hc hd hr⟩
theorem lay_ints : ∀ k : List Int, PyData.canLayAll0 (k.map .int) = true
  | [] => rfl
  | i :: k => by
    rw [List.map_cons, PyData.canLayAll0, lay_ints k]
    rfl
theorem lay_tups : ∀ M : List (List Int), PyData.canLayAll0 (M.map tupI) = true
  | [] => rfl
  | k :: M => by
    rw [List.map_cons, PyData.canLayAll0, lay_tups M, Bool.and_true]
    unfold tupI
    rw [PyData.canLay0]
    exact lay_ints k
theorem depth_tups : ∀ M : List (List Int), PyData.depthAll (M.map tupI) ≤ 1
  | [] => by rw [List.map_nil, PyData.depthAll]; omega
  | k :: M => by
    rw [List.map_cons, PyData.depthAll]
    have z := depth_tups M
    have z2 : (tupI k).depth = 1 := by
      unfold tupI
      rw [PyData.depth, PySem.W.depth_ints]
    rw [z2]
    omega
theorem shaped_tups (M : List (List Int)) : SeqAt.shaped (.list (M.map tupI)) = true := by
  unfold SeqAt.shaped
  rw [Bool.and_eq_true, decide_eq_true_eq]
  refine ⟨?_, ?_⟩
  · rw [PyData.canLay0]; exact lay_tups M
  · rw [PyData.depth]
    have := depth_tups M
    omega
/-- sorted of such a set -/
def rSS (K : PySem.W.Frag) (P : Program) (w : World) : List V → Hp → VK → Prop := fun vs H Q => ∃ (a : Addr) (L : List (Addr × List Int)), vs = [V.ref a] ∧ H a = some (SetTO P w a L) ∧ (∀ p ∈ L, SqT K H p.1 (p.2.map V.int)) ∧
  ∀ (M : List (Addr × List Int)) (p : Addr), (∀ q ∈ M, q ∈ L) → (L.map (·.2)).Nodup → (M.map fun q => tupI q.2) = srtD ((L.map (·.2)).map tupI) → M.length < 64 → H p = none → Q (.ref p) (upd H p (.lst (M.map fun q => V.ref q.1)))
theorem cr_ss (hc : X.calm = true) (hu : X.A.units + 100 < cLine) : CallR X (.builtin "sorted") (rSS X.K X.prog X.w) := by
  intro pins s σ H vs us Q I r h
  obtain ⟨a, L, rfl, ha, hk, q⟩ := h
  have R0 : SetT0 X.prog X.w s.heap a L := (I.hok a _ ha).1
  obtain ⟨es, ep, t, R⟩ := R0.full fun p hp => I.isT (hk p hp)
  rw [Vals.ref1 r]
  obtain ⟨o, ho, hex, hd⟩ := R.ob
  have hsz := R.size
  have hfew := R.few
  refine Calls.call_function_entry kind_sorted plain_sorted entry_sorted (args_sorted1 _) ?_
  unfold Builtin.«sorted»
  refine wpAny_bind (m := checkCount "sorted" 1 1 _) (wpAny_pure (wpAny_bind ?_))
  refine collect_set (A := X.A.in1) (I.ok.hd hc) ⟨o, ho, hex.1, hd⟩ R.fits (by unfold scanBound; omega) R.tab.ris R.led fun s1 zs k1 hz g1 o1 pm => ?_
  have hes : es.toList.map (·.2) = L.map fun q => Value.ref q.1 := by
    rw [R.rows]
    simp [rowsOf, List.map_map, Function.comp_def]
  rw [hes] at pm
  obtain ⟨L1, rfl, pL⟩ := perm_lift pm
  have l64 : (L1.map fun q => Value.ref q.1).length < 64 := by rw [List.length_map, pL.length_eq]; exact hfew
  have lsz : (L1.map fun q => Value.ref q.1).length ≤ sizeLine := by rw [sizeLine_eq]; omega
  refine wpAny_bind (wpAny_newList ?_ lsz)
  have hoL : (s1.heap.push (seqObj "list" (L1.map fun q => Value.ref q.1).toArray 0)).get? s1.heap.objs.size = some (seqObj "list" (L1.map fun q => Value.ref q.1).toArray 0) := Heap.get?_push_size _ rfl
  have kp : ∀ b u, s.heap.get? b = some u → (PySem.W.sortingHeap (s1.heap.push (seqObj "list" (L1.map fun q => Value.ref q.1).toArray 0)) s1.heap.objs.size (L1.map fun q => Value.ref q.1)).get? b = some u := fun b u e => by
    have e1 := k1 b u e
    exact PySem.W.sortingHeap_old (Nat.ne_of_lt (Heap.lt_size e1)) (Heap.get?_push_of_some _ e1)
  have er := each_tups (L := L1) (fun p hp => isT_keep (R.tup p (pL.mem_iff.mp hp)) kp)
  have ho : sortOK (L1.map fun q => tupI q.2) = true := by
    unfold sortOK likeAll
    simp only [Bool.and_eq_true, Bool.or_eq_true, List.all_eq_true]
    refine ⟨⟨fun d hd e he => ?_, .inl fun d hd => ?_⟩, ?_⟩
    · obtain ⟨p, _, rfl⟩ := List.mem_map.mp hd
      obtain ⟨p', _, rfl⟩ := List.mem_map.mp he
      show PySem.W.alike (.tuple _) (.tuple _) = true
      rw [PySem.W.alike]
      exact like_ints _ _
    · obtain ⟨p, _, rfl⟩ := List.mem_map.mp hd
      rfl
    · have z := shaped_tups (L1.map (·.2))
      rw [List.map_map] at z
      exact z
  have S := sorts_at (prog := X.prog) (w := X.w) (A := X.A.in1.in1) (s := { s1 with heap := PySem.W.sortingHeap (s1.heap.push (seqObj "list" (L1.map fun q => Value.ref q.1).toArray 0)) s1.heap.objs.size (L1.map fun q => Value.ref q.1) }) er ho (by show X.A.units + 1 + 1 + 70 < cLine; omega)
  have like : PySem.W.AllAlike ((L1.map fun q => tupI q.2).map fun d => d) := by
    rw [List.map_id']
    unfold sortOK at ho
    simp only [Bool.and_eq_true] at ho
    exact likeAll_ok ho.1.1
  have e2 : PySem.W.EachIs (fun (v : Value) (d : D) => ∃ q ∈ L, v = Value.ref q.1 ∧ d = tupI q.2) (L1.map fun q => Value.ref q.1) (L1.map fun q => tupI q.2) := by
    have z : ∀ (M : List (Addr × List Int)), (∀ q ∈ M, q ∈ L) → PySem.W.EachIs (fun (v : Value) (d : D) => ∃ q ∈ L, v = Value.ref q.1 ∧ d = tupI q.2) (M.map fun q => Value.ref q.1) (M.map fun q => tupI q.2) := fun M => by
      induction M with
      | nil => intro _; exact .nil
      | cons p M ih => intro hm; exact .cons ⟨p, hm p List.mem_cons_self, rfl, rfl⟩ (ih fun q hq => hm q (List.mem_cons_of_mem _ hq))
    exact z L1 fun q hq => pL.mem_iff.mp hq
  have out := PySem.W.sortVals_data (enc := fun d : D => d) false e2 er like
  rw [List.map_id'] at out
  have em : (L1.map fun q => tupI q.2).mergeSort (PySem.W.dataLe false fun d : D => d) = srtD (L1.map fun q => tupI q.2) := srt_merge _
  rw [em] at out
  refine wpAny_bind (wpAny_holding (wpAny_call_entry slot_list_sort ⟨_, hoL, rfl⟩ entry_list_sort (PySem.W.list_sort_vals (s := { s1 with heap := s1.heap.push (seqObj "list" (L1.map fun q => Value.ref q.1).toArray 0) }) hoL S lsz ⟨_, rfl, ?_⟩) (args_list_sort _)))
  refine wpAny_pure ⟨_, rfl, ?_⟩
  have pick : ∀ {us : List Value} {ds : List D}, PySem.W.EachIs (fun (v : Value) (d : D) => ∃ q ∈ L, v = Value.ref q.1 ∧ d = tupI q.2) us ds → ∃ M : List (Addr × List Int), us = M.map (fun q => Value.ref q.1) ∧ ds = M.map (fun q => tupI q.2) ∧ ∀ q ∈ M, q ∈ L := fun {us ds} z => by
    induction z with
    | nil => exact ⟨[], rfl, rfl, fun q hq => by cases hq⟩
    | cons x r ih =>
      obtain ⟨p, hp, rfl, rfl⟩ := x
      obtain ⟨M, rfl, rfl, hm⟩ := ih
      exact ⟨p :: M, rfl, rfl, fun q hq => (List.mem_cons.mp hq).elim (fun e => by rw [e]; exact hp) (hm q)⟩
  obtain ⟨M, m1, m2, m3⟩ := pick out
  rw [m1]
  have hMl : M.length < 64 := by
    have z := congrArg List.length m2
    rw [(srt_perm _).length_eq, List.length_map, List.length_map] at z
    rw [← z, pL.length_eq]
    exact hfew
  obtain ⟨c, hc'⟩ := sortedHeap_at (vs := L1.map fun q => Value.ref q.1) (out := (M.map fun q => Value.ref q.1).toArray) hoL
  have keep : ∀ b u, s.heap.get? b = some u → (sortedHeap (s1.heap.push (seqObj "list" (L1.map fun q => Value.ref q.1).toArray 0)) s1.heap.objs.size (L1.map fun q => Value.ref q.1) (M.map fun q => Value.ref q.1).toArray).get? b = some u := fun b u e => by
    have e1 := k1 b u e
    have hlt := Heap.lt_size e1
    rw [sortedHeap_old (Nat.ne_of_lt hlt) (by rw [size_push']; exact Nat.lt_succ_of_lt hlt)]
    exact Heap.get?_push_of_some _ e1
  have hn : H s1.heap.objs.size = none := I.hok.fresh hz
  have hlen : (M.map fun q => V.ref q.1).length ≤ sizeLine := by rw [List.length_map, sizeLine_eq]; omega
  have J : Inv X pins σ (upd H s1.heap.objs.size (.lst (M.map fun q => V.ref q.1))) { s with heap := sortedHeap (s1.heap.push (seqObj "list" (L1.map fun q => Value.ref q.1).toArray 0)) s1.heap.objs.size (L1.map fun q => Value.ref q.1) (M.map fun q => Value.ref q.1).toArray, gens := s1.gens, drawn := s1.drawn, toks := s1.toks } :=
    I.call (ch := []) (Un.laid keep hz hn) (I.hok.laid keep hz ⟨hlen, _, c, vals_of_refs M, hc'⟩) (by rw [g1]; exact I.bare) (fun _ z => nomatch z)
  have es1 : ({ s1 with heap := sortedHeap (s1.heap.push (seqObj "list" (L1.map fun q => Value.ref q.1).toArray 0)) s1.heap.objs.size (L1.map fun q => Value.ref q.1) (M.map fun q => Value.ref q.1).toArray } : Shared) = { s with heap := sortedHeap (s1.heap.push (seqObj "list" (L1.map fun q => Value.ref q.1).toArray 0)) s1.heap.objs.size (L1.map fun q => Value.ref q.1) (M.map fun q => Value.ref q.1).toArray, gens := s1.gens, drawn := s1.drawn, toks := s1.toks } := by
    cases s1
    cases s
    cases o1
    rfl
  have fin : EP X pins σ Q (.ref s1.heap.objs.size) { s1 with heap := sortedHeap (s1.heap.push (seqObj "list" (L1.map fun q => Value.ref q.1).toArray 0)) s1.heap.objs.size (L1.map fun q => Value.ref q.1) (M.map fun q => Value.ref q.1).toArray } := by
    rw [es1]
    refine ⟨.ref s1.heap.objs.size, _, J, rfl, q M _ m3 R.nd ?_ hMl hn⟩
    rw [← m2]
    have z := srt_of_perm (pL.map fun q : Addr × List Int => q.2)
    rw [List.map_map] at z
    exact z
  exact fin
/-- the rows of a list of tuples, each with its address -/
theorem rows_addr {H : Hp} : ∀ {ks : List (List Int)} {vs : List V}, RpA g B H vs (ks.map tupI) → ∃ L : List (Addr × List Int), vs = L.map (fun p => V.ref p.1) ∧ L.map (·.2) = ks ∧ ∀ p ∈ L, ¬ B p.1 ∧ H p.1 = some (.tup (p.2.map V.int))
  | [], _, r => by cases r; exact ⟨[], rfl, rfl, fun p hp => by cases hp⟩
  | k :: ks, _, r => by
    cases r with
    | cons r1 r2 =>
      obtain ⟨L, rfl, h2, h3⟩ := rows_addr r2
      cases r1 with
      | @tup a xs _ nb e ra =>
        have z : ∀ (k : List Int) (xs : List V), RpA g B H xs (k.map .int) → xs = k.map V.int := fun k => by
          induction k with
          | nil => intro xs r; cases r; rfl
          | cons i k ih =>
            intro xs r
            cases r with
            | cons q1 q2 => cases q1; rw [ih _ q2]; rfl
        rw [z k xs ra] at e
        exact ⟨(a, k) :: L, rfl, by rw [List.map_cons, h2], fun p hp => (List.mem_cons.mp hp).elim (fun e' => by rw [e']; exact ⟨nb, e⟩) (h3 p)⟩
theorem addr_rows {H : Hp} : ∀ {M : List (Addr × List Int)}, (∀ p ∈ M, ¬ B p.1 ∧ H p.1 = some (.tup (p.2.map V.int))) → RpA g B H (M.map fun p => V.ref p.1) (M.map fun p => tupI p.2)
  | [], _ => .nil
  | p :: M, h => by
    have z : ∀ k : List Int, RpA g B H (k.map V.int) (k.map .int) := fun k => by
      induction k with
      | nil => exact .nil
      | cons i k ih => exact .cons (.int i) ih
    obtain ⟨h1, h2⟩ := h p List.mem_cons_self
    exact .cons (.tup h1 h2 (z _)) (addr_rows fun q hq => h q (List.mem_cons_of_mem _ hq))
theorem nub_perm {L : List (List Int)} {ks : List (List Int)} (h1 : ∀ x ∈ L, x ∈ ks) (h2 : ∀ x ∈ ks, x ∈ L) (nd : L.Nodup) : L.Perm (nub ks) :=
  (List.perm_ext_iff_of_nodup nd (nub_nodup ks)).mpr fun x => ⟨fun h => nub_mem.mpr (h1 x h), fun h => h2 x (nub_mem.mp h)⟩
def rU (r1 r2 : List V → Hp → VK → Prop) : List V → Hp → VK → Prop := fun vs H Q => r1 vs H Q ∨ r2 vs H Q
theorem cr_or {f : Value} {r1 r2 : List V → Hp → VK → Prop} (h1 : CallR X f r1) (h2 : CallR X f r2) : CallR X f (rU r1 r2) := by
  intro pins s σ H vs us Q I r h
  rcases h with h | h
  · exact h1 pins s σ H vs us Q I r h
  · exact h2 pins s σ H vs us Q I r h
def rSetOfI (K : PySem.W.Frag) (w : World) : List V → Hp → VK → Prop := fun xs H Q => ∃ (l : Addr) (ns : List Int), xs = [V.ref l] ∧ SqL K H l (ns.map V.int) ∧ ns.length < 64 ∧ ∀ a c, H a = none → c ≤ ns.length → Q (.ref a) (upd H a (SetO w a (fun j => decide (j ∈ ns)) c))
theorem cr_setOfI (hc : X.calm = true) : CallR X (.type "set") (rSetOfI X.K X.w) := by
  intro pins s σ H xs us Q I r h
  obtain ⟨l, ns, rfl, hl, hf, q⟩ := h
  rw [Vals.ref1 r]
  obtain ⟨its, rv, pl, hz⟩ := I.list hl
  have hn : H s.heap.objs.size = none := I.hok.fresh (Nat.le_refl _)
  refine call_set_lstI ns (I.ok.hd hc) pl.isList (by simpa using rv.ints) (by unfold scanBound; omega) fun h' tk c R hcl hk => ?_
  exact ⟨.ref s.heap.objs.size, upd H s.heap.objs.size (SetO X.w s.heap.objs.size (fun j => decide (j ∈ ns)) c), I.laid (t' := tk) hk (Nat.le_refl _) (setO_new R), rfl, q _ c hn hcl⟩
def rSetOfTI (K : PySem.W.Frag) (w : World) : List V → Hp → VK → Prop := fun xs H Q => ∃ (l : Addr) (ns : List Int), xs = [V.ref l] ∧ SqT K H l (ns.map V.int) ∧ ns.length < 64 ∧ ∀ a c, H a = none → c ≤ ns.length → Q (.ref a) (upd H a (SetO w a (fun j => decide (j ∈ ns)) c))
theorem cr_setOfTI (hc : X.calm = true) : CallR X (.type "set") (rSetOfTI X.K X.w) := by
  intro pins s σ H xs us Q I r h
  obtain ⟨l, ns, rfl, hl, hf, q⟩ := h
  rw [Vals.ref1 r]
  obtain ⟨its, rv, pl, hz⟩ := I.tuple hl
  have hn : H s.heap.objs.size = none := I.hok.fresh (Nat.le_refl _)
  refine call_set_tupI ns (I.ok.hd hc) pl (by simpa using rv.ints) (by unfold scanBound; omega) fun h' tk c R hcl hk => ?_
  exact ⟨.ref s.heap.objs.size, upd H s.heap.objs.size (SetO X.w s.heap.objs.size (fun j => decide (j ∈ ns)) c), I.laid (t' := tk) hk (Nat.le_refl _) (setO_new R), rfl, q _ c hn hcl⟩
theorem l_ss {a : Expr} {fa : Ev} {p1 p2 p3 p4 : Pos} (hc : X.calm = true) (hu : X.A.units + 100 < cLine) (hg1 : Gl X "sorted") (hm1 : X.mg "sorted" = none) (hg2 : Gl X "set") (hm2 : X.mg "set" = none) (ha : PE X a (tF g B W fa)) (hs : starEach [a] X.env = (false, eval a X.env) :: starEach [] X.env) :
    PE X (.Call (.Name "sorted" p1) [.Call (.Name "set" p2) [a] [] p3] [] p4) (tL g B W (aSS fa)) := by
  have inner : PE X (.Call (.Name "set" p2) [a] [] p3) (tCB (rU (rU (rSetOfT X.K X.prog X.w) (rSetOfI X.K X.w)) (rSetOfTI X.K X.w)) (tCons (tF g B W fa) tNil)) := pe_callTy (cr_or (cr_or (cr_setOfT hc (by omega)) (cr_setOfI hc)) (cr_setOfTI hc)) hg2 hm2 (by decide +kernel) (a_one ha hs) (by decide) (by decide) hs rfl
  refine ⟨fun pins s σ H Q I ⟨ρ, c, st, h⟩ => (pe_callB (cr_or (cr_ss hc hu) (cr_sortedSet hc)) hg1 hm1 (by decide +kernel) (pa_cons inner pa_nil rfl) (by decide) (by decide) rfl rfl).run pins s σ H Q I ?_⟩
  refine post_of st (Post.bd (R1 := RD g B) h) fun v H1 ⟨x, c1, r1, a1, h1⟩ => ?_
  cases x <;> try exact h1.elim
  · rename_i ds
    obtain ⟨xs, e, q⟩ := post_ofO h1
    unfold ssL at e
    cases er : rowsD ds with
    | none =>
      rw [er] at e
      simp only at e
      cases ei : intsD ds with
      | none => rw [ei] at e; cases e
      | some ns =>
        rw [ei] at e
        obtain ⟨hk, e⟩ := ite_some_eq e
        have ed := intsD_some ei
        subst ed
        cases r1 with
        | @lst l vs _ nb el ra =>
          have z : ∀ (k : List Int) (xs : List V), RpA g B H1 xs (k.map .int) → xs = k.map V.int := fun k => by
            induction k with
            | nil => intro xs r; cases r; rfl
            | cons i k ih =>
              intro xs r
              cases r with
              | cons q1 q2 => cases q1; rw [ih _ q2]; rfl
          rw [z ns vs ra] at el
          refine .inl (.inr ⟨l, ns, rfl, SqL.of el, hk, fun sa cn hn hcn => .inr ⟨sa, _, cn, rfl, upd_same, by omega, fun ms p pw hm hl hp => ?_⟩⟩)
          have st1 := (st.after a1).h
          have a2 := st1.new (o := SetO X.w sa (fun j => decide (j ∈ ns)) cn) hn
          have st2 := st1.after a2
          have em : ms = ssI ns := asc_same pw (pw_ssI ns) fun x => by rw [hm, mem_ssI, decide_eq_true_eq]
          have zz : ∀ k : List Int, RpA g B (upd H1 sa (SetO X.w sa (fun j => decide (j ∈ ns)) cn)) (k.map V.int) (k.map .int) := fun k => by
            induction k with
            | nil => exact .nil
            | cons i k ih => exact .cons (.int i) ih
          have rows := zz ms
          subst e
          rw [em] at rows ⊢
          exact q _ _ (a2.trans (st2.new hp)) (frl_new st2 (fun b z => a1.dm b (a2.dm b z)) rows hp)
    | some ks =>
      rw [er] at e
      simp only at e
      obtain ⟨hk, e2⟩ := ite_some_eq e
      simp only [Bool.and_eq_true, decide_eq_true_eq] at hk
      have ed := rowsD_some er
      subst ed
      cases r1 with
      | @lst l vs _ nb el ra =>
        obtain ⟨L, rfl, hL, hA⟩ := rows_addr ra
        refine .inl (.inl ⟨l, L, rfl, SqL.of el, fun p hp => SqT.of (hA p hp).2, by rw [← List.length_map (f := fun p : Addr × List Int => p.2), hL]; exact hk.1, fun sa L2 hn h2 h3 => ?_⟩)
        have keep : ∀ p ∈ L, upd H1 sa (SetTO X.prog X.w sa L2) p.1 = some (.tup (p.2.map V.int)) := fun p hp => by
          rw [upd_ne (ne_of_none (hA p hp).2 hn)]; exact (hA p hp).2
        refine .inl ⟨sa, L2, rfl, upd_same, fun p hp => SqT.of (keep p (h2 p hp)), fun M p hm nd em h64 hp => ?_⟩
        have st1 := (st.after a1).h
        have a2 := st1.new (o := SetTO X.prog X.w sa L2) hn
        have st2 := st1.after a2
        have pm : (L2.map (·.2)).Perm (nub ks) := nub_perm (fun x hx => by
          obtain ⟨y, hy, rfl⟩ := List.mem_map.mp hx
          rw [← hL]
          exact List.mem_map.mpr ⟨y, h2 y hy, rfl⟩) (fun x hx => by
          rw [← hL] at hx
          obtain ⟨y, hy, rfl⟩ := List.mem_map.mp hx
          exact h3 y hy) nd
        have rows : RpA g B (upd H1 sa (SetTO X.prog X.w sa L2)) (M.map fun p => V.ref p.1) (M.map fun p => tupI p.2) := addr_rows fun q hq => ⟨(hA q (h2 q (hm q hq))).1, keep q (h2 q (hm q hq))⟩
        rw [em, srt_of_perm pm] at rows
        subst e2
        exact q _ _ (a2.trans (st2.new hp)) (frl_new st2 (fun b z => a1.dm b (a2.dm b z)) rows hp)
  · rename_i ds
    obtain ⟨xs, e, q⟩ := post_ofO h1
    unfold ssT at e
    cases ei : intsD ds with
    | none => rw [ei] at e; cases e
    | some ns =>
      rw [ei] at e
      simp only at e
      obtain ⟨hk, e⟩ := ite_some_eq e
      have ed := intsD_some ei
      subst ed
      cases r1 with
      | @tup l vs _ nb el ra =>
        have z : ∀ (k : List Int) (xs : List V), RpA g B H1 xs (k.map .int) → xs = k.map V.int := fun k => by
          induction k with
          | nil => intro xs r; cases r; rfl
          | cons i k ih =>
            intro xs r
            cases r with
            | cons q1 q2 => cases q1; rw [ih _ q2]; rfl
        rw [z ns vs ra] at el
        refine .inr ⟨l, ns, rfl, SqT.of el, hk, fun sa cn hn hcn => .inr ⟨sa, _, cn, rfl, upd_same, by omega, fun ms p pw hm hl hp => ?_⟩⟩
        have st1 := (st.after a1).h
        have a2 := st1.new (o := SetO X.w sa (fun j => decide (j ∈ ns)) cn) hn
        have st2 := st1.after a2
        have em : ms = ssI ns := asc_same pw (pw_ssI ns) fun x => by rw [hm, mem_ssI, decide_eq_true_eq]
        have zz : ∀ k : List Int, RpA g B (upd H1 sa (SetO X.w sa (fun j => decide (j ∈ ns)) cn)) (k.map V.int) (k.map .int) := fun k => by
          induction k with
          | nil => exact .nil
          | cons i k ih => exact .cons (.int i) ih
        have rows := zz ms
        subst e
        rw [em] at rows ⊢
        exact q _ _ (a2.trans (st2.new hp)) (frl_new st2 (fun b z => a1.dm b (a2.dm b z)) rows hp)
end
end Mi

namespace Mi
open PySem PySem.Spec PyProof.Rows L2
/-! sorted({k: True for ..}), k whole numbers -/
def aSD (own : List Nat) (t : Tg) (iv : Iv) (cond : Tv) (elt : Ev) : Av := fun ρ => bd (iv ρ) fun ds => noErr (bd (lcGo (step1 (wipeE ρ own) t cond elt) ds) fun xs => match intsD xs with
  | some ns => if xs.length ≤ sizeLine ∧ (ssI ns).length < 64 then rt ((ssI ns).map .int) else no
  | none => no)
def pushI (ks : List Int) (k : Int) : List Int := if ks.contains k then ks else ks ++ [k]
theorem push_mem {x : Int} : ∀ {ns ks : List Int}, x ∈ ns.foldl pushI ks ↔ x ∈ ks ∨ x ∈ ns
  | [], ks => by simp
  | k :: ns, ks => by
    rw [List.foldl_cons, push_mem, List.mem_cons]
    unfold pushI
    by_cases h : ks.contains k = true
    · rw [if_pos h]
      have hk : k ∈ ks := by simpa using h
      constructor
      · rintro (h | h)
        · exact .inl h
        · exact .inr (.inr h)
      · rintro (h | rfl | h)
        · exact .inl h
        · exact .inl hk
        · exact .inr h
    · rw [if_neg h, List.mem_append, List.mem_singleton]
      exact or_assoc
theorem push_nd : ∀ {ns ks : List Int}, ks.Nodup → (ns.foldl pushI ks).Nodup
  | [], ks, h => h
  | k :: ns, ks, h => by
    rw [List.foldl_cons]
    refine push_nd ?_
    unfold pushI
    by_cases hc : ks.contains k = true
    · rw [if_pos hc]; exact h
    · rw [if_neg hc]
      have hk : k ∉ ks := by simpa using hc
      exact List.nodup_append.mpr ⟨h, List.pairwise_singleton .., fun a ha b hb e => hk (by rw [List.mem_singleton.mp hb] at e; exact e ▸ ha)⟩
theorem push_len : ∀ {ns ks : List Int}, (ns.foldl pushI ks).length ≤ ks.length + ns.length
  | [], ks => by simp
  | k :: ns, ks => by
    rw [List.foldl_cons]
    have := push_len (ns := ns) (ks := pushI ks k)
    have : (pushI ks k).length ≤ ks.length + 1 := by
      unfold pushI
      split
      · exact Nat.le_succ _
      · rw [List.length_append]; exact Nat.le_refl _
    rw [List.length_cons]; omega
theorem putK_keys {kvs : List (Key × V)} {ks : List Int} {k : Int} {z : V} (h : kvs.map (·.1) = ks.map Sum.inl) : (putK kvs (Sum.inl k) z).map (·.1) = (pushI ks k).map Sum.inl := by
  have e : (kvs.any fun kv => decide (kv.1 = Sum.inl k)) = ks.contains k := by
    have e1 : (kvs.any fun kv => decide (kv.1 = Sum.inl k)) = ((kvs.map (·.1)).any fun q => decide (q = (Sum.inl k : Key))) := by rw [List.any_map]; rfl
    rw [e1, h, List.any_map, Bool.eq_iff_iff, List.any_eq_true]
    simp
  unfold putK pushI
  rw [e]
  by_cases hc : ks.contains k = true
  · rw [if_pos hc, if_pos hc, List.map_map, ← h]
    refine List.map_congr_left fun kv _ => ?_
    show (if kv.1 = Sum.inl k then (kv.1, z) else kv).1 = kv.1
    split <;> rfl
  · rw [if_neg hc, if_neg hc, List.map_append, List.map_append, h]; rfl
section
variable {X : Cx} {g : G} {B : Addr → Prop} {W : WX} {ρ : En} {c : Cp} {σ : L2.St} {H H' : Hp} {Dn : Addr} {H1 : Hp} {ns : List Int}
theorem tabs_updD {TT : List (Addr × Str)} {a : Addr} {xs ys : List (Key × V)} (h : H a = some (.dK xs)) (t : LamX.Tabs TT H) : LamX.Tabs TT (upd H a (.dK ys)) := fun p hp => by
  obtain ⟨ps, h1, h2, h3⟩ := t p hp
  have n1 : p.1 ≠ a := fun z => by rw [z, h] at h1; cases h1
  refine ⟨ps, by rw [upd_ne n1]; exact h1, h2, fun pos cv hc => ?_⟩
  obtain ⟨c, e1, e2⟩ := h3 pos cv hc
  have n2 : c ≠ a := fun z => by rw [z, h] at e2; cases e2
  exact ⟨c, e1, by rw [upd_ne n2]; exact e2⟩
structure DAcc (g : G) (B : Addr → Prop) (Dn : Addr) (H1 : Hp) (c : Cp) (ns : List Int) (H : Hp) : Prop where
  st : StH g B c H
  per : Per g.cs H1 H
  dm : ∀ a, H a = none → H1 a = none
  ex : ∃ kvs : List (Key × V), H Dn = some (.dK kvs) ∧ kvs.map (·.1) = (ns.foldl pushI []).map Sum.inl
theorem DAcc.after {c' : Cp} (a : DAcc g B Dn H1 c ns H) (f : After g H H' c') (nc : g.ca ≠ some Dn) : DAcc g B Dn H1 c' ns H' := by
  obtain ⟨kvs, e, r⟩ := a.ex
  exact ⟨a.st.after f, a.per.trans f.per, fun x z => a.dm x (f.dm x z), kvs, f.per _ _ e nc (fun ps z => by cases z), r⟩
theorem DAcc.start (s : StH g B c H1) (hn : H1 Dn = none) : DAcc g B Dn H1 c [] (upd H1 Dn (.dK [])) :=
  have a := s.new (o := .dK []) hn
  ⟨s.after a, a.per, a.dm, [], upd_same, rfl⟩
theorem DAcc.push (a : DAcc g B Dn H1 c ns H) {kvs : List (Key × V)} {k : Int} {z : V} (e : H Dn = some (.dK kvs)) (nc : g.ca ≠ some Dn) (hn : H1 Dn = none) : DAcc g B Dn H1 c (ns ++ [k]) (upd H Dn (.dK (putK kvs (Sum.inl k) z))) := by
  obtain ⟨kvs', e', r⟩ := a.ex
  rw [e] at e'; cases e'
  refine ⟨⟨?_, ?_, fun b hb => ?_, a.st.cb⟩, fun b o eb nb nt => ?_, fun b z => ?_, _, upd_same, ?_⟩
  · have k := a.st.cup
    unfold CupOK at k ⊢
    cases hc : g.ca with
    | none =>
      rw [hc] at k
      cases c with
      | none => trivial
      | some q => exact k.elim
    | some b =>
      rw [hc] at k
      cases c with
      | none => exact k.elim
      | some q =>
        obtain ⟨i, j⟩ := q
        show upd H Dn _ b = _
        rw [upd_ne (fun z => nc (by rw [hc, z]))]; exact k
  · exact tabs_updD e a.st.tabs
  · obtain ⟨xs, eb⟩ := a.st.dom b hb
    exact ⟨xs, by rw [upd_ne (fun q => by rw [q, e] at eb; cases eb)]; exact eb⟩
  · rw [upd_ne (fun z => by rw [z, hn] at eb; cases eb)]; exact a.per b o eb nb nt
  · by_cases hd : b = Dn
    · subst hd; rw [upd_same] at z; cases z
    · rw [upd_ne hd] at z; exact a.dm b z
  · rw [List.foldl_append]; exact putK_keys r
theorem ints_app : ∀ {a b : List D} {ns : List Int}, intsD (a ++ b) = some ns → ∃ m, intsD b = some m
  | [], b, ns, h => ⟨ns, h⟩
  | x :: a, b, ns, h => by
    have h' : (match intD x, intsD (a ++ b) with | some i, some is => some (i :: is) | _, _ => none) = some ns := h
    cases e1 : intD x with
    | none => rw [e1] at h'; cases h'
    | some i =>
      cases e2 : intsD (a ++ b) with
      | none => rw [e1, e2] at h'; cases h'
      | some is => exact ints_app e2
theorem ints_take : ∀ {a b : List D} {ns : List Int}, intsD (a ++ b) = some ns → ∃ m, intsD a = some m
  | [], b, ns, h => ⟨[], rfl⟩
  | x :: a, b, ns, h => by
    have h' : (match intD x, intsD (a ++ b) with | some i, some is => some (i :: is) | _, _ => none) = some ns := h
    cases e1 : intD x with
    | none => rw [e1] at h'; cases h'
    | some i =>
      cases e2 : intsD (a ++ b) with
      | none => rw [e1, e2] at h'; cases h'
      | some is =>
        obtain ⟨m, hm⟩ := ints_take e2
        refine ⟨i :: m, ?_⟩
        show (match intD x, intsD a with | some i, some is => some (i :: is) | _, _ => none) = _
        rw [e1, hm]
theorem fin_ints {step : D → M (List D)} {rest : List D} {l : List D} {P : List Int → Cp → Prop} (h : Fin step rest (ns.map .int ++ l) c fun xs c' => ∃ ms, intsD xs = some ms ∧ P ms c') : ∃ ms : List Int, l = ms.map .int := by
  unfold Fin at h
  cases e : lcGo step rest c with
  | err er c1 => rw [e] at h; exact h.elim
  | stuck => rw [e] at h; exact h.elim
  | ok r c1 =>
    rw [e] at h
    obtain ⟨_, ms, hm, _⟩ := h
    obtain ⟨m1, h1⟩ := ints_take hm
    obtain ⟨m2, h2⟩ := ints_app h1
    exact ⟨m2, intsD_some h2⟩
/-- one turn -/
theorem dturn {K : PySem.W.Frag} {t : Tg} {cond : Tv} {elt : Ev} {own : List Nat} {x : V} {d : D} {ms : List Int} {c1 : Cp} {Nx : Hp → Prop} (hs : ∀ i ∈ t.slots, i ∈ own) (nc : g.ca ≠ some Dn) (hn : H1 Dn = none)
    (st : StOK g B (wipeE ρ own) c (L2.wipe σ own) H) (a : DAcc g B Dn H1 c ns H) (rx : Rp g B H x d) (he : step1 (wipeE ρ own) t cond elt d c = .ok (ms.map .int) c1) (hl : ns.length + ms.length ≤ sizeLine)
    (k : ∀ H', DAcc g B Dn H1 c1 (ns ++ ms) H' → (∀ b o, H b = some o → b ≠ Dn → ¬ B b → (∀ ps, o ≠ .tbl ps) → H' b = some o ∧ ¬ B b) → Nx H') :
    gT K t x (L2.wipe σ own) H fun σ2 H2 => L2.wipe σ2 own = L2.wipe σ own ∧ xT g cond σ2 H2 fun b H3 => if b = true then xF g elt σ2 H3 fun y H4 => xF g (eCst (.bool true)) σ2 H4 fun z H5 => ∃ kvs q, y = kV q ∧ H5 Dn = some (.dK kvs) ∧ kvs.length < sizeLine ∧ Nx (upd H5 Dn (.dK (putK kvs q z))) else Nx H3 := by
  unfold step1 at he
  cases eb : bindT t d (wipeE ρ own) with
  | none => rw [eb] at he; cases he
  | some ρ' =>
    rw [eb] at he
    refine gT_ok st rx eb fun σ' s' h' => ⟨wipe_sets h' hs, _, ρ', c, s', ?_⟩
    simp only at he
    unfold bd at he
    cases ec : cond ρ' c with
    | err er c2 => rw [ec] at he; cases he
    | stuck => rw [ec] at he; cases he
    | ok b c2 =>
      rw [ec] at he
      intro b' H3 a3 eb'
      cases eb'
      have acc3 := a.after a3 nc
      have s3 := s'.after a3
      cases b with
      | false =>
        simp only [Bool.false_eq_true, if_false, rt] at he ⊢
        have hms : ms = [] := by
          have := (Re.ok.inj he).1
          cases ms with
          | nil => rfl
          | cons q r => cases this
        subst hms
        cases he
        rw [List.append_nil] at k
        exact k _ acc3 fun b o eb _ nb nt => ⟨a3.per b o eb (fun z => nb (s'.cb b z)) nt, nb⟩
      | true =>
        simp only [if_true] at he ⊢
        cases ee : elt ρ' c2 with
        | err er c4 => rw [ee] at he; cases he
        | stuck => rw [ee] at he; cases he
        | ok z c4 =>
          rw [ee] at he
          have h1 : [z] = ms.map PyData.int := (Re.ok.inj he).1
          have h2 : c4 = c1 := (Re.ok.inj he).2
          subst h2
          match ms, h1 with
          | [q], h1 =>
            have hz : z = .int q := (List.cons.inj h1).1
            subst hz
            refine ⟨_, ρ', c2, s3, ?_⟩
            rw [ee]
            intro y H4 a4 ry
            have s4 := s3.after a4
            refine ⟨B, ρ', c4, s4, ?_⟩
            intro y2 H5 a5 ry2
            have acc5 := (acc3.after a4 nc).after a5 nc
            obtain ⟨kvs, e5, r5⟩ := id acc5.ex
            have len : kvs.length ≤ ns.length := by
              have e := congrArg List.length r5
              rw [List.length_map, List.length_map] at e
              have := push_len (ns := ns) (ks := [])
              simp only [List.length_nil] at this
              omega
            cases ry
            refine ⟨kvs, Sum.inl q, rfl, e5, by simp only [List.length_singleton] at hl; omega, k _ (acc5.push e5 nc hn) fun b o eb hd nb nt => ⟨?_, nb⟩⟩
            rw [upd_ne hd]
            exact a5.per b o (a4.per b o (a3.per b o eb (fun z => nb (s'.cb b z)) nt) (fun z => nb (s'.cb b z)) nt) (fun z => nb (s'.cb b z)) nt
/-- sorted over such a dict -/
def rSD : List V → Hp → VK → Prop := fun xs H Q => ∃ (a : Addr) (kvs : List (Key × V)) (ks : List Int), xs = [.ref a] ∧ Rd H a (.dK kvs) ∧ kvs.map (·.1) = ks.map Sum.inl ∧ ks.length < 64 ∧
    ∀ (ys : List Int) (p : Addr), ys.Perm ks → ys.Pairwise (· ≤ ·) → H p = none → Q (.ref p) (upd H p (.lst (ys.map V.int)))
theorem dc_read {K : PySem.W.Frag} {own : List Nat} {t : Tg} {iv : Iv} {cond : Tv} {elt : Ev} {Q : VK} (hs : ∀ i ∈ t.slots, i ∈ own) (h : tL g B W (aSD own t iv cond elt) σ H Q) :
    tDc (tI g B W iv) (gT K t) (xT g cond) (xF g elt) (xF g (eCst (.bool true))) own σ H (fun v H1 => rSD [v] H1 Q) := by
  obtain ⟨ρ, c, st, h⟩ := h
  refine ⟨ρ, c, st, (Post.bd (R1 := fun H' J ds => Yl g B J ds H') h).mono fun J H1 ⟨ds, c1, yl, a1, h1⟩ => fun Dn hn => ?_⟩
  have fin : Fin (step1 (wipeE ρ own) t cond elt) ds [] c1 fun xs c' => ∃ ms, intsD xs = some ms ∧ (ssI ms).length < 64 ∧ ∀ v H2, After g H1 H2 c' → FrL g B H H2 v ((ssI ms).map .int) → Q v H2 := by
    unfold Fin
    unfold noErr bd at h1
    cases e : lcGo (step1 (wipeE ρ own) t cond elt) ds c1 with
    | err er c1 => rw [e] at h1; exact h1.elim
    | stuck => rw [e] at h1; exact h1.elim
    | ok r c2 =>
      simp only [e] at h1
      cases ei : intsD r with
      | none => rw [ei] at h1; exact h1.elim
      | some ms =>
        rw [ei] at h1
        simp only at h1
        by_cases hl : r.length ≤ sizeLine ∧ (ssI ms).length < 64
        · rw [if_pos hl] at h1
          exact ⟨by simpa using hl.1, ms, ei, hl.2, h1⟩
        · rw [if_neg hl] at h1; exact h1.elim
  have st1 := st.after a1
  have nc : g.ca ≠ some Dn := cup_ne st1.h hn
  refine ⟨fun i m Hc => m = ds.length - i ∧ i ≤ ds.length ∧ ∃ c ns, DAcc g B Dn H1 c ns Hc ∧ (∀ b o, H1 b = some o → ¬ B b → (∀ ps, o ≠ .tbl ps) → Hc b = some o ∧ ¬ B b) ∧
    Fin (step1 (wipeE ρ own) t cond elt) (ds.drop i) (ns.map .int) c (fun xs c' => ∃ ms, intsD xs = some ms ∧ (ssI ms).length < 64 ∧ ∀ v H2, After g H1 H2 c' → FrL g B H H2 v ((ssI ms).map .int) → Q v H2), ⟨ds.length, by simp, Nat.zero_le _, c1, [], DAcc.start st1.h hn, fun b o eb nb nt => ?_, fin⟩, ?_⟩
  · exact ⟨by rw [upd_ne (ne_of_none eb hn)]; exact eb, nb⟩
  rintro i m Hc ⟨rfl, hi, cc, ns, A, kp, F⟩
  have Y := yl B i Hc cc kp A.st
  by_cases hlt : i < ds.length
  · have ed : ds.drop i = ds[i] :: ds.drop (i + 1) := List.drop_eq_getElem_cons hlt
    rw [ed] at F
    obtain ⟨l, c2, e2, l2, F2⟩ := F.next
    obtain ⟨ms, hms⟩ := fin_ints F2
    subst hms
    obtain ⟨go, yy⟩ := Y.1 ds[i] (List.getElem?_eq_getElem hlt)
    refine .inr ⟨go, fun H' => i + 1 ≤ ds.length ∧ ∃ c ns, DAcc g B Dn H1 c ns H' ∧ (∀ b o, H1 b = some o → ¬ B b → (∀ ps, o ≠ .tbl ps) → H' b = some o ∧ ¬ B b) ∧
      Fin (step1 (wipeE ρ own) t cond elt) (ds.drop (i + 1)) (ns.map .int) c (fun xs c' => ∃ ms, intsD xs = some ms ∧ (ssI ms).length < 64 ∧ ∀ v H2, After g H1 H2 c' → FrL g B H H2 v ((ssI ms).map .int) → Q v H2), fun H' ⟨z1, z2⟩ => ⟨ds.length - (i + 1), by omega, rfl, z1, z2⟩, fun x H' y => ?_⟩
    obtain ⟨af, rx⟩ := yy x H' y
    have A' := A.after af nc
    have s0 : StOK g B ρ cc σ H' := st1.more A'.st fun b o eb nb nt => by
      obtain ⟨k1, k2⟩ := kp b o eb nb nt
      exact ⟨af.per b o k1 (fun z => k2 (A.st.cb b z)) nt, k2⟩
    refine dturn hs nc hn (s0.wipe own) A' rx e2 (by rw [List.length_map, List.length_map] at l2; exact l2) fun H2 A2 k2 => ⟨hlt, c2, ns ++ ms, A2, fun b o eb nb nt => ?_, by rw [List.map_append]; exact F2⟩
    obtain ⟨k3, k4⟩ := kp b o eb nb nt
    exact k2 b o (af.per b o k3 (fun z => k4 (A.st.cb b z)) nt) (ne_of_none eb hn) k4 nt
  · have e : i = ds.length := by omega
    subst e
    rw [List.drop_length] at F
    have F' : (ns.map PyData.int).length + 0 ≤ sizeLine ∧ ∃ ms, intsD (ns.map .int ++ []) = some ms ∧ (ssI ms).length < 64 ∧ ∀ v H2, After g H1 H2 cc → FrL g B H H2 v ((ssI ms).map .int) → Q v H2 := F
    rw [List.append_nil] at F'
    obtain ⟨_, ms, hm, h64, fq⟩ := F'
    have hmn : ms = ns := by
      have z := intsD_some hm
      have inj : ∀ (a b : List Int), a.map PyData.int = b.map PyData.int → a = b := fun a => by
        induction a with
        | nil => intro b hb; cases b with | nil => rfl | cons => cases hb
        | cons x a ih => intro b hb; cases b with
          | nil => cases hb
          | cons y b =>
            rw [List.map_cons, List.map_cons] at hb
            injection hb with h1 h2
            injection h1 with h1
            rw [h1, ih b h2]
      exact (inj _ _ z).symm
    subst hmn
    obtain ⟨kvs, ek, rk⟩ := A.ex
    have nd := push_nd (ns := ms) (ks := []) List.nodup_nil
    have mem : ∀ x, x ∈ ms.foldl pushI [] ↔ x ∈ ms := fun x => push_mem.trans (by simp)
    have pm : (ms.foldl pushI []).Perm (ssI ms) := (List.perm_ext_iff_of_nodup nd ((pw_ssI ms).imp fun h => Int.ne_of_lt h)).mpr fun x => (mem x).trans mem_ssI.symm
    refine .inl ⟨Y.2 (List.getElem?_eq_none (Nat.le_refl _)), Dn, kvs, _, rfl, .inl ek, rk, by rw [pm.length_eq]; exact h64, fun ys p py pw hp => ?_⟩
    have ndy : ys.Nodup := py.nodup_iff.mpr nd
    have ey : ys = ssI ms := asc_same (List.Pairwise.imp₂ (fun a b h1 (h2 : a ≠ b) => by omega) pw ndy) (pw_ssI ms) fun x => py.mem_iff.trans (pm.mem_iff)
    have zz : ∀ k : List Int, RpA g B Hc (k.map V.int) (k.map .int) := fun k => by
      induction k with
      | nil => exact .nil
      | cons i k ih => exact .cons (.int i) ih
    rw [ey]
    exact fq _ _ ((⟨A.per, A.st.cup, A.st.tabs, A.dm⟩ : After g H1 Hc cc).trans (A.st.new hp)) ⟨p, _, rfl, a1.dm p (A.dm p hp), upd_same, (zz _).re fun b o e nb nt => ⟨by rw [upd_ne (ne_of_none e hp)]; exact e, fun z => z.elim nb (ne_of_none e hp)⟩⟩
theorem l_sd {kx tg iter : Expr} {ifs : List Expr} {scope : Scope} {own : List (Str × Nat)} {pos p1 p4 pv : Pos} {kk : Nat} {t : Tg} {iv : Iv} {cond : Tv} {fe : Ev} (hc : X.calm = true) (hg1 : Gl X "sorted") (hm1 : X.mg "sorted" = none) (hN : X.N.Nodup) (ok : BlkOk X.N X.env.scope scope own) (hs : ∀ i ∈ t.slots, i ∈ own.map (·.2))
    (hi : PI X tg iter (tI g B W iv)) (hg : ∀ (s : Shared) (H : Hp) (C : Addr) (cl : List (Str × Addr)) (fp : List Addr), PG (X.blk s H scope (compEnvC scope cl C X.env) fp) tg (gT X.K t))
    (ht : ∀ (s : Shared) (H : Hp) (C : Addr) (cl : List (Str × Addr)) (fp : List Addr) (B : Addr → Prop), PTs (X.blk s H scope (compEnvC scope cl C X.env) fp) ifs (tT g B W0 cond))
    (he : ∀ (s : Shared) (H : Hp) (C : Addr) (cl : List (Str × Addr)) (fp : List Addr) (B : Addr → Prop), PE (X.blk s H scope (compEnvC scope cl C X.env) fp) kx (tF g B W0 fe)) (hf : ∀ x, foldedSetIterable iter X.env x = pure x) :
    PE X (.Call (.Name "sorted" p1) [.DictComp kx (.Constant (.bool true) kk pv) [⟨tg, iter, ifs, 0⟩] scope pos] [] p4) (tL g B W (aSD (own.map (·.2)) t iv cond fe)) := by
  have inner := pe_dc (X := X) (kx := kx) (vx := .Constant (.bool true) kk pv) (pos := pos) (wi := tI g B W iv) (tv := xF g (eCst (.bool true))) hc hN hi ok hg (fun s H C cl fp => PTs.ex (ht s H C cl fp)) (fun s H C cl fp => PE.ex (he s H C cl fp)) (fun s H C cl fp => PE.ex fun B => s_cst (d := .bool true) rfl) hf
  exact ⟨fun pins s σ H Q I h => (pe_callB (r := rSD) (call_sortedDI hc) hg1 hm1 (by decide +kernel) (pa_cons inner pa_nil rfl) (by decide) (by decide) rfl rfl).run pins s σ H Q I (dc_read hs h)⟩
end
end Mi

namespace Mi
open PySem PySem.Spec PyProof.Rows L2
/-! a program's text made to functions of the environment -/
def ixOf : List Str → Str → Option Nat
  | [], _ => none
  | y :: r, x => if y = x then some 0 else (ixOf r x).map (· + 1)
theorem ixOf_some : ∀ {N : List Str} {x : Str} {i : Nat}, ixOf N x = some i → N[i]? = some x
  | [], _, _, h => by cases h
  | y :: r, x, i, h => by
    unfold ixOf at h
    by_cases e : y = x
    · rw [if_pos e] at h; cases h; rw [e]; rfl
    · rw [if_neg e] at h
      obtain ⟨j, hj, rfl⟩ := Option.map_eq_some_iff.mp h
      have q := ixOf_some hj
      simpa using q
def chk {α : Type} (b : Bool) (o : Option α) : Option α := match b with
  | true => o
  | false => none
theorem chk_some {α : Type} {b : Bool} {o : Option α} {x : α} (h : chk b o = some x) : b = true ∧ o = some x := by
  cases b with
  | true => exact ⟨rfl, h⟩
  | false => cases h
def map2 {α β γ : Type} (f : α → β → γ) (a : Option α) (b : Option β) : Option γ := match a with
  | some x => match b with
    | some y => some (f x y)
    | none => none
  | none => none
theorem map2_some {α β γ : Type} {f : α → β → γ} {a : Option α} {b : Option β} {c : γ} (h : map2 f a b = some c) : ∃ x y, a = some x ∧ b = some y ∧ f x y = c := by
  cases a with
  | none => cases h
  | some x =>
    cases b with
    | none => cases h
    | some y => exact ⟨x, y, rfl, rfl, Option.some.inj h⟩
def map3 {α β γ δ : Type} (f : α → β → γ → δ) (a : Option α) (b : Option β) (c : Option γ) : Option δ := match a with
  | some x => map2 (f x) b c
  | none => none
theorem map3_some {α β γ δ : Type} {f : α → β → γ → δ} {a : Option α} {b : Option β} {c : Option γ} {d : δ} (h : map3 f a b c = some d) : ∃ x y z, a = some x ∧ b = some y ∧ c = some z ∧ f x y z = d := by
  cases a with
  | none => cases h
  | some x =>
    obtain ⟨y, z, h1, h2, h3⟩ := map2_some h
    exact ⟨x, y, z, rfl, h1, h2, h3⟩
/-- the names that stand for something: built-ins not hidden, whole numbers, defs, exception classes, built-ins by values, defs that get a lambda -/
structure Tab where
  free : List Str
  nums : List (Str × Int)
  fns : List (Str × (Nat × (List D → M D)))
  excs : List Str
  bis : List (Str × (List D → Option D))
  bls : List (Str × (List D → Option (List D)))
  lams : List (Str × (M D → M D))
/-- a block's names: the def's, its scope, which cells are its own, which names hold lists that change, whether it makes lambdas -/
structure Sc where
  N : List Str
  sc : Scope
  fc : Str → Bool
  bx : List Str
  lam : Bool
structure Cs where
  e : Sc → Expr → Option Ev
  t : Sc → Expr → Option Tv
  a : Sc → List Expr → Option Av
  i : Sc → Expr → Expr → Option Iv
  l : Sc → Expr → Option Av
def isStar : Expr → Bool
  | .Starred _ _ => true
  | _ => false
def noStars : List Expr → Bool
  | [] => true
  | e :: es => !isStar e && noStars es
theorem star_cons {e : Expr} {es : List Expr} {env : Env} (h : isStar e = false) : starEach (e :: es) env = (false, eval e env) :: starEach es env := by
  cases e <;> first
    | rfl
    | cases h
theorem stars_any : ∀ {es : List Expr} {env : Env} {pos : Pos}, noStars es = true → (backTo pos (starEach es env)).any (·.1) = false
  | [], _, _, _ => rfl
  | e :: es, env, pos, h => by
    unfold noStars at h
    simp only [Bool.and_eq_true, Bool.not_eq_true'] at h
    rw [star_cons h.1]
    exact stars_any (es := es) h.2
theorem stars_cons {e : Expr} {es : List Expr} (h : noStars (e :: es) = true) : isStar e = false ∧ noStars es = true := by
  unfold noStars at h
  simpa only [Bool.and_eq_true, Bool.not_eq_true'] using h
def oddName (x : Str) : Bool := x == ("__debug__" : Str) || x == ("__classdict__" : Str) || x == ("__name__" : Str)
theorem odd_of {x : Str} (h : oddName x = false) : (x == ("__debug__" : Str)) = false ∧ (x == ("__classdict__" : Str)) = false ∧ x ≠ "__name__" := by
  unfold oddName at h
  simp only [Bool.or_eq_false_iff] at h
  exact ⟨h.1.1, h.1.2, fun z => by rw [z] at h; exact absurd h.2 (by decide)⟩
/-- a name that the frame holds -/
def visX (S : Sc) (x : Str) : Bool := match S.sc.names.lookup x with
  | some .local => true
  | some .cell => true
  | some .free => true
  | _ => false
def glX (S : Sc) (x : Str) : Bool := match S.sc.names.lookup x with
  | some .globalImplicit => true
  | _ => false
def locX (S : Sc) (x : Str) : Bool := match S.sc.names.lookup x with
  | some .local => true
  | some .cell => S.fc x
  | _ => false
def isLoc (S : Sc) (x : Str) : Bool := match S.sc.names.lookup x with
  | some .local => true
  | _ => false
/-- targets -/
def cNames (S : Sc) : List Expr → Option (List Nat)
  | [] => some []
  | .Name x _ :: r => chk (locX S x && !oddName x) (map2 List.cons (ixOf S.N x) (cNames S r))
  | _ => none
def cTg (S : Sc) : Expr → Option Tg
  | .Name x _ => chk (locX S x && !oddName x) ((ixOf S.N x).map .nm)
  | .Tuple es _ _ => (cNames S es).map .tp
  | _ => none
/-! what the names are, in the module; what a block meets -/
structure BiOK (mg : Str → Option Value) (x : Str) (o : List D → Option D) : Prop where
  m : mg x = none
  ex : (∃ id, bootBuiltins x = some (.builtin id) ∧ ∀ (X : Cx) (g : G) (B : Addr → Prop), X.calm = true → X.A.units + 100 < cLine → CallR X (.builtin id) (rDs g B o)) ∨ (∃ T, bootBuiltins x = some (.type T) ∧ ∀ (X : Cx) (g : G) (B : Addr → Prop), X.calm = true → X.A.units + 100 < cLine → CallR X (.type T) (rDs g B o))
structure BlOK (mg : Str → Option Value) (x : Str) (o : List D → Option (List D)) : Prop where
  m : mg x = none
  ex : (∃ id, bootBuiltins x = some (.builtin id) ∧ ∀ (X : Cx) (g : G) (B : Addr → Prop), X.calm = true → X.A.units + 100 < cLine → CallR X (.builtin id) (rLs g B o)) ∨ (∃ T, bootBuiltins x = some (.type T) ∧ ∀ (X : Cx) (g : G) (B : Addr → Prop), X.calm = true → X.A.units + 100 < cLine → CallR X (.type T) (rLs g B o))
structure ExcF (mg : Str → Option Value) (K : PySem.W.Frag) (x : Str) : Prop where
  ex : ∃ C, mg x = some (.ref C) ∧ PySem.W.excIn K C [.type "ValueError", .type "Exception", .type "BaseException", .type "object"] "ValueError.__new__" = true ∧ PySem.W.keepIn K (.ref C) = true ∧
    PySem.W.subIn K (.ref C) (.type "BaseException") = some true ∧ PySem.W.typeIn K (.ref C) = some (.type "type")
/-- a def that gets a lambda (made by a def of the tables TT): what it tells by what the lambda tells -/
def LamF (mg : Str → Option Value) (TT : List (Addr × Str)) (k : Nat) (P : Program) (w : World) (K : PySem.W.Frag) (base : Heap) (x : Str) (F : M D → M D) : Prop :=
  ∀ (X : Cx) (W : WX) (ca : Option Addr) (B : Addr → Prop) (c P' : Addr) (params : Arguments) (body : Expr) (scope : Scope) (p lpos pos : Pos) (f : Ev), X.mg = mg → X.prog = P → X.w = w → X.K = K → X.base = base → L2N.Takes X W → Gl X x →
    LamX.TabB base mg c P' → X.env.code = .ref c → (P', X.env.qual ++ "<lambda>") ∈ TT → (∀ q ∈ TT, q.1 = P' → q.2 = X.env.qual ++ "<lambda>") → Room (k + 2) X.A → LamX.LamS X.env.scope scope → defaultsOf params X.env = ([], []) →
    (∀ (q : Str) (cl : List (Str × Addr)) (pm cv ctv : Value), bindArgs (PySem.W.kla_fn "<lambda>" q params body scope cl pm cv ctv) ⟨[], []⟩ = pure []) →
    (∀ (Y : Cx) (W' : WX), Y.N = X.N → Y.env.scope = scope → Y.fn = (fun _ => false) → Y.mg = mg → Y.prog = P → Y.w = w → Y.K = K → Y.base = base → Y.calm = true → Room k Y.A → L2N.Takes Y W' → PE Y body (tF ⟨mg, ca, TT⟩ B W' f)) →
    PE X (.Call (.Name x p) [.Lambda params body scope lpos] [] pos) (tF ⟨mg, ca, TT⟩ B W fun ρ => F (f ρ))
structure TOK (T : Tab) (mg : Str → Option Value) (TT : List (Addr × Str)) (k : Nat) (P : Program) (w : World) (K : PySem.W.Frag) (base : Heap) : Prop where
  free : ∀ x ∈ T.free, mg x = none
  nums : ∀ x i, T.nums.lookup x = some i → ∃ t, mg x = some (.int i t)
  fns : ∀ x m F, T.fns.lookup x = some (m, F) → FnH mg TT k P w K base x m F
  excs : ∀ x ∈ T.excs, ExcF mg K x
  bis : ∀ x o, T.bis.lookup x = some o → BiOK mg x o
  bls : ∀ x o, T.bls.lookup x = some o → BlOK mg x o
  lams : ∀ x F, T.lams.lookup x = some F → ∀ j, LamF mg TT j P w K base x F
structure XI (T : Tab) (k : Nat) (g : G) (S : Sc) (X : Cx) (W : WX) : Prop where
  N : X.N = S.N
  nd : S.N.Nodup
  scope : X.env.scope = S.sc
  fn : X.fn = S.fc
  mg : X.mg = g.mg
  calm : X.calm = true
  room : Room k X.A
  tk : L2N.Takes X W
  tok : TOK T g.mg g.TT k X.prog X.w X.K X.base
  lam : S.lam = true → Room (k + 2) X.A ∧ ∃ c P', LamX.TabB X.base X.mg c P' ∧ X.env.code = .ref c ∧ (P', X.env.qual ++ "<lambda>") ∈ g.TT ∧ ∀ q ∈ g.TT, q.1 = P' → q.2 = X.env.qual ++ "<lambda>"
structure Good (T : Tab) (k : Nat) (cs : Cs) : Prop where
  e : ∀ (S : Sc) (e : Expr) (f : Ev), cs.e S e = some f → ∀ (X : Cx) (g : G) (B : Addr → Prop) (W : WX), XI T k g S X W → PE X e (tF g B W f)
  t : ∀ (S : Sc) (e : Expr) (f : Tv), cs.t S e = some f → ∀ (X : Cx) (g : G) (B : Addr → Prop) (W : WX), XI T k g S X W → PT X e (tT g B W f)
  w : ∀ (S : Sc) (op : BoolOp) (es : List Expr) (p : Pos) (f : Tv), cs.t S (.BoolOp op es p) = some f → ∀ (X : Cx) (g : G) (B : Addr → Prop) (W : WX), XI T k g S X W → PW X (.BoolOp op es p) (tT g B W f)
  a : ∀ (S : Sc) (es : List Expr) (f : Av), cs.a S es = some f → ∀ (X : Cx) (g : G) (B : Addr → Prop) (W : WX), XI T k g S X W → PA X es (tA g B W f)
  i : ∀ (S : Sc) (tg e : Expr) (f : Iv), cs.i S tg e = some f → ∀ (X : Cx) (g : G) (B : Addr → Prop) (W : WX), XI T k g S X W → PI X tg e (tI g B W f)
  l : ∀ (S : Sc) (e : Expr) (f : Av), cs.l S e = some f → ∀ (X : Cx) (g : G) (B : Addr → Prop) (W : WX), XI T k g S X W → PE X e (tL g B W f)
section
variable {T : Tab} {k : Nat} {g : G} {S : Sc} {X : Cx} {W : WX} {x : Str}
theorem XI.units (I : XI T k g S X W) : X.A.units + 100 < cLine := by have := I.room.un; omega
theorem XI.u65 (I : XI T k g S X W) : X.A.units + 65 < cLine := by have := I.room.un; omega
theorem XI.vis (I : XI T k g S X W) (h : visX S x = true) : Vis X.env.scope x := by
  rw [I.scope]
  unfold visX at h
  split at h
  · exact .inl (by assumption)
  · exact .inr (.inl (by assumption))
  · exact .inr (.inr (by assumption))
  · cases h
theorem XI.gl (I : XI T k g S X W) (h : glX S x = true) : Gl X x := by
  show X.env.scope.names.lookup x = _
  rw [I.scope]
  unfold glX at h
  split at h
  · assumption
  · cases h
theorem XI.loc (I : XI T k g S X W) (h : locX S x = true) : Loc X.env.scope x ∧ (X.fn x = true ∨ X.env.scope.names.lookup x = some .local) := by
  rw [I.scope, I.fn]
  unfold locX at h
  split at h
  · exact ⟨.inl (by assumption), .inr (by assumption)⟩
  · exact ⟨.inr (by assumption), .inl h⟩
  · cases h
theorem XI.isLoc (I : XI T k g S X W) (h : isLoc S x = true) : X.env.scope.names.lookup x = some .local := by
  rw [I.scope]
  unfold Mi.isLoc at h
  split at h
  · assumption
  · cases h
theorem assign_cons {x : Str} {p : Pos} {es : List Expr} {env : Env} : assignEach (.Name x p :: es) env = (false, assign (.Name x p) env) :: assignEach es env := rfl
theorem names_good (I : XI T k g S X W) : ∀ {es : List Expr} {is : List Nat}, cNames S es = some is → PGs X es (gNames is) ∧ (assignEach es X.env).length = is.length ∧ (assignEach es X.env).findIdx? (·.1) = none
  | [], is, h => by cases h; exact ⟨pgs_nil, rfl, rfl⟩
  | e :: es, is, h => by
    cases e <;> try (cases h; done)
    rename_i x p
    obtain ⟨h1, h2⟩ := chk_some h
    simp only [Bool.and_eq_true, Bool.not_eq_true'] at h1
    obtain ⟨i, js, e1, e2, rfl⟩ := map2_some h2
    obtain ⟨q1, q2, q3⟩ := names_good I (es := es) e2
    obtain ⟨l1, l2⟩ := I.loc h1.1
    have hN : X.N[i]? = some x := by rw [I.N]; exact ixOf_some e1
    refine ⟨pgs_cons (pg_name (by rw [I.N]; exact I.nd) hN l1 l2) q1 rfl, ?_, ?_⟩
    · rw [assign_cons]; exact congrArg Nat.succ q2
    · rw [assign_cons, List.findIdx?_cons]
      simp only [Bool.false_eq_true, if_false, q3]
      rfl
theorem tg_good (I : XI T k g S X W) {e : Expr} {t : Tg} (h : cTg S e = some t) : PG X e (gT X.K t) := by
  cases e <;> try (cases h; done)
  · rename_i x p
    obtain ⟨h1, h2⟩ := chk_some h
    simp only [Bool.and_eq_true, Bool.not_eq_true'] at h1
    obtain ⟨i, e1, rfl⟩ := Option.map_eq_some_iff.mp h2
    obtain ⟨l1, l2⟩ := I.loc h1.1
    exact pg_name (by rw [I.N]; exact I.nd) (by rw [I.N]; exact ixOf_some e1) l1 l2
  · rename_i es kk p
    obtain ⟨is, e1, rfl⟩ := Option.map_eq_some_iff.mp h
    obtain ⟨q1, q2, q3⟩ := names_good I e1
    exact pg_tup I.calm q1 q2 q3
end
end Mi

namespace Mi
open PySem PySem.Spec PyProof.Rows L2
/-! expressions -/
def cCst : Const → Option D
  | .none => some .none
  | .bool b => some (.bool b)
  | .int i => some (.int i)
  | .str x => some (.str x)
  | _ => none
def cName (T : Tab) (S : Sc) (x : Str) : Option Ev := chk (!oddName x) (match visX S x with
  | true => (ixOf S.N x).map eVar
  | false => chk (glX S x) (match T.nums.lookup x with
    | some i => some (eCst (.int i))
    | none => (T.fns.lookup x).map fun _ => eCst (dFn x)))
def cCmp (cs : Cs) (S : Sc) (a : Expr) (ops : List CmpOp) (bs : List Expr) : Option Ev := match ops, bs with
  | [o], [b] => chk (!behindInMarks o b) (map2 (eCmp o) (cs.e S a) (cs.e S b))
  | [o, o'], [b, c] => chk (!lastMarks [o, o'] [b, c]) (map3 (eChain o o') (cs.e S a) (cs.e S b) (cs.e S c))
  | _, _ => none
def cBool (cs : Cs) (S : Sc) (o : BoolOp) (es : List Expr) (p : Pos) : Option Ev := match es with
  | [] => none
  | [a] => cs.e S a
  | a :: b :: rest => match o with
    | .And => map2 eAnd (cs.e S a) (cs.e S (.BoolOp .And (b :: rest) p))
    | .Or => map2 eOr (cs.e S a) (cs.e S (.BoolOp .Or (b :: rest) p))
def cO (cs : Cs) (S : Sc) : Option Expr → Option Ov
  | none => some oNo
  | some e => (cs.e S e).map oSo
def cSub (cs : Cs) (S : Sc) (a b : Expr) : Option Ev := match b with
  | .Slice lo hi st _ => match st with
    | none => map3 eSl (cs.e S a) (cO cs S lo) (cO cs S hi)
    | some (.UnaryOp .USub (.Constant (.int i) _ _) _) => (match lo, hi with
      | none, none => if i = 1 then (cs.e S a).map eRev else none
      | _, _ => none)
    | some _ => none
  | b => map2 eIx (cs.e S a) (cs.e S b)
def tyN (y : Str) : Option String := if y = "int" then some "int" else if y = "bool" then some "bool" else if y = "str" then some "str" else if y = "tuple" then some "tuple" else if y = "list" then some "list" else none
theorem tyN_ok {y : Str} {t : String} (h : tyN y = some t) : t ∈ isaTypes ∧ bootBuiltins y = some (.type t) := by
  unfold tyN at h
  by_cases e : y = "int"
  · rw [if_pos e] at h; cases h; subst e; exact ⟨by decide, by decide +kernel⟩
  rw [if_neg e] at h; clear e
  by_cases e : y = "bool"
  · rw [if_pos e] at h; cases h; subst e; exact ⟨by decide, by decide +kernel⟩
  rw [if_neg e] at h; clear e
  by_cases e : y = "str"
  · rw [if_pos e] at h; cases h; subst e; exact ⟨by decide, by decide +kernel⟩
  rw [if_neg e] at h; clear e
  by_cases e : y = "tuple"
  · rw [if_pos e] at h; cases h; subst e; exact ⟨by decide, by decide +kernel⟩
  rw [if_neg e] at h; clear e
  by_cases e : y = "list"
  · rw [if_pos e] at h; cases h; subst e; exact ⟨by decide, by decide +kernel⟩
  rw [if_neg e] at h; cases h
def cIsa (T : Tab) (cs : Cs) (S : Sc) (args : List Expr) : Option Ev := match args with
  | [a, .Name y _] => chk (glX S "isinstance" && glX S y && T.free.contains "isinstance" && T.free.contains y && !oddName y && !isStar a) (map2 eIsa (tyN y) (cs.e S a))
  | _ => none
/-- f(..) where the name f is global -/
def cCallG (T : Tab) (cs : Cs) (S : Sc) (x : Str) (args : List Expr) : Option Ev := match T.fns.lookup x with
  | some (m, F) => (match args with
    | [] => some (eCall m F aNil)
    | a :: es => (cs.a S (a :: es)).map (eCall m F))
  | none => if x = "isinstance" then cIsa T cs S args else match T.bis.lookup x with
    | some o => (match args with
      | [] => none
      | a :: es => (cs.a S (a :: es)).map (eBi o))
    | none => match T.lams.lookup x with
      | some F => (match args with
        | [.Lambda params body scope _] => chk (S.lam && LamX.lamSB S.sc scope && (match params with | ⟨[], [], none, [], [], none, []⟩ => true | _ => false)) ((cs.e ⟨S.N, scope, fun _ => false, [], false⟩ body).map fun f ρ => F (f ρ))
        | _ => none)
      | none => none
def cCall (T : Tab) (cs : Cs) (S : Sc) (f : Expr) (args : List Expr) (kw : List Keyword) : Option Ev := match kw with
  | _ :: _ => none
  | [] => match f with
    | .Name x _ => chk (!oddName x && noStars args) (match visX S x with
      | true => (match args with
        | [] => none
        | a :: es => map2 (fun i f => eCallV (fun y => T.fns.lookup y) i f) (ixOf S.N x) (cs.a S (a :: es)))
      | false => chk (glX S x) (cCallG T cs S x args))
    | _ => none
def cE (T : Tab) (cs : Cs) (S : Sc) : Expr → Option Ev
  | .Constant k _ _ => (cCst k).map eCst
  | .Name x _ => cName T S x
  | .BinOp a o b _ => chk (okBin o) (map2 (eBin o) (cs.e S a) (cs.e S b))
  | .Compare a ops bs _ => cCmp cs S a ops bs
  | .UnaryOp .Not a _ => (cs.e S a).map eNot
  | .UnaryOp .USub a _ => (cs.e S a).map eNeg
  | .BoolOp o es p => cBool cs S o es p
  | .IfExp c a b _ => map3 eIte (cs.t S c) (cs.e S a) (cs.e S b)
  | .Tuple es _ _ => (cs.a S es).map eTup
  | .List es _ => (cs.a S es).map eLst
  | .ListComp elt gs scope p => (cs.l S (.ListComp elt gs scope p)).map eOfA
  | .Subscript a b _ => cSub cs S a b
  | .Call f args kw p => match cCall T cs S f args kw with
    | some r => some r
    | none => (cs.l S (.Call f args kw p)).map eOfA
  | _ => none
def tCm (f : Ev) : Tv := fun ρ => bd (f ρ) fun x => ofO (isTrueD x)
def cBoolT (cs : Cs) (S : Sc) (o : BoolOp) (es : List Expr) (p : Pos) : Option Tv := match es with
  | [] => none
  | [a] => cs.t S a
  | a :: b :: rest => match o with
    | .And => map2 tAn (cs.t S a) (cs.t S (.BoolOp .And (b :: rest) p))
    | .Or => map2 tOr' (cs.t S a) (cs.t S (.BoolOp .Or (b :: rest) p))
def plainT : Expr → Bool
  | .UnaryOp .Not _ _ => false
  | .BoolOp _ _ _ => false
  | .IfExp _ _ _ _ => false
  | .Compare _ _ _ _ => false
  | _ => true
def cT (cs : Cs) (S : Sc) : Expr → Option Tv
  | .Compare a ops bs _ => (cCmp cs S a ops bs).map tCm
  | .UnaryOp .Not a _ => (cs.t S a).map tNo
  | .BoolOp o es p => cBoolT cs S o es p
  | e => chk (plainT e) ((cs.e S e).map tOf)
def cA (cs : Cs) (S : Sc) : List Expr → Option Av
  | [] => some aNil
  | e :: es => chk (!isStar e) (map2 aCons (cs.e S e) (cs.a S es))
section
variable {T : Tab} {k : Nat} {cs : Cs} {g : G} {B : Addr → Prop} {S : Sc} {X : Cx} {W : WX} {x : Str} {pos : Pos} {f : Ev} {ft : Tv} {fa : Av}
theorem cst_good {c : Const} {d : D} {j : Nat} (h : cCst c = some d) : PE X (.Constant c j pos) (tF g B W (eCst d)) := s_cst (by cases c <;> first
  | exact h
  | cases h)
theorem plainT_ok {e : Expr} (h : plainT e = true) (env : Env) (whole : Sem Value) : isTrue e env whole = (do let v ← whole; standAt e.pos; holding [v] (truthy v)) := by
  cases e with
  | UnaryOp o a p => cases o <;> first
    | rfl
    | cases h
  | _ => first
    | rfl
    | cases h
theorem name_good (I : XI T k g S X W) (h : cName T S x = some f) : PE X (.Name x pos) (tF g B W f) := by
  obtain ⟨h1, h2⟩ := chk_some h
  simp only [Bool.not_eq_true'] at h1
  obtain ⟨o1, o2, o3⟩ := odd_of h1
  cases hv : visX S x with
  | true =>
    rw [hv] at h2
    obtain ⟨i, e, rfl⟩ := Option.map_eq_some_iff.mp h2
    exact s_var (by rw [I.N]; exact ixOf_some e) (I.vis hv) o1 o2
  | false =>
    rw [hv] at h2
    obtain ⟨h3, h4⟩ := chk_some h2
    cases hi : T.nums.lookup x with
    | some i =>
      simp only [hi] at h4
      cases h4
      obtain ⟨t, ht⟩ := I.tok.nums x i hi
      exact s_int (I.gl h3) (by rw [I.mg]; exact ht) o1
    | none =>
      simp only [hi] at h4
      obtain ⟨⟨m, F⟩, e, rfl⟩ := Option.map_eq_some_iff.mp h4
      obtain ⟨a, fd, ps, k1, _⟩ := (I.tok.fns x m F e).ex
      exact s_fn (I.gl h3) (by rw [I.mg]; exact k1) I.mg o1
theorem cmp_good (G' : Good T k cs) (I : XI T k g S X W) {a : Expr} {ops : List CmpOp} {bs : List Expr} (h : cCmp cs S a ops bs = some f) : PE X (.Compare a ops bs pos) (tF g B W f) ∧ PT X (.Compare a ops bs pos) (tT g B W (tCm f)) := by
  unfold cCmp at h
  split at h
  · obtain ⟨h1, h2⟩ := chk_some h
    simp only [Bool.not_eq_true'] at h1
    obtain ⟨u, v, e1, e2, rfl⟩ := map2_some h2
    have q1 := G'.e S _ _ e1 X g B W I
    have q2 := G'.e S _ _ e2 X g B W I
    exact ⟨s_cmp I.u65 h1 q1 q2, t_cmp I.u65 h1 q1 q2⟩
  · obtain ⟨h1, h2⟩ := chk_some h
    simp only [Bool.not_eq_true'] at h1
    obtain ⟨u, v, w, e1, e2, e3, rfl⟩ := map3_some h2
    have q1 := G'.e S _ _ e1 X g B W I
    have q2 := G'.e S _ _ e2 X g B W I
    have q3 := G'.e S _ _ e3 X g B W I
    exact ⟨s_chain I.u65 h1 q1 q2 q3, t_chain I.u65 h1 q1 q2 q3⟩
  · cases h
theorem bool_good (G' : Good T k cs) (I : XI T k g S X W) {o : BoolOp} {es : List Expr} (h : cBool cs S o es pos = some f) : PE X (.BoolOp o es pos) (tF g B W f) := by
  unfold cBool at h
  split at h
  · cases h
  · exact pe_one (G'.e S _ _ h X g B W I)
  · split at h
    · obtain ⟨u, v, e1, e2, rfl⟩ := map2_some h
      exact s_and (G'.e S _ _ e1 X g B W I) (G'.e S _ _ e2 X g B W I)
    · obtain ⟨u, v, e1, e2, rfl⟩ := map2_some h
      exact s_or (G'.e S _ _ e1 X g B W I) (G'.e S _ _ e2 X g B W I)
theorem o_good (G' : Good T k cs) (I : XI T k g S X W) {o : Option Expr} {fo : Ov} (h : cO cs S o = some fo) : PO X o (tO g B W fo) := by
  cases o with
  | none => cases h; exact po_no
  | some e =>
    obtain ⟨u, e1, rfl⟩ := Option.map_eq_some_iff.mp h
    exact po_so (G'.e S _ _ e1 X g B W I)
theorem sub_good (G' : Good T k cs) (I : XI T k g S X W) {a b : Expr} (h : cSub cs S a b = some f) : PE X (.Subscript a b pos) (tF g B W f) := by
  unfold cSub at h
  split at h
  · split at h
    · obtain ⟨u, v, w, e1, e2, e3, rfl⟩ := map3_some h
      exact s_sl (G'.e S _ _ e1 X g B W I) (o_good G' I e2) (o_good G' I e3)
    · split at h
      · split at h
        · rename_i i _ _ _ _ _ hi
          subst hi
          obtain ⟨u, e1, rfl⟩ := Option.map_eq_some_iff.mp h
          exact s_rev (G'.e S _ _ e1 X g B W I)
        · cases h
      · cases h
    · cases h
  · rename_i hn
    obtain ⟨u, v, e1, e2, rfl⟩ := map2_some h
    refine s_ix ?_ (G'.e S _ _ e1 X g B W I) (G'.e S _ _ e2 X g B W I)
    cases b <;> first
      | rfl
      | exact absurd rfl (hn _ _ _ _)
theorem isa_good (G' : Good T k cs) (I : XI T k g S X W) {args : List Expr} {p : Pos} (h : cIsa T cs S args = some f) : PE X (.Call (.Name "isinstance" p) args [] pos) (tF g B W f) := by
  unfold cIsa at h
  split at h
  · obtain ⟨h1, h2⟩ := chk_some h
    simp only [Bool.and_eq_true, Bool.not_eq_true', List.contains_iff_mem] at h1
    obtain ⟨⟨⟨⟨⟨a1, a2⟩, a3⟩, a4⟩, a5⟩, a6⟩ := h1
    obtain ⟨u, v, e1, e2, rfl⟩ := map2_some h2
    obtain ⟨t1, t2⟩ := tyN_ok e1
    obtain ⟨o1, o2, o3⟩ := odd_of a5
    exact s_isa t1 (I.gl a1) (by rw [I.mg]; exact I.tok.free _ a3) (I.gl a2) (by rw [I.mg]; exact I.tok.free _ a4) t2 (G'.e S _ _ e2 X g B W I) o3 o1 (star_cons a6)
  · cases h
theorem params_def {params : Arguments} (h : (match params with | ⟨[], [], none, [], [], none, []⟩ => true | _ => false) = true) : params = ⟨[], [], none, [], [], none, []⟩ := by
  split at h
  · rfl
  · cases h
theorem callG_good (G' : Good T k cs) (I : XI T k g S X W) {args : List Expr} {p : Pos} (hs : noStars args = true) (ho : oddName x = false) (hg : glX S x = true) (h : cCallG T cs S x args = some f) : PE X (.Call (.Name x p) args [] pos) (tF g B W f) := by
  obtain ⟨o1, o2, o3⟩ := odd_of ho
  unfold cCallG at h
  cases e0 : T.fns.lookup x with
  | some mF =>
    obtain ⟨m, F⟩ := mF
    simp only [e0] at h
    have hF := I.tok.fns x m F e0
    cases args with
    | nil => cases h; exact s_callG0 hF I.mg I.room I.tk (I.gl hg) o1
    | cons a es =>
      obtain ⟨u, e1, rfl⟩ := Option.map_eq_some_iff.mp h
      obtain ⟨s1, s2⟩ := stars_cons hs
      exact s_callG hF I.mg I.room I.tk (I.gl hg) (G'.a S _ _ e1 X g B W I) o1 (star_cons s1) (stars_any s2)
  | none =>
    simp only [e0] at h
    by_cases hx : x = "isinstance"
    · rw [if_pos hx] at h; subst hx; exact isa_good G' I h
    · rw [if_neg hx] at h
      cases eb : T.bis.lookup x with
      | some o =>
        simp only [eb] at h
        cases args with
        | nil => cases h
        | cons a es =>
          obtain ⟨u, e1, rfl⟩ := Option.map_eq_some_iff.mp h
          obtain ⟨s1, s2⟩ := stars_cons hs
          have bo := I.tok.bis x o eb
          have hm : X.mg x = none := by rw [I.mg]; exact bo.m
          rcases bo.ex with ⟨id, b1, b2⟩ | ⟨Ty, b1, b2⟩
          · exact s_biB (b2 X g B I.calm I.units) (I.gl hg) hm b1 (G'.a S _ _ e1 X g B W I) o3 o1 (star_cons s1) (stars_any s2)
          · exact s_biT (b2 X g B I.calm I.units) (I.gl hg) hm b1 (G'.a S _ _ e1 X g B W I) o3 o1 (star_cons s1) (stars_any s2)
      | none =>
        simp only [eb] at h
        cases el : T.lams.lookup x with
        | none => simp only [el] at h; cases h
        | some F =>
          simp only [el] at h
          split at h
          · rename_i params body scope lpos
            obtain ⟨h1, h2⟩ := chk_some h
            simp only [Bool.and_eq_true] at h1
            obtain ⟨⟨a1, a2⟩, a3⟩ := h1
            obtain ⟨u, e1, rfl⟩ := Option.map_eq_some_iff.mp h2
            obtain ⟨hr, c, P', t1, t2, t3, t4⟩ := I.lam a1
            have hp := params_def a3
            subst hp
            obtain ⟨mgg, ca, TT⟩ := g
            have im : X.mg = mgg := I.mg
            refine I.tok.lams x F el k X W ca B c P' _ body scope p lpos pos u I.mg rfl rfl rfl rfl I.tk (I.gl hg) (by rw [← im]; exact t1) t2 t3 t4 hr (LamX.lamS_by (by rw [I.scope]; exact a2)) rfl (fun q cl pm cv ctv => rfl) fun Y W' y1 y2 y3 y4 y5 y6 y7 y8 y9 y10 y11 => ?_
            refine G'.e _ _ _ e1 Y _ B W' ⟨y1.trans I.N, I.nd, y2, y3, y4, y9, y10, y11, ?_, fun z => by cases z⟩
            rw [y5, y6, y7, y8]
            exact I.tok
          · cases h
theorem call_good (G' : Good T k cs) (I : XI T k g S X W) {fn : Expr} {args : List Expr} {kw : List Keyword} (h : cCall T cs S fn args kw = some f) : PE X (.Call fn args kw pos) (tF g B W f) := by
  unfold cCall at h
  split at h
  · cases h
  · split at h
    · obtain ⟨h1, h2⟩ := chk_some h
      simp only [Bool.and_eq_true, Bool.not_eq_true'] at h1
      obtain ⟨ho, hs⟩ := h1
      obtain ⟨o1, o2, o3⟩ := odd_of ho
      split at h2
      · rename_i hv
        split at h2
        · cases h2
        · obtain ⟨u, v, e1, e2, rfl⟩ := map2_some h2
          obtain ⟨s1, s2⟩ := stars_cons hs
          exact s_callV (fun y m F q => I.tok.fns y m F q) I.mg I.room I.tk (by rw [I.N]; exact ixOf_some e1) (I.vis hv) (G'.a S _ _ e2 X g B W I) o1 o2 (star_cons s1) (stars_any s2)
      · obtain ⟨h3, h4⟩ := chk_some h2
        exact callG_good G' I hs ho h3 h4
    · cases h
theorem e_good (G' : Good T k cs) (I : XI T k g S X W) {e : Expr} (h : cE T cs S e = some f) : PE X e (tF g B W f) := by
  unfold cE at h
  split at h
  · obtain ⟨d, e1, rfl⟩ := Option.map_eq_some_iff.mp h
    exact cst_good e1
  · exact name_good I h
  · obtain ⟨h1, h2⟩ := chk_some h
    obtain ⟨u, v, e1, e2, rfl⟩ := map2_some h2
    exact s_bin h1 (G'.e S _ _ e1 X g B W I) (G'.e S _ _ e2 X g B W I)
  · exact (cmp_good G' I h).1
  · obtain ⟨u, e1, rfl⟩ := Option.map_eq_some_iff.mp h
    exact s_not (G'.e S _ _ e1 X g B W I)
  · obtain ⟨u, e1, rfl⟩ := Option.map_eq_some_iff.mp h
    exact s_neg (G'.e S _ _ e1 X g B W I)
  · exact bool_good G' I h
  · obtain ⟨u, v, w, e1, e2, e3, rfl⟩ := map3_some h
    exact s_ite (G'.t S _ _ e1 X g B W I) (G'.e S _ _ e2 X g B W I) (G'.e S _ _ e3 X g B W I)
  · obtain ⟨u, e1, rfl⟩ := Option.map_eq_some_iff.mp h
    exact s_tup (G'.a S _ _ e1 X g B W I)
  · obtain ⟨u, e1, rfl⟩ := Option.map_eq_some_iff.mp h
    exact s_lst (G'.a S _ _ e1 X g B W I)
  · obtain ⟨u, e1, rfl⟩ := Option.map_eq_some_iff.mp h
    exact s_fresh (G'.l S _ _ e1 X g B W I)
  · exact sub_good G' I h
  · split at h
    · rename_i hr
      cases h
      exact call_good G' I hr
    · obtain ⟨u, e1, rfl⟩ := Option.map_eq_some_iff.mp h
      exact s_fresh (G'.l S _ _ e1 X g B W I)
  · cases h
theorem boolT_good (G' : Good T k cs) (I : XI T k g S X W) {o : BoolOp} {es : List Expr} (h : cBoolT cs S o es pos = some ft) : PW X (.BoolOp o es pos) (tT g B W ft) := by
  unfold cBoolT at h
  split at h
  · cases h
  · cases o with
    | And => exact pw_and1 (G'.t S _ _ h X g B W I)
    | Or => exact pw_or1 (G'.t S _ _ h X g B W I)
  · split at h
    · obtain ⟨u, v, e1, e2, rfl⟩ := map2_some h
      exact t_and (G'.t S _ _ e1 X g B W I) (G'.w S _ _ _ _ e2 X g B W I)
    · obtain ⟨u, v, e1, e2, rfl⟩ := map2_some h
      exact t_or (G'.t S _ _ e1 X g B W I) (G'.w S _ _ _ _ e2 X g B W I)
theorem t_good (G' : Good T k cs) (I : XI T k g S X W) {e : Expr} (h : cT cs S e = some ft) : PT X e (tT g B W ft) := by
  unfold cT at h
  split at h
  · obtain ⟨u, e1, rfl⟩ := Option.map_eq_some_iff.mp h
    exact (cmp_good G' I e1).2
  · obtain ⟨u, e1, rfl⟩ := Option.map_eq_some_iff.mp h
    exact t_not (G'.t S _ _ e1 X g B W I)
  · exact (boolT_good G' I h).pt
  · obtain ⟨h1, h2⟩ := chk_some h
    obtain ⟨u, e1, rfl⟩ := Option.map_eq_some_iff.mp h2
    exact t_val (G'.e S _ _ e1 X g B W I) (plainT_ok h1 X.env)
theorem a_good (G' : Good T k cs) (I : XI T k g S X W) {es : List Expr} (h : cA cs S es = some fa) : PA X es (tA g B W fa) := by
  cases es with
  | nil => cases h; exact a_nil
  | cons e es =>
    obtain ⟨h1, h2⟩ := chk_some h
    simp only [Bool.not_eq_true'] at h1
    obtain ⟨u, v, e1, e2, rfl⟩ := map2_some h2
    exact a_cons (G'.e S _ _ e1 X g B W I) (G'.a S _ _ e2 X g B W I) (star_cons h1)
end
end Mi

namespace Mi
open PySem PySem.Spec PyProof.Rows L2
/-! what a for walks over; comprehensions -/
def isTup : Expr → Bool
  | .Tuple _ _ _ => true
  | _ => false
def notSet : Expr → Bool
  | .Set _ _ _ => false
  | _ => true
theorem notSet_ok {e : Expr} (h : notSet e = true) (env : Env) (x : Value) : foldedSetIterable e env x = pure x := by
  cases e <;> first
    | rfl
    | cases h
def cIGo (T : Tab) (cs : Cs) (S : Sc) (tg : Expr) (x : Str) (args : List Expr) : Option Iv :=
  if x = "range" then chk (glX S "range" && T.free.contains "range" && noStars args) (match args with
    | [a] => (cs.e S a).map iR1
    | [a, b] => map2 iR2 (cs.e S a) (cs.e S b)
    | _ => none)
  else if x = "zip" then chk (glX S "zip" && T.free.contains "zip" && noStars args && isTup tg) (match args with
    | [a, b] => map2 iZip (cs.e S a) (cs.e S b)
    | _ => none)
  else if x = "enumerate" then chk (glX S "enumerate" && T.free.contains "enumerate" && noStars args && isTup tg) (match args with
    | [a] => (cs.e S a).map iEn
    | _ => none)
  else none
def cI (T : Tab) (cs : Cs) (S : Sc) (tg : Expr) (e : Expr) : Option Iv := match e with
  | .Call f args kw pos => match kw, f with
    | [], .Name x p => match cIGo T cs S tg x args with
      | some r => some r
      | none => (cs.e S (.Call (.Name x p) args [] pos)).map iVal
    | _, _ => none
  | e => (cs.e S e).map iVal
def ownOf (N : List Str) : List (Str × NameKind) → List (Str × Nat)
  | [] => []
  | (x, k) :: r => match k with
    | .local => (match ixOf N x with | some i => (x, i) :: ownOf N r | none => ownOf N r)
    | .cell => (match ixOf N x with | some i => (x, i) :: ownOf N r | none => ownOf N r)
    | _ => ownOf N r
def Sc.blk (S : Sc) (scope : Scope) : Sc := ⟨S.N, relS scope S.sc, fun x => scope.names.lookup x == some .cell, [], S.lam⟩
def cIfs (cs : Cs) (S : Sc) : List Expr → Option Tv
  | [] => some tAll
  | [c] => cs.t S c
  | _ => none
def subN (is js : List Nat) : Bool := is.all fun i => js.contains i
theorem subN_ok {is js : List Nat} (h : subN is js = true) : ∀ i ∈ is, i ∈ js := fun i hi => by
  unfold subN at h
  rw [List.all_eq_true] at h
  simpa using h i hi
def cLc1 (cs : Cs) (S : Sc) (elt tg it : Expr) (ifs : List Expr) (scope : Scope) : Option Av := match cTg (S.blk scope) tg with
  | none => none
  | some t => chk (notSet it && blkC S.N S.sc scope (ownOf S.N scope.names) && subN t.slots ((ownOf S.N scope.names).map (·.2)))
    (map3 (lcF ((ownOf S.N scope.names).map (·.2)) t) (cs.i S tg it) (cIfs cs (S.blk scope) ifs) (cs.e (S.blk scope) elt))
def cLc2 (cs : Cs) (S : Sc) (elt tg it : Expr) (ifs : List Expr) (tg1 it1 : Expr) (ifs1 : List Expr) (scope : Scope) : Option Av := match cTg (S.blk scope) tg, cTg (S.blk scope) tg1 with
  | some t, some t1 => chk (notSet it && notSet it1 && blkC S.N S.sc scope (ownOf S.N scope.names) && subN t.slots ((ownOf S.N scope.names).map (·.2)) && subN t1.slots ((ownOf S.N scope.names).map (·.2)))
    (match map2 (lc2F ((ownOf S.N scope.names).map (·.2)) t) (cs.i S tg it) (cIfs cs (S.blk scope) ifs) with
      | some h => map3 (h t1.slots · t1) (cs.i (S.blk scope) tg1 it1) (cIfs cs (S.blk scope) ifs1) (cs.e (S.blk scope) elt)
      | none => none)
  | _, _ => none
def cComp (cs : Cs) (S : Sc) (elt : Expr) (gs : List Comprehension) (scope : Scope) : Option Av := match gs with
  | [⟨tg, it, ifs, a⟩] => if a = 0 then cLc1 cs S elt tg it ifs scope else none
  | [⟨tg, it, ifs, a⟩, ⟨tg1, it1, ifs1, a1⟩] => if a = 0 ∧ a1 = 0 then cLc2 cs S elt tg it ifs tg1 it1 ifs1 scope else none
  | _ => none
def cLCall (T : Tab) (cs : Cs) (S : Sc) (x : Str) (args : List Expr) : Option Av := chk (!oddName x && noStars args && glX S x) (match T.bls.lookup x with
  | some o => (match args with
    | [] => none
    | a :: es => (cs.a S (a :: es)).map (aBi o))
  | none => none)
def cSD (cs : Cs) (S : Sc) (kx tg it : Expr) (ifs : List Expr) (scope : Scope) : Option Av := match cTg (S.blk scope) tg with
  | none => none
  | some t => chk (notSet it && blkC S.N S.sc scope (ownOf S.N scope.names) && subN t.slots ((ownOf S.N scope.names).map (·.2)))
    (map3 (aSD ((ownOf S.N scope.names).map (·.2)) t) (cs.i S tg it) (cIfs cs (S.blk scope) ifs) (cs.e (S.blk scope) kx))
def cSS (T : Tab) (cs : Cs) (S : Sc) (x : Str) (args : List Expr) : Option Av := if x = "sorted" then (match args with
  | [.Call (.Name y _) [a] [] _] => if y = "set" then chk (glX S "sorted" && glX S "set" && T.free.contains "sorted" && T.free.contains "set" && !isStar a) ((cs.e S a).map aSS) else none
  | [.DictComp kx (.Constant (.bool true) _ _) [⟨tg, it, ifs, 0⟩] scope _] => chk (glX S "sorted" && T.free.contains "sorted") (cSD cs S kx tg it ifs scope)
  | _ => none) else none
def cL (T : Tab) (cs : Cs) (S : Sc) : Expr → Option Av
  | .ListComp elt gs scope _ => cComp cs S elt gs scope
  | .List es _ => (cs.a S es).map aLst
  | .BinOp a .Add b _ => map2 aCat (cs.e S a) (cs.e S b)
  | .Call (.Name x _) args [] _ => match cLCall T cs S x args with
    | some r => some r
    | none => cSS T cs S x args
  | _ => none
def comp (T : Tab) : Nat → Cs
  | 0 => ⟨fun _ _ => none, fun _ _ => none, fun _ _ => none, fun _ _ _ => none, fun _ _ => none⟩
  | n + 1 => ⟨cE T (comp T n), cT (comp T n), cA (comp T n), cI T (comp T n), cL T (comp T n)⟩
section
variable {T : Tab} {k : Nat} {cs : Cs} {g : G} {B : Addr → Prop} {S : Sc} {X : Cx} {W : WX} {x : Str} {pos : Pos}
theorem takes_none : L2N.Takes X W0 := fun u s' ⟨_, _, _, _, _, _, _, _, _, _, _, _, _, _, _, _, z⟩ => z.elim
theorem XI.blk (I : XI T k g S X W) (s : Shared) (H : Hp) (scope : Scope) (C : Addr) (cl : List (Str × Addr)) (fp : List Addr) : XI T k g (S.blk scope) (X.blk s H scope (compEnvC scope cl C X.env) fp) W0 where
  N := I.N
  nd := I.nd
  scope := by
    show relS scope X.env.scope = relS scope S.sc
    rw [I.scope]
  fn := rfl
  mg := I.mg
  calm := I.calm
  room := I.room
  tk := takes_none
  tok := I.tok
  lam := I.lam
theorem iGo_good (G' : Good T k cs) (I : XI T k g S X W) {tg : Expr} {args : List Expr} {p : Pos} {f : Iv} (h : cIGo T cs S tg x args = some f) : PI X tg (.Call (.Name x p) args [] pos) (tI g B W f) := by
  unfold cIGo at h
  by_cases h1 : x = "range"
  · rw [if_pos h1] at h
    subst h1
    obtain ⟨c1, c2⟩ := chk_some h
    simp only [Bool.and_eq_true, List.contains_iff_mem] at c1
    obtain ⟨⟨a1, a2⟩, a3⟩ := c1
    have hm : X.mg "range" = none := by rw [I.mg]; exact I.tok.free _ a2
    split at c2
    · obtain ⟨u, e1, rfl⟩ := Option.map_eq_some_iff.mp c2
      exact i_r1 (I.gl a1) hm (G'.e S _ _ e1 X g B W I) (star_cons (stars_cons a3).1)
    · obtain ⟨u, v, e1, e2, rfl⟩ := map2_some c2
      obtain ⟨s1, s2⟩ := stars_cons a3
      have z := star_cons (es := []) (env := X.env) (stars_cons s2).1
      exact i_r2 (I.gl a1) hm (G'.e S _ _ e1 X g B W I) (G'.e S _ _ e2 X g B W I) ((star_cons s1).trans (by rw [z]; rfl)) z
    · cases c2
  rw [if_neg h1] at h
  by_cases h2 : x = "zip"
  · rw [if_pos h2] at h
    subst h2
    obtain ⟨c1, c2⟩ := chk_some h
    simp only [Bool.and_eq_true, List.contains_iff_mem] at c1
    obtain ⟨⟨⟨a1, a2⟩, a3⟩, a4⟩ := c1
    have hm : X.mg "zip" = none := by rw [I.mg]; exact I.tok.free _ a2
    split at c2
    · obtain ⟨u, v, e1, e2, rfl⟩ := map2_some c2
      obtain ⟨s1, s2⟩ := stars_cons a3
      cases tg <;> try (cases a4; done)
      exact i_zip (I.gl a1) hm (G'.e S _ _ e1 X g B W I) (G'.e S _ _ e2 X g B W I) (star_cons s1) (star_cons (stars_cons s2).1) (stars_any s2)
    · cases c2
  rw [if_neg h2] at h
  by_cases h3 : x = "enumerate"
  · rw [if_pos h3] at h
    subst h3
    obtain ⟨c1, c2⟩ := chk_some h
    simp only [Bool.and_eq_true, List.contains_iff_mem] at c1
    obtain ⟨⟨⟨a1, a2⟩, a3⟩, a4⟩ := c1
    have hm : X.mg "enumerate" = none := by rw [I.mg]; exact I.tok.free _ a2
    split at c2
    · obtain ⟨u, e1, rfl⟩ := Option.map_eq_some_iff.mp c2
      cases tg <;> try (cases a4; done)
      exact i_en (I.gl a1) hm (G'.e S _ _ e1 X g B W I) (star_cons (stars_cons a3).1)
    · cases c2
  rw [if_neg h3] at h
  cases h
theorem i_good (G' : Good T k cs) (I : XI T k g S X W) {tg e : Expr} {f : Iv} (h : cI T cs S tg e = some f) : PI X tg e (tI g B W f) := by
  unfold cI at h
  split at h
  · split at h
    · split at h
      · rename_i hr
        cases h
        exact iGo_good G' I hr
      · obtain ⟨u, e1, rfl⟩ := Option.map_eq_some_iff.mp h
        exact i_val (pos := ⟨0, 0, 0, 0⟩) (G'.e S _ _ e1 X g B W I)
    · cases h
  · obtain ⟨u, e1, rfl⟩ := Option.map_eq_some_iff.mp h
    exact i_val (pos := ⟨0, 0, 0, 0⟩) (G'.e S _ _ e1 X g B W I)
theorem ifs_good (G' : Good T k cs) (I : XI T k g S X W) {ifs : List Expr} {f : Tv} (h : cIfs cs S ifs = some f) : PTs X ifs (tT g B W f) := by
  unfold cIfs at h
  split at h
  · cases h
    exact ⟨fun pins s σ H Q J ⟨ρ, c, st, q⟩ => pts_nil.run pins s σ H Q J (q true H st.refl rfl)⟩
  · exact pts_one (G'.t S _ _ h X g B W I)
  · cases h
theorem lc1_good (G' : Good T k cs) (I : XI T k g S X W) {elt tg it : Expr} {ifs : List Expr} {scope : Scope} {f : Av} (h : cLc1 cs S elt tg it ifs scope = some f) : PE X (.ListComp elt [⟨tg, it, ifs, 0⟩] scope pos) (tL g B W f) := by
  unfold cLc1 at h
  split at h
  · cases h
  · rename_i t ht
    obtain ⟨h1, h2⟩ := chk_some h
    simp only [Bool.and_eq_true] at h1
    obtain ⟨⟨a1, a2⟩, a3⟩ := h1
    obtain ⟨iv, cond, fe, e1, e2, e3, rfl⟩ := map3_some h2
    exact s_lc I.calm (by rw [I.N]; exact I.nd) (by rw [I.N, I.scope]; exact blkOk_by a2) (subN_ok a3) (G'.i S _ _ _ e1 X g B W I) (fun s H C cl fp => tg_good (I.blk s H scope C cl fp) ht)
      (fun s H C cl fp B => ifs_good G' (I.blk s H scope C cl fp) e2) (fun s H C cl fp B => G'.e _ _ _ e3 _ g B W0 (I.blk s H scope C cl fp)) (notSet_ok a1 X.env)
theorem lc2_good (G' : Good T k cs) (I : XI T k g S X W) {elt tg it tg1 it1 : Expr} {ifs ifs1 : List Expr} {scope : Scope} {f : Av} (h : cLc2 cs S elt tg it ifs tg1 it1 ifs1 scope = some f) : PE X (.ListComp elt [⟨tg, it, ifs, 0⟩, ⟨tg1, it1, ifs1, 0⟩] scope pos) (tL g B W f) := by
  unfold cLc2 at h
  split at h
  · rename_i t t1 ht ht1
    obtain ⟨h1, h2⟩ := chk_some h
    simp only [Bool.and_eq_true] at h1
    obtain ⟨⟨⟨⟨a1, a0⟩, a2⟩, a3⟩, a4⟩ := h1
    split at h2
    · rename_i h' hh
      obtain ⟨iv, cond, e1, e2, rfl⟩ := map2_some hh
      obtain ⟨iv1, cond1, fe, e3, e4, e5, rfl⟩ := map3_some h2
      exact s_lc2 I.calm (by rw [I.N]; exact I.nd) (by rw [I.N, I.scope]; exact blkOk_by a2) (subN_ok a4) (subN_ok a3) (fun i hi => hi) (G'.i S _ _ _ e1 X g B W I) (fun s H C cl fp => tg_good (I.blk s H scope C cl fp) ht)
        (fun s H C cl fp B => ifs_good G' (I.blk s H scope C cl fp) e2) (fun s H C cl fp B => G'.i _ _ _ _ e3 _ g B W0 (I.blk s H scope C cl fp)) (fun s H C cl fp => tg_good (I.blk s H scope C cl fp) ht1)
        (fun s H C cl fp B => ifs_good G' (I.blk s H scope C cl fp) e4) (fun s H C cl fp B => G'.e _ _ _ e5 _ g B W0 (I.blk s H scope C cl fp)) (notSet_ok a1 X.env) (fun env => notSet_ok a0 env)
    · cases h2
  · cases h
theorem comp1_good (G' : Good T k cs) (I : XI T k g S X W) {elt : Expr} {gs : List Comprehension} {scope : Scope} {f : Av} (h : cComp cs S elt gs scope = some f) : PE X (.ListComp elt gs scope pos) (tL g B W f) := by
  unfold cComp at h
  split at h
  · rename_i tg it ifs a
    by_cases ha : a = 0
    · rw [if_pos ha] at h; subst ha; exact lc1_good G' I h
    · rw [if_neg ha] at h; cases h
  · rename_i tg it ifs a tg1 it1 ifs1 a1
    by_cases ha : a = 0 ∧ a1 = 0
    · rw [if_pos ha] at h
      obtain ⟨b1, b2⟩ := ha
      subst b1; subst b2
      exact lc2_good G' I h
    · rw [if_neg ha] at h; cases h
  · cases h
theorem lcall_good (G' : Good T k cs) (I : XI T k g S X W) {args : List Expr} {p : Pos} {f : Av} (h : cLCall T cs S x args = some f) : PE X (.Call (.Name x p) args [] pos) (tL g B W f) := by
  obtain ⟨h1, h2⟩ := chk_some h
  simp only [Bool.and_eq_true, Bool.not_eq_true'] at h1
  obtain ⟨⟨ho, hs⟩, hg⟩ := h1
  obtain ⟨o1, o2, o3⟩ := odd_of ho
  cases eb : T.bls.lookup x with
  | none => simp only [eb] at h2; cases h2
  | some o =>
    simp only [eb] at h2
    cases args with
    | nil => cases h2
    | cons a es =>
      obtain ⟨u, e1, rfl⟩ := Option.map_eq_some_iff.mp h2
      obtain ⟨s1, s2⟩ := stars_cons hs
      have bo := I.tok.bls x o eb
      have hm : X.mg x = none := by rw [I.mg]; exact bo.m
      rcases bo.ex with ⟨id, b1, b2⟩ | ⟨Ty, b1, b2⟩
      · exact l_biB (b2 X g B I.calm I.units) (I.gl hg) hm b1 (G'.a S _ _ e1 X g B W I) o3 o1 (star_cons s1) (stars_any s2)
      · exact l_biT (b2 X g B I.calm I.units) (I.gl hg) hm b1 (G'.a S _ _ e1 X g B W I) o3 o1 (star_cons s1) (stars_any s2)
theorem ss_fresh (G' : Good T k cs) (I : XI T k g S X W) {args : List Expr} {p : Pos} {f : Av} (h : cSS T cs S x args = some f) : PE X (.Call (.Name x p) args [] pos) (tL g B W f) := by
  unfold cSS at h
  by_cases hx : x = "sorted"
  · rw [if_pos hx] at h
    subst hx
    split at h
    · rename_i y p2 a p3
      by_cases hy : y = "set"
      · rw [if_pos hy] at h
        subst hy
        obtain ⟨h1, h2⟩ := chk_some h
        simp only [Bool.and_eq_true, Bool.not_eq_true', List.contains_iff_mem] at h1
        obtain ⟨⟨⟨⟨a1, a2⟩, a3⟩, a4⟩, a5⟩ := h1
        obtain ⟨u, e1, rfl⟩ := Option.map_eq_some_iff.mp h2
        exact l_ss I.calm I.units (I.gl a1) (by rw [I.mg]; exact I.tok.free _ a3) (I.gl a2) (by rw [I.mg]; exact I.tok.free _ a4) (G'.e S _ _ e1 X g B W I) (star_cons a5)
      · rw [if_neg hy] at h; cases h
    · rename_i kx kk pv tg it ifs scope p5
      obtain ⟨h0, h2⟩ := chk_some h
      simp only [Bool.and_eq_true, List.contains_iff_mem] at h0
      obtain ⟨b1, b2⟩ := h0
      unfold cSD at h2
      split at h2
      · cases h2
      · rename_i t ht
        obtain ⟨h1, h2⟩ := chk_some h2
        simp only [Bool.and_eq_true] at h1
        obtain ⟨⟨a1, a2⟩, a3⟩ := h1
        obtain ⟨iv, cond, fe, e1, e2, e3, rfl⟩ := map3_some h2
        exact l_sd I.calm (I.gl b1) (by rw [I.mg]; exact I.tok.free _ b2) (by rw [I.N]; exact I.nd) (by rw [I.N, I.scope]; exact blkOk_by a2) (subN_ok a3) (G'.i S _ _ _ e1 X g B W I) (fun s H C cl fp => tg_good (I.blk s H scope C cl fp) ht)
          (fun s H C cl fp B => ifs_good G' (I.blk s H scope C cl fp) e2) (fun s H C cl fp B => G'.e _ _ _ e3 _ g B W0 (I.blk s H scope C cl fp)) (notSet_ok a1 X.env)
    · cases h
  · rw [if_neg hx] at h; cases h
theorem l_good (G' : Good T k cs) (I : XI T k g S X W) {e : Expr} {f : Av} (h : cL T cs S e = some f) : PE X e (tL g B W f) := by
  unfold cL at h
  split at h
  · exact comp1_good G' I h
  · obtain ⟨u, e1, rfl⟩ := Option.map_eq_some_iff.mp h
    exact l_lst (G'.a S _ _ e1 X g B W I)
  · obtain ⟨u, v, e1, e2, rfl⟩ := map2_some h
    exact l_cat (G'.e S _ _ e1 X g B W I) (G'.e S _ _ e2 X g B W I)
  · split at h
    · rename_i hr
      cases h
      exact lcall_good G' I hr
    · exact ss_fresh G' I h
  · cases h
theorem comp_good : ∀ n : Nat, Good T k (comp T n)
  | 0 => ⟨fun _ _ _ h => (by cases h), fun _ _ _ h => (by cases h), fun _ _ _ _ _ h => (by cases h), fun _ _ _ h => (by cases h), fun _ _ _ _ h => (by cases h), fun _ _ _ h => (by cases h)⟩
  | n + 1 => ⟨fun S e f h X g B W I => e_good (comp_good n) I h, fun S e f h X g B W I => t_good (comp_good n) I h, fun S op es p f h X g B W I => boolT_good (comp_good n) I h, fun S es f h X g B W I => a_good (comp_good n) I h, fun S tg e f h X g B W I => i_good (comp_good n) I h,
    fun S e f h X g B W I => l_good (comp_good n) I h⟩
end
end Mi

namespace Mi
open PySem PySem.Spec PyProof.Rows L2
/-! statements -/
def starV : Expr → Bool
  | .Starred .. => true
  | _ => false
def nameL (kind : Str → Option NameKind) (line : Nat) : Expr → Option Str
  | .Name id pos => if kind id == some .local && pos.line == line then some id else none
  | _ => none
def swLine (ts : List Expr) : Nat := (ts.head?.map (·.pos.line)).getD 0
/-- how a = b, a tuple of names and a tuple of values, is stored: none is not told here -/
def swP (kind : Str → Option NameKind) (ts vs : List Expr) : Option (Option (List Str)) :=
  if !(ts.length == 2 || ts.length == 3) || vs.length != ts.length then some none
  else if vs.any starV then some none
  else if (ts.filterMap (nameL kind (swLine ts))).length != ts.length || (ts.filterMap (nameL kind (swLine ts))).eraseDups.length != (ts.filterMap (nameL kind (swLine ts))).length then some none
  else if vs.all (foldedForSure 8) then some none
  else if vs.all (constantsAlone 8) then none
  else some (some (ts.filterMap (nameL kind (swLine ts))))
theorem swP_ok {ts vs : List Expr} {kt k2 : Nat} {pt p2 : Pos} {env : Env} {r : Option (List Str)} (hb : env.blockKind = .function) (h : swP env.kindOf ts vs = some r) : swappedStores [.Tuple ts kt pt] (.Tuple vs k2 p2) env = pure r := by
  have key : swappedStores [.Tuple ts kt pt] (.Tuple vs k2 p2) env = if (!(ts.length == 2 || ts.length == 3) || vs.length != ts.length || env.blockKind != .function) = true then pure none
      else if vs.any starV = true then pure none
      else if ((ts.filterMap (nameL env.kindOf (swLine ts))).length != ts.length || (ts.filterMap (nameL env.kindOf (swLine ts))).eraseDups.length != (ts.filterMap (nameL env.kindOf (swLine ts))).length) = true then pure none
      else if vs.all (foldedForSure 8) = true then pure none
      else if vs.all (constantsAlone 8) = true then (unsupported "assign.tuple-of-constant-expressions:order-of-the-stores" >>= fun _ => pure (some (ts.filterMap (nameL env.kindOf (swLine ts))))) else pure (some (ts.filterMap (nameL env.kindOf (swLine ts)))) := rfl
  rw [key, hb]
  unfold swP at h
  simp only [bne_self_eq_false, Bool.or_false]
  split at h
  · rename_i c; rw [if_pos c]; cases h; rfl
  rename_i c; rw [if_neg c]
  split at h
  · rename_i c; rw [if_pos c]; cases h; rfl
  rename_i c; rw [if_neg c]
  split at h
  · rename_i c; rw [if_pos c]; cases h; rfl
  rename_i c; rw [if_neg c]
  split at h
  · rename_i c; rw [if_pos c]; cases h; rfl
  rename_i c; rw [if_neg c]
  split at h
  · cases h
  rename_i c; rw [if_neg c]
  cases h; rfl
theorem swPN_ok {tg e : Expr} {env : Env} (h : (match tg, e with | .Tuple _ _ _, .Tuple _ _ _ => false | .List _ _, .Tuple _ _ _ => false | _, _ => true) = true) : swappedStores [tg] e env = pure none := by
  cases tg <;> first
    | rfl
    | (cases e <;> first
      | rfl
      | cases h)
def isComp : Expr → Bool
  | .ListComp _ _ _ _ => true
  | .SetComp _ _ _ _ => true
  | .DictComp _ _ _ _ _ => true
  | _ => false
theorem swaps_no {e : Expr} {t : Option Expr} {l : Nat} {env : Env} (h : isComp e = false) : swapsWith e t l env = pure false := by
  cases e <;> first
    | rfl
    | cases h
theorem swaps_tup {e : Expr} {es : List Expr} {kk l : Nat} {p : Pos} {env : Env} : swapsWithSole [.Tuple es kk p] e l env = pure false := by
  cases e <;> rfl
theorem swaps_cell {e : Expr} {y : Str} {l : Nat} {p : Pos} {env : Env} (h : (env.kindOf y == some .local) = false) : swapsWithSole [.Name y p] e l env = pure false := by
  show swapsWith e (some (.Name y p)) l env = pure false
  by_cases hc : isComp e = true
  · unfold swapsWith
    cases e <;> first
      | (cases hc; done)
      | (simp only [h, Bool.and_false, Bool.false_and])
      | (simp only [h, Bool.and_false, Bool.false_and]; rfl)
  · exact swaps_no (by simpa using hc)
theorem swaps_sole {e : Expr} {y : Str} {l : Nat} {p : Pos} {env : Env} (h : isComp e = false) : swapsWithSole [.Name y p] e l env = pure false := (show swapsWith e (some (.Name y p)) l env = pure false from swaps_no h)
def oneLine (y : Str) (py p : Pos) (scope : Scope) : Bool := (py.line == p.line) && !(scope.names.any fun (n, k) => n == y && (k == .local || k == .cell))
/-- name = [..] -/
def cAsgLc (cs : Cs) (S : Sc) (y : Str) (py : Pos) (elt : Expr) (gs : List Comprehension) (scope : Scope) (p : Pos) : Option Sv := match ixOf S.N y with
  | none => none
  | some i => match isLoc S y with
    | true => chk (oneLine y py p scope) ((cComp cs S elt gs scope).map fun f => match S.bx.contains y with | true => sBox i f | false => sAsg (.nm i) (eOfA f))
    | false => chk (locX S y) ((cComp cs S elt gs scope).map fun f => match S.bx.contains y with | true => sBox i f | false => sAsg (.nm i) (eOfA f))
def cAsg (cs : Cs) (S : Sc) (tg e : Expr) : Option Sv := match tg with
  | .Name y py => chk (!oddName y) (match e with
    | .ListComp elt gs scope p => cAsgLc cs S y py elt gs scope p
    | e => chk (locX S y && !isComp e) (match ixOf S.N y with
      | none => none
      | some i => match S.bx.contains y with
        | true => (cs.l S e).map (sBox i)
        | false => (cs.e S e).map (sAsg (.nm i))))
  | .Tuple ts kt pt => (match e with
    | .Tuple vs k2 p2 => (match swP (fun x => S.sc.names.lookup x) ts vs with
      | none => none
      | some none => (match cTg S (.Tuple ts kt pt), cs.e S (.Tuple vs k2 p2) with
        | some t, some f => some (sAsg t f)
        | _, _ => none)
      | some (some names) => (match ts, vs with
        | [.Name x _, .Name y _], [a, b] => chk (names == [x, y] && isLoc S x && isLoc S y) (match ixOf S.N x, ixOf S.N y with
          | some i, some j => if i = j then none else (cs.a S [a, b]).map (sPar i j)
          | _, _ => none)
        | _, _ => none))
    | e => (match cTg S (.Tuple ts kt pt), cs.e S e with
      | some t, some f => some (sAsg t f)
      | _, _ => none))
  | _ => none
def cRaise (T : Tab) (S : Sc) (e : Expr) : Option Sv := match e with
  | .Call (.Name x _) [.Constant (.str _) _ _] [] _ => chk (!oddName x && glX S x && T.excs.contains x) (some (sRaise x))
  | _ => none
def cExp (cs : Cs) (S : Sc) (e : Expr) : Option Sv := match e with
  | .Call (.Attribute (.Name x px) m apos) args [] cpos => if m = "append" then (match args with
    | [a] => chk (!oddName x && visX S x && (apos.endLine == cpos.line) && !isStar a) (map2 sApp (ixOf S.N x) (cs.e S a))
    | _ => none) else none
  | e => chk (!isComp e) ((cs.e S e).map sExp)
def noTup (S : Sc) : Tg → Bool
  | .nm i => !(S.bx.any fun y => ixOf S.N y == some i)
  | .tp is => !(S.bx.any fun y => match ixOf S.N y with | some i => is.contains i | none => false)
def cS (T : Tab) (cs : Cs) (wh : Nat) (rec : List Stmt → Option Sv) (S : Sc) : Stmt → Option Sv
  | .Pass _ => some sNop
  | .Break _ => some sBrk
  | .Continue _ => some sCnt
  | .Expr e _ => cExp cs S e
  | .Return (some e) _ => (cs.e S e).map sRet
  | .Return none _ => some sRetN
  | .If t a b _ => map3 sIf (cs.t S t) (rec a) (rec b)
  | .Assign [tg] e _ => cAsg cs S tg e
  | .For tg it body [] _ => chk (notSet it) (match cTg S tg with
    | some t => map2 (sFor t) (cs.i S tg it) (rec body)
    | none => none)
  | .While t body [] _ => map2 (fun t b => whGo t b wh) (cs.t S t) (rec body)
  | .Raise (some e) none _ => cRaise T S e
  | _ => none
def cSs (T : Tab) (cs : Cs) (wh : Nat) (S : Sc) : Nat → List Stmt → Option Sv
  | 0, _ => none
  | n + 1, [] => some sNop
  | n + 1, s :: r => map2 sSeq (cS T cs wh (cSs T cs wh S n) S s) (cSs T cs wh S n r)
structure XS (T : Tab) (k : Nat) (g : G) (S : Sc) (X : Cx) (W : WX) : Prop where
  I : XI T k g S X W
  po : PassesOwn (model X.prog X.w) X.A X.env X.xe
  kind : X.env.scope.kind = .function
section
variable {T : Tab} {k : Nat} {cs : Cs} {g : G} {B : Addr → Prop} {H0 : Hp} {S : Sc} {X : Cx} {W : WX} {x : Str} {pos : Pos} {fs : Sv} {wh : Nat}
theorem XS.bk (J : XS T k g S X W) : X.env.blockKind = .function := by
  unfold Env.blockKind
  rw [J.kind]
  rfl
theorem kind_eq (J : XS T k g S X W) : X.env.kindOf = fun x => S.sc.names.lookup x := by
  funext x
  show X.env.scope.names.lookup x = _
  rw [J.I.scope]
theorem any_eq {y : Str} : ∀ {l : List (Str × NameKind)}, (l.any fun (n, k) => n == y && (k == .local || k == .cell)) = (l.any fun (n, k) => n == y && (k == .local || k == .cell)) := rfl
theorem asgLc_good (G' : Good T k cs) (J : XS T k g S X W) {y : Str} {py p spos : Pos} {elt : Expr} {gs : List Comprehension} {scope : Scope} (ho : oddName y = false) (h : cAsgLc cs S y py elt gs scope p = some fs) :
    PS X (.Assign [.Name y py] (.ListComp elt gs scope p) spos) (tS g B H0 W fs) := by
  unfold cAsgLc at h
  cases hi : ixOf S.N y with
  | none => rw [hi] at h; cases h
  | some i =>
    simp only [hi] at h
    have I := J.I
    have hN : X.N[i]? = some y := by rw [I.N]; exact ixOf_some hi
    have nd : X.N.Nodup := by rw [I.N]; exact I.nd
    cases hl : Mi.isLoc S y with
    | true =>
      simp only [hl] at h
      obtain ⟨h1, h2⟩ := chk_some h
      obtain ⟨f, e1, rfl⟩ := Option.map_eq_some_iff.mp h2
      have yl := I.isLoc hl
      unfold oneLine at h1
      simp only [Bool.and_eq_true, Bool.not_eq_true'] at h1
      have key : ∀ B : Addr → Prop, ∃ tl, PS X (.Assign [.Name y py] (.ListComp elt gs scope p) spos) (tAsg tl (gName i)) ∧ ∀ σ H Q, tL g B W f σ H Q → tl σ H Q := fun B => by
        have sw : swapsWith (.ListComp elt gs scope p) (some (.Name y py)) spos.line X.env = pure true := sw_true J.kind yl h1.1 h1.2
        unfold cComp at e1
        split at e1
        · rename_i tg it ifs a
          by_cases ha : a = 0
          · rw [if_pos ha] at e1
            subst ha
            unfold cLc1 at e1
            split at e1
            · cases e1
            · rename_i t ht
              obtain ⟨c1, c2⟩ := chk_some e1
              simp only [Bool.and_eq_true] at c1
              obtain ⟨⟨a1, a2⟩, a3⟩ := c1
              obtain ⟨iv, cond, fe, q1, q2, q3, rfl⟩ := map3_some c2
              exact ⟨_, ps_setLc I.calm nd hN yl sw (G'.i S _ _ _ q1 X g B W I) (by rw [I.N, I.scope]; exact blkOk_by a2) (fun s H C cl fp => tg_good (I.blk s H scope C cl fp) ht) (fun s H C cl fp => PTs.ex fun B => ifs_good G' (I.blk s H scope C cl fp) q2)
                (fun s H C cl fp => PE.ex fun B => G'.e _ _ _ q3 _ g B W0 (I.blk s H scope C cl fp)) (notSet_ok a1 X.env), fun σ H Q z => lc_read (subN_ok a3) z⟩
          · rw [if_neg ha] at e1; cases e1
        · rename_i tg it ifs a tg1 it1 ifs1 a1
          by_cases ha : a = 0 ∧ a1 = 0
          · rw [if_pos ha] at e1
            obtain ⟨b1, b2⟩ := ha
            subst b1; subst b2
            unfold cLc2 at e1
            split at e1
            · rename_i t t1 ht ht1
              obtain ⟨c1, c2⟩ := chk_some e1
              simp only [Bool.and_eq_true] at c1
              obtain ⟨⟨⟨⟨a1, a0⟩, a2⟩, a3⟩, a4⟩ := c1
              split at c2
              · rename_i h' hh
                obtain ⟨iv, cond, q1, q2, rfl⟩ := map2_some hh
                obtain ⟨iv1, cond1, fe, q3, q4, q5, rfl⟩ := map3_some c2
                exact ⟨_, ps_setLc2 I.calm nd hN yl sw (G'.i S _ _ _ q1 X g B W I) (by rw [I.N, I.scope]; exact blkOk_by a2) (subN_ok a4) (fun s H C cl fp => tg_good (I.blk s H scope C cl fp) ht) (fun s H C cl fp => PTs.ex fun B => ifs_good G' (I.blk s H scope C cl fp) q2)
                  (fun s H C cl fp => PI.ex fun B => G'.i _ _ _ _ q3 _ g B W0 (I.blk s H scope C cl fp)) (fun s H C cl fp => tg_good (I.blk s H scope C cl fp) ht1) (fun s H C cl fp => PTs.ex fun B => ifs_good G' (I.blk s H scope C cl fp) q4)
                  (fun s H C cl fp => PE.ex fun B => G'.e _ _ _ q5 _ g B W0 (I.blk s H scope C cl fp)) (notSet_ok a1 X.env) (fun env => notSet_ok a0 env), fun σ H Q z => lc2_read (subN_ok a3) (fun i hi => hi) z⟩
              · cases c2
            · cases e1
          · rw [if_neg ha] at e1; cases e1
        · cases e1
      cases S.bx.contains y with
      | true => exact st_boxLc key
      | false => exact st_asgLc rfl key
    | false =>
      simp only [hl] at h
      obtain ⟨h1, h2⟩ := chk_some h
      obtain ⟨f, e1, rfl⟩ := Option.map_eq_some_iff.mp h2
      obtain ⟨l1, l2⟩ := I.loc h1
      have nl : (X.env.kindOf y == some .local) = false := by
        rw [kind_eq J]
        unfold Mi.isLoc at hl
        show (S.sc.names.lookup y == some .local) = false
        cases z : S.sc.names.lookup y with
        | none => rfl
        | some kd =>
          rw [z] at hl
          cases kd <;> first
            | rfl
            | cases hl
      have pg : PG X (.Name y py) (gName i) := pg_name nd hN l1 l2
      have q : ∀ B : Addr → Prop, PE X (.ListComp elt gs scope p) (tL g B W f) := fun B => comp1_good G' I e1
      cases S.bx.contains y with
      | true => exact st_box q pg (swaps_cell nl) rfl rfl
      | false => exact st_asg (fun B => s_fresh (q B)) pg (swaps_cell nl) rfl rfl
theorem asg_good (G' : Good T k cs) (J : XS T k g S X W) {tg e : Expr} (h : cAsg cs S tg e = some fs) : PS X (.Assign [tg] e pos) (tS g B H0 W fs) := by
  have I := J.I
  have nd : X.N.Nodup := by rw [I.N]; exact I.nd
  unfold cAsg at h
  split at h
  · rename_i y py
    obtain ⟨h0, h⟩ := chk_some h
    simp only [Bool.not_eq_true'] at h0
    split at h
    · exact asgLc_good G' J h0 h
    · obtain ⟨h1, h2⟩ := chk_some h
      simp only [Bool.and_eq_true, Bool.not_eq_true'] at h1
      obtain ⟨l1, l2⟩ := I.loc h1.1
      split at h2
      · cases h2
      · rename_i i hi
        have pg : PG X (.Name y py) (gName i) := pg_name nd (by rw [I.N]; exact ixOf_some hi) l1 l2
        split at h2
        · obtain ⟨f, e1, rfl⟩ := Option.map_eq_some_iff.mp h2
          exact st_box (fun B => G'.l S _ _ e1 X g B W I) pg (swaps_sole h1.2) (swPN_ok (by first | rfl | (cases e <;> rfl))) rfl
        · obtain ⟨f, e1, rfl⟩ := Option.map_eq_some_iff.mp h2
          exact st_asg (fun B => G'.e S _ _ e1 X g B W I) pg (swaps_sole h1.2) (swPN_ok (by first | rfl | (cases e <;> rfl))) rfl
  · rename_i ts kt pt
    split at h
    · rename_i vs k2 p2
      split at h
      · cases h
      · rename_i hw
        split at h
        · rename_i t f ht hf
          cases h
          exact st_asg (fun B => G'.e S _ _ hf X g B W I) (tg_good I ht) swaps_tup (swP_ok J.bk (by rw [kind_eq J]; exact hw)) rfl
        · cases h
      · rename_i names hw
        split at h
        · rename_i x px y py a b
          obtain ⟨h1, h2⟩ := chk_some h
          simp only [Bool.and_eq_true, beq_iff_eq] at h1
          obtain ⟨⟨a1, a2⟩, a3⟩ := h1
          subst a1
          split at h2
          · rename_i i j hi hj
            by_cases hij : i = j
            · rw [if_pos hij] at h2; cases h2
            · rw [if_neg hij] at h2
              obtain ⟨f, e1, rfl⟩ := Option.map_eq_some_iff.mp h2
              exact st_par I.calm nd (by rw [I.N]; exact ixOf_some hi) (by rw [I.N]; exact ixOf_some hj) hij (I.isLoc a2) (I.isLoc a3) (fun B => G'.a S _ _ e1 X g B W I) (swP_ok J.bk (by rw [kind_eq J]; exact hw)) swaps_tup
          · cases h2
        · cases h
    · rename_i hn
      split at h
      · rename_i t f ht hf
        cases h
        refine st_asg (fun B => G'.e S _ _ hf X g B W I) (tg_good I ht) swaps_tup (swPN_ok ?_) rfl
        cases e <;> first
          | rfl
          | exact absurd rfl (hn _ _ _)
      · cases h
  · cases h
theorem raise_good (J : XS T k g S X W) {e : Expr} (h : cRaise T S e = some fs) : PS X (.Raise (some e) none pos) (tS g B H0 W fs) := by
  unfold cRaise at h
  split at h
  · obtain ⟨h1, h2⟩ := chk_some h
    simp only [Bool.and_eq_true, Bool.not_eq_true', List.contains_iff_mem] at h1
    obtain ⟨⟨a1, a2⟩, a3⟩ := h1
    cases h2
    obtain ⟨C, c1, c2, c3, c4, c5⟩ := (J.I.tok.excs _ a3).ex
    exact st_raise J.I.calm J.I.tk c2 (by rw [J.I.mg]; exact c1) c3 c4 c5 (J.I.gl a2) (odd_of a1).1 J.I.mg
  · cases h
theorem exp_good (G' : Good T k cs) (J : XS T k g S X W) {e : Expr} (h : cExp cs S e = some fs) : PS X (.Expr e pos) (tS g B H0 W fs) := by
  have I := J.I
  unfold cExp at h
  split at h
  · rename_i x px m apos args cpos
    by_cases hm : m = "append"
    · rw [if_pos hm] at h
      subst hm
      split at h
      · rename_i a
        obtain ⟨h1, h2⟩ := chk_some h
        simp only [Bool.and_eq_true, Bool.not_eq_true'] at h1
        obtain ⟨⟨⟨a1, a2⟩, a3⟩, a4⟩ := h1
        obtain ⟨o1, o2, o3⟩ := odd_of a1
        obtain ⟨i, f, e1, e2, rfl⟩ := map2_some h2
        exact st_app (by rw [I.N]; exact ixOf_some e1) (I.vis a2) o1 o2 (fun B => G'.e S _ _ e2 X g B W I) (star_cons a4) a3
      · cases h
    · rw [if_neg hm] at h; cases h
  · obtain ⟨h1, h2⟩ := chk_some h
    simp only [Bool.not_eq_true'] at h1
    obtain ⟨f, e1, rfl⟩ := Option.map_eq_some_iff.mp h2
    exact st_exp (G'.e S _ _ e1 X g B W I) (swaps_no h1)
theorem s_good (G' : Good T k cs) (J : XS T k g S X W) {rec : List Stmt → Option Sv} (hr : ∀ (b : List Stmt) (f : Sv), rec b = some f → PSs X b (tS g B H0 W f)) {s : Stmt} (h : cS T cs wh rec S s = some fs) : PS X s (tS g B H0 W fs) := by
  have I := J.I
  unfold cS at h
  split at h
  · cases h; exact st_pass
  · cases h; exact st_brk
  · cases h; exact st_cnt
  · exact exp_good G' J h
  · obtain ⟨f, e1, rfl⟩ := Option.map_eq_some_iff.mp h
    exact st_ret (G'.e S _ _ e1 X g B W I)
  · cases h; exact st_retN
  · obtain ⟨t, a, b, e1, e2, e3, rfl⟩ := map3_some h
    exact st_if (G'.t S _ _ e1 X g B W I) (hr _ _ e2) (hr _ _ e3)
  · exact asg_good G' J h
  · obtain ⟨h1, h2⟩ := chk_some h
    split at h2
    · rename_i t ht
      obtain ⟨iv, b, e1, e2, rfl⟩ := map2_some h2
      exact st_for J.po I.calm (fun B => G'.i S _ _ _ e1 X g B W I) (tg_good I ht) (hr _ _ e2) (notSet_ok h1 X.env)
    · cases h2
  · obtain ⟨t, b, e1, e2, rfl⟩ := map2_some h
    exact st_while J.po (G'.t S _ _ e1 X g B W I) (hr _ _ e2)
  · exact raise_good J h
  · cases h
theorem ss_good (G' : Good T k cs) (J : XS T k g S X W) : ∀ (n : Nat) (b : List Stmt) (f : Sv), cSs T cs wh S n b = some f → PSs X b (tS g B H0 W f)
  | 0, _, _, h => by cases h
  | n + 1, [], _, h => by cases h; exact st_nil
  | n + 1, s :: r, _, h => by
    obtain ⟨a, b, e1, e2, rfl⟩ := map2_some h
    exact st_cons (s_good G' J (ss_good G' J n) e1) (ss_good G' J n r b e2)
end
end Mi

namespace Mi
open PySem PySem.Spec PyProof.Rows L2
/-! a def -/
def initE (n : Nat) (ds : List D) : En := ds.map .d ++ List.replicate (n - ds.length) .no
def bodF (n : Nat) (b : Sv) : List D → M D := fun ds => bd (b (initE n ds)) fun p => match p.1 with
  | .ret d => rt d
  | .next => rt .none
  | _ => no
def cDef (T : Tab) (fuel wh : Nat) (N : List Str) (bx : List Str) (lam : Bool) (scope : Scope) (body : List Stmt) : Option Sv := cSs T (comp T fuel) wh ⟨N, scope, fun _ => true, bx, lam⟩ fuel body
def nodupB : List Str → Bool
  | [] => true
  | x :: r => !r.contains x && nodupB r
theorem nodupB_ok : ∀ {l : List Str}, nodupB l = true → l.Nodup
  | [], _ => List.nodup_nil
  | x :: r, h => by
    unfold nodupB at h
    simp only [Bool.and_eq_true, Bool.not_eq_true', List.contains_eq_mem, decide_eq_false_iff_not] at h
    exact List.nodup_cons.mpr ⟨h.1, nodupB_ok h.2⟩
def fscB (N P : List Str) (sc : Scope) : Bool :=
  (match sc.kind with | .function => true | _ => false) && !sc.isCoroutine && !sc.isGenerator && nodupB N && (N.take P.length == P) &&
    (P.all fun x => match sc.names.lookup x with | some .local => true | some .cell => true | _ => false) && (sc.names.all fun y => match y.2 with | .free => false | _ => true)
theorem fscB_ok {N P : List Str} {sc : Scope} (h : fscB N P sc = true) : FnScope N P sc := by
  unfold fscB at h
  simp only [Bool.and_eq_true, Bool.not_eq_true', List.all_eq_true, beq_iff_eq] at h
  obtain ⟨⟨⟨⟨⟨⟨h1, h2⟩, h3⟩, h4⟩, h5⟩, h6⟩, h7⟩ := h
  refine ⟨?_, h2, h3, nodupB_ok h4, h5, fun x hx => ?_, fun y hy z => ?_⟩
  · split at h1
    · assumption
    · cases h1
  · have q := h6 x hx
    split at q
    · exact .inl (by assumption)
    · exact .inr (by assumption)
    · cases q
  · have q := h7 y hy
    rw [z] at q
    cases q
section
variable {T : Tab} {k j wh fuel : Nat} {mg : Str → Option Value} {TT : List (Addr × Str)} {P : Program} {w : World} {K : PySem.W.Frag} {base : Heap} {x qual : Str} {params : Arguments} {body : List Stmt} {scope : Scope} {f : Addr} {fd : FuncData} {N ps bx : List Str} {lam : Bool} {b : Sv}
theorem start_ok {g : G} {B : Addr → Prop} {H : Hp} {c : Cp} : ∀ {vs : List V} {ds : List D}, StH g B c H → RpA g B H vs ds → ds.length ≤ N.length → SOK g B B H (initE N.length ds) c (L2.start N vs) H := fun {vs ds} st r hl => by
  have lv : vs.length = ds.length := r.length
  have getE : ∀ i : Nat, (initE N.length ds)[i]? = if i < ds.length then ds[i]?.map Sl.d else if i < N.length then some .no else none := fun i => by
    unfold initE
    by_cases h : i < ds.length
    · rw [if_pos h, List.getElem?_append_left (by rw [List.length_map]; exact h), List.getElem?_map]
    · rw [if_neg h, List.getElem?_append_right (by rw [List.length_map]; omega), List.length_map, List.getElem?_replicate]
      by_cases h2 : i < N.length
      · rw [if_pos h2, if_pos (by omega)]
      · rw [if_neg h2, if_neg (by omega)]
  refine ⟨?_, fun i sl e => ?_, fun i j xs ys a e1 => ?_, st, fun a h => h, st.cb, Per.refl, fun a h => h⟩
  · unfold initE L2.start
    simp only [List.length_append, List.length_map, List.length_replicate]
    omega
  · rw [getE] at e
    by_cases h : i < ds.length
    · rw [if_pos h] at e
      obtain ⟨d, hd, rfl⟩ := Option.map_eq_some_iff.mp e
      obtain ⟨v, hv, rv⟩ := r.get hd
      refine ⟨v, ?_, rv⟩
      unfold L2.start
      rw [List.getElem?_append_left (by rw [List.length_map]; omega), List.getElem?_map, hv]
      rfl
    · rw [if_neg h] at e
      by_cases h2 : i < N.length
      · rw [if_pos h2] at e; cases e; trivial
      · rw [if_neg h2] at e; cases e
  · rw [getE] at e1
    by_cases h : i < ds.length
    · rw [if_pos h] at e1
      obtain ⟨d, hd, z⟩ := Option.map_eq_some_iff.mp e1
      cases z
    · rw [if_neg h] at e1
      by_cases h2 : i < N.length
      · rw [if_pos h2] at e1; cases e1
      · rw [if_neg h2] at e1; cases e1
/-- THE RULE: a def of the text keeps the promise of its function -/
theorem fn_by (F : FunD K x qual params body scope [] [] f fd) (hb : Binds K fd ps []) (hS : fscB N ps scope = true) (hc : cDef T fuel wh N bx lam scope body = some b) (tok : TOK T mg TT k P w K base) (hm : mg x = some (.ref f)) (hj : k ≤ j)
    (hl : lam = true → k + 2 ≤ j ∧ ∃ c P', fd.code = .ref c ∧ LamX.TabB base mg c P' ∧ ∀ (L fa : Addr) (cdv : Value), (P', (envOfC qual scope L fa cdv).qual ++ "<lambda>") ∈ TT ∧ ∀ q ∈ TT, q.1 = P' → q.2 = (envOfC qual scope L fa cdv).qual ++ "<lambda>") :
    FnH mg TT (j + 1) P w K base x ps.length (bodF N.length b) := by
  have S := fscB_ok hS
  obtain ⟨oc, od, dV, kV, doc, pm, an, cdv, ct, osl, rfl, lk, hcd, _, _⟩ := F.ex
  refine ⟨f, _, ps, hm, F.kp, hb, fn_of lk hcd S (fun vs H Q E h => h.1) fun A outer s H vs Q E hr hsp => ?_⟩
  obtain ⟨hlen, ca, B, ds, c, st, r, hp⟩ := hsp
  refine ⟨tS ⟨mg, ca, TT⟩ B H (fun cls d _ H' => E cls d H') b, ss_good (comp_good fuel) ⟨⟨rfl, S.nd, rfl, rfl, rfl, rfl, hr.mono hj, L2N.takes_of rfl rfl rfl rfl, tok, fun z => ?_⟩, passes_of rfl, S.kind⟩ fuel body b hc, B, _, c, start_ok st r ?_, ?_⟩
  · obtain ⟨h2, cc, P', e1, e2, e3⟩ := hl z
    have e1' : cdv = .ref cc := e1
    exact ⟨hr.mono h2, cc, P', e2, e1', e3 _ _ _⟩
  · have hpl : ps.length ≤ N.length := by have := congrArg List.length S.pre; rw [List.length_take] at this; omega
    rw [← r.length, hlen]
    exact hpl
  · have hp' : Post ⟨mg, ca, TT⟩ (fun cls d _ H' => E cls d H') [] H (RD ⟨mg, ca, TT⟩ B) (bd (b (initE N.length ds)) (fun p => match p.1 with | .ret d => rt d | .next => rt .none | _ => no) c) Q := hp
    unfold bd at hp'
    cases e : b (initE N.length ds) c with
    | stuck => rw [e] at hp'; exact hp'
    | err er c1 => rw [e] at hp'; exact fun C σ1 H1 x y => hp' C H1 x y
    | ok p c1 =>
      rw [e] at hp'
      obtain ⟨fl, ρ1⟩ := p
      cases fl with
      | next => exact fun B1 σ1 H1 s1 gr => hp' _ H1 (s1.aft s1.st.refl) .non
      | brk => exact hp'.elim
      | cont => exact hp'.elim
      | ret d => exact fun v H1 x y => hp' v H1 x y
theorem FnH.mono {m : Nat} {F : List D → M D} (h : FnH mg TT k P w K base x m F) (hj : k ≤ j) : FnH mg TT j P w K base x m F := by
  obtain ⟨f, fd, ps, h1, h2, h3, h4⟩ := h.ex
  exact ⟨f, fd, ps, h1, h2, h3, h4.mono hj⟩
end
end Mi

/-! walking a list, and taking tuples apart, while an exception is handled -/
namespace Mi
open PySem PySem.Spec PyProof.Rows L2
section
variable {prog : Program} {w : World} {A : Around} {E : Value → Shared → Prop} {s : Shared}
theorem listEndH {it l x1 : Addr} {i : Nat} {its : Array Value} {Q : Option Value → Shared → Prop} (hot : HotX.HotAt A x1 s.heap) (hne : x1 ≠ it) (hit : s.heap.IsListIter it l i) (hl : s.heap.IsList l its) (hx : its[i]? = none)
    (hQ : ∀ h', Heap.ExtBut it s.heap h' → Q none { s with heap := h' }) : wpAny (model prog w) A (pyNext (.ref it)) Q E s := by
  obtain ⟨oi, gi, ci, di⟩ := id hit
  obtain ⟨ol, gl, _, nl, dl⟩ := hl
  obtain ⟨hh, o1, vs1, g1, d1, c1⟩ := hot
  unfold pyNext
  refine wpAny_bind (wpAny_attempt (wpAny_callSpecial?_slot (name := Str.ofString "__next__") hit.typeIs slot_listiter_next (wpAny_call_entry slot_listiter_next hit.typeIs entry_listiter_next ?_ (args_listiter_next _))))
  show wpAny _ _ (field (.ref it) 0 >>= _) _ _ s
  refine wpAny_bind (wpAny_field gi di (x := .ref l) rfl ?_)
  show wpAny _ _ (if (Value.ref l == Value.none) = true then _ else _) _ _ s
  rw [if_neg (show ¬ ((Value.ref l == Value.none) = true) from Bool.false_ne_true)]
  show wpAny _ _ (field (.ref it) 1 >>= _) _ _ s
  refine wpAny_bind (wpAny_field gi di (x := .int i 0) rfl ?_)
  show wpAny _ _ (seqItems? (.ref l) >>= _) _ _ s
  refine wpAny_bind (wpAny_seqItems gl dl ?_)
  simp only [Int.toNat_natCast, hx]
  refine wpAny_bind (wpAny_rule (wpAny_bind (wpAny_setField gi di (by simp) ?_)))
  generalize hu : (s.heap.update it (Obj.mapFields fun x => x.setIfInBounds 0 Value.none)) = hu'
  have kept : ∀ b o, b ≠ it → s.heap.get? b = some o → hu'.get? b = some o := fun b o nb e => by
    rw [← hu, Heap.get?_update_ne _ _ _ _ nb]; exact e
  show wpAny _ _ (newExc (.type "StopIteration") [] >>= _) _ _ _
  refine wpAny_bind ?_
  simp only [newExc, newTuple]
  refine wpAny_bind (wpAny_newObj_type ?_ (by size_fits))
  refine wpAny_bind (m := firstArgMember _ _) (wpAny_of_eq (a := Value.none) (by first | rfl | (simp only [firstArgMember]; rfl)) ?_)
  refine wpAny_newObj_type ?_ (by size_fits)
  have g1' := kept x1 o1 hne g1
  refine HotX.raiseNew_hot ⟨hh, o1, vs1, Heap.get?_push_of_some _ (Heap.get?_push_of_some _ g1'), d1, c1⟩ (Nat.ne_of_lt (Heap.lt_size (Heap.get?_push_of_some _ g1'))) (Heap.get?_push_size _ rfl) rfl (by first | (simp; done) | (simp; omega) | (simp only [Array.size_append]; simp; omega)) ?_
  refine wpAny_bind (wpAny_isInstance (T := "StopIteration") (b := true) ⟨_, Heap.get?_update_self _ (Heap.get?_push_size _ rfl) rfl, rfl⟩ isSubtype_stop (wpAny_pure (hQ _ fun b o nb e => ?_)))
  have e' := kept b o nb e
  rw [Heap.get?_update_other _ _ (Nat.ne_of_gt (Heap.lt_size (Heap.get?_push_of_some _ e')))]
  exact Heap.get?_push_of_some _ (Heap.get?_push_of_some _ e')
theorem tupEndH {it l x1 : Addr} {i : Nat} {its : Array Value} {Q : Option Value → Shared → Prop} (hot : HotX.HotAt A x1 s.heap) (hne : x1 ≠ it) (hit : IsTupIter s.heap it l i) (hl : IsTup s.heap l its) (hx : its[i]? = none)
    (hQ : ∀ h', Heap.ExtBut it s.heap h' → Q none { s with heap := h' }) : wpAny (model prog w) A (pyNext (.ref it)) Q E s := by
  obtain ⟨oi, gi, ci, di⟩ := id hit
  obtain ⟨ol, gl, _, nl, dl⟩ := hl
  obtain ⟨hh, o1, vs1, g1, d1, c1⟩ := hot
  unfold pyNext
  refine wpAny_bind (wpAny_attempt (wpAny_callSpecial?_slot (name := Str.ofString "__next__") hit.typeIs slot_tupleiter_next (wpAny_call_entry slot_tupleiter_next hit.typeIs entry_tupleiter_next ?_ (args_tupleiter_next _))))
  show wpAny _ _ (field (.ref it) 0 >>= _) _ _ s
  refine wpAny_bind (wpAny_field gi di (x := .ref l) rfl ?_)
  show wpAny _ _ (if (Value.ref l == Value.none) = true then _ else _) _ _ s
  rw [if_neg (show ¬ ((Value.ref l == Value.none) = true) from Bool.false_ne_true)]
  show wpAny _ _ (field (.ref it) 1 >>= _) _ _ s
  refine wpAny_bind (wpAny_field gi di (x := .int i 0) rfl ?_)
  show wpAny _ _ (seqItems? (.ref l) >>= _) _ _ s
  refine wpAny_bind (wpAny_seqItems gl dl ?_)
  simp only [Int.toNat_natCast, hx]
  refine wpAny_bind (wpAny_rule (wpAny_bind (wpAny_setField gi di (by simp) ?_)))
  generalize hu : (s.heap.update it (Obj.mapFields fun x => x.setIfInBounds 0 Value.none)) = hu'
  have kept : ∀ b o, b ≠ it → s.heap.get? b = some o → hu'.get? b = some o := fun b o nb e => by
    rw [← hu, Heap.get?_update_ne _ _ _ _ nb]; exact e
  show wpAny _ _ (newExc (.type "StopIteration") [] >>= _) _ _ _
  refine wpAny_bind ?_
  simp only [newExc, newTuple]
  refine wpAny_bind (wpAny_newObj_type ?_ (by size_fits))
  refine wpAny_bind (m := firstArgMember _ _) (wpAny_of_eq (a := Value.none) (by first | rfl | (simp only [firstArgMember]; rfl)) ?_)
  refine wpAny_newObj_type ?_ (by size_fits)
  have g1' := kept x1 o1 hne g1
  refine HotX.raiseNew_hot ⟨hh, o1, vs1, Heap.get?_push_of_some _ (Heap.get?_push_of_some _ g1'), d1, c1⟩ (Nat.ne_of_lt (Heap.lt_size (Heap.get?_push_of_some _ g1'))) (Heap.get?_push_size _ rfl) rfl (by first | (simp; done) | (simp; omega) | (simp only [Array.size_append]; simp; omega)) ?_
  refine wpAny_bind (wpAny_isInstance (T := "StopIteration") (b := true) ⟨_, Heap.get?_update_self _ (Heap.get?_push_size _ rfl) rfl, rfl⟩ isSubtype_stop (wpAny_pure (hQ _ fun b o nb e => ?_)))
  have e' := kept b o nb e
  rw [Heap.get?_update_other _ _ (Nat.ne_of_gt (Heap.lt_size (Heap.get?_push_of_some _ e')))]
  exact Heap.get?_push_of_some _ (Heap.get?_push_of_some _ e')
/-- (a, b, ..) = a tuple -/
theorem assignH {env : Env} {elts : List Expr} {kk : Nat} {pos : Pos} {t x1 : Addr} {its : Array Value} {Q : Unit → Shared → Prop} (hot : HotX.HotAt A x1 s.heap) (ht : IsTup s.heap t its) (hn : (assignEach elts env).length = its.size) (hs : (assignEach elts env).findIdx? (·.1) = none)
    (h : ∀ h', Heap.ExtBut s.heap.objs.size s.heap h' → wpAny (model prog w) A (assignInOrder ((assignEach elts env).map (·.2)) its.toList) Q E { s with heap := h' }) : wpAny (model prog w) A (assign (.Tuple elts kk pos) env (.ref t)) Q E s := by
  have hlt : t ≠ s.heap.objs.size := by obtain ⟨o, ho, _⟩ := ht; exact Nat.ne_of_lt (Heap.lt_size ho)
  obtain ⟨hh, o1, vs1, g1, d1, c1⟩ := hot
  have x1lt : x1 ≠ s.heap.objs.size := Nat.ne_of_lt (Heap.lt_size g1)
  rw [assign_Tuple]
  refine wpAny_bind (wpAny_standAt ?_)
  unfold unpack
  rw [hn, hs]
  refine wpAny_bind (wpAny_holding ?_)
  unfold unpackItems notIterableAtAll
  refine wpAny_bind (wpAny_bind (wpAny_specialOf ht.typeIs slot_tuple_iter.lookup (wpAny_pure ?_)))
  simp only [Bool.false_eq_true, if_false]
  refine wpAny_bind (wpAny_holding (iter_tuple ht ?_))
  refine wpAny_bind (wpAny_holding (draw_tuple hlt its.size 0 _ _ ⟨_, Heap.get?_push_size _ rfl, rfl, rfl⟩ (ht.push _) (by omega) fun h1 hit1 sb1 => ?_))
  have hall : List.take its.size (List.drop 0 its.toList) = its.toList := by
    rw [List.drop_zero]; exact List.take_of_length_le (by simp)
  rw [hall, if_neg (by simp)]
  have ht1 : IsTup h1 t its := (ht.push _).extBut sb1.extBut hlt
  refine wpAny_bind (wpAny_holding (tupEndH ⟨hh, o1, vs1, sb1.extBut x1 o1 x1lt (Heap.get?_push_of_some _ g1), d1, c1⟩ x1lt hit1 ht1 (by simp) fun h2 eb2 => ?_))
  simp only [Option.isSome_none, Bool.false_eq_true, if_false]
  exact wpAny_pure (h h2 fun b o hb e => eb2 b o hb (sb1.extBut b o hb (Heap.get?_push_of_some _ e)))
end
end Mi

namespace Mi
open PySem PySem.Spec PyProof.Rows L2
section
variable {X : Cx}
/-- [elt for (a, b, ..) in a list if ..] while an exception is handled -/
theorem pe_lcH {elt iter : Expr} {es ifs : List Expr} {kk n : Nat} {tp pos : Pos} {scope : Scope} {own : List (Str × Nat)} {tl : TE} {tg : TGs} {tt : TT} {te : TE} (hot : L2H.HotC X) (hN : X.N.Nodup) (hl : PE X iter tl) (ok : BlkOk X.N X.env.scope scope own)
    (hg : ∀ (s : Shared) (H : Hp) (C : Addr) (cl : List (Str × Addr)) (fp : List Addr), PGs (X.blk s H scope (compEnvC scope cl C X.env) fp) es tg) (hn : ∀ env, (assignEach es env).length = n) (hst : ∀ env, (assignEach es env).findIdx? (·.1) = none)
    (ht : ∀ (s : Shared) (H : Hp) (C : Addr) (cl : List (Str × Addr)) (fp : List Addr), PTs (X.blk s H scope (compEnvC scope cl C X.env) fp) ifs tt) (he : ∀ (s : Shared) (H : Hp) (C : Addr) (cl : List (Str × Addr)) (fp : List Addr), PE (X.blk s H scope (compEnvC scope cl C X.env) fp) elt te)
    (hs : ∀ x, foldedSetIterable iter X.env x = pure x) : PE X (.ListComp elt [⟨.Tuple es kk tp, iter, ifs, 0⟩] scope pos) (tLc (iList X.K tl) (gTup X.K n tg) tt te (own.map (·.2))) := by
  refine ⟨fun pins s σ H Q I h => ?_⟩
  rw [eval_ListComp]
  have hfree : ∀ y ∈ scope.names, y.2 = .free → ∃ c, X.env.cells.lookup y.1 = some c := fun y hy e => (ok.free y hy e).elim (fun z => I.ok.has _ (.inl z)) (fun z => I.ok.has _ (.inr z))
  refine wpAny_comprehension_free (use := none) rfl hs (closure_ok hfree) ok.kind (fun y hy e => by rw [ok.uniq y hy, e]) (thn (hl.run pins s σ H _ I h) fun xv s1 ⟨xl, H1, I1, r1, q1⟩ => ?_)
  obtain ⟨la, rfl, ⟨ys, hys⟩, q⟩ := q1
  cases r1
  obtain ⟨its, rv, pl, hz⟩ := I1.list hys
  have step : wpAny (model X.prog X.w) X.A (pyIter (.ref la)) (fun itv s2 => ∃ it, itv = .ref it ∧ Inv X pins σ H1 s2 ∧ s2.heap.IsListIter it la 0 ∧ FpOk X pins H1 it) X.xe s1 := by
    refine wpAny_pyIter_list pl.isList ?_
    exact ⟨_, rfl, I1.kept (t' := s1.toks) fun b o e => Heap.get?_push_of_some _ e, ⟨_, Heap.get?_push_size _ rfl, rfl, rfl⟩, I1.fpOk (Nat.le_refl _) (I1.hok.fresh (Nat.le_refl _))⟩
  refine thn step fun itv s2 ⟨it, e, I2, li2, fi2⟩ => ?_
  subst e
  refine wpAny_newObj_type (newEnv_comp ?_) (by show 0 ≤ sizeLine; decide)
  generalize hD : s2.heap.objs.size = D
  have hDn : H1 D = none := I2.hok.fresh (Nat.le_of_eq hD)
  obtain ⟨Wk, ⟨m0, w0⟩, turn⟩ := q D hDn
  generalize hs3 : ({ s2 with heap := s2.heap.push { cls := .type "list", data := .seq ([] : List Value).toArray } } : Shared) = s3
  have I3 : Inv X pins σ (upd H1 D (.lst [])) s3 := by
    rw [← hs3]
    refine I2.laid (t' := s2.toks) (fun b o e => Heap.get?_push_of_some _ e) (Nat.le_of_eq hD) ⟨Nat.zero_le _, [], 0, .nil, ?_⟩
    rw [← hD]
    exact Heap.get?_push_size _ rfl
  have eh3 : s3.heap = s2.heap.push { cls := .type "list", data := .seq ([] : List Value).toArray } := by rw [← hs3]
  have li3 : s3.heap.IsListIter it la 0 := li2.at fun o e => by rw [eh3]; exact Heap.get?_push_of_some _ e
  have itlt : it < s2.heap.objs.size := by obtain ⟨o, e, _⟩ := li2; exact Heap.lt_size e
  have fi3 : FpOk X pins (upd H1 D (.lst [])) it := ⟨by rw [upd_ne (by rw [← hD]; exact Nat.ne_of_lt itlt)]; exact fi2.1, fi2.2⟩
  have I4 := block_start (fp := [it]) I3 ok hN (fun b hb => by
    have e : b = it := by simpa using hb
    subst e
    exact ⟨fi3, by rw [eh3, Heap.size_push]; exact Nat.lt_succ_of_lt itlt⟩)
  have pg := hg s3 (upd H1 D (.lst [])) s3.heap.objs.size (cellsFrom (s3.heap.objs.size + 1) scope.names (cloFrom X.env.cells scope.names [])) [it]
  have pt := ht s3 (upd H1 D (.lst [])) s3.heap.objs.size (cellsFrom (s3.heap.objs.size + 1) scope.names (cloFrom X.env.cells scope.names [])) [it]
  have pe := he s3 (upd H1 D (.lst [])) s3.heap.objs.size (cellsFrom (s3.heap.objs.size + 1) scope.names (cloFrom X.env.cells scope.names [])) [it]
  show codeAny _ _ (.compStart (.ListComp elt [⟨.Tuple es kk tp, iter, ifs, 0⟩] scope pos) 0 (.ref it) (.ref D) (compEnvC scope (cellsFrom (s3.heap.objs.size + 1) scope.names (cloFrom X.env.cells scope.names [])) s3.heap.objs.size X.env)) (compPost (model X.prog X.w) X.A X.xe none (EP X pins σ Q) (.ref D) s3.heap.objs.size) { s3 with heap := pushCells (s3.heap.push { cls := .type "dict", data := .dict #[] }) scope.names }
  generalize hce : compEnvC scope (cellsFrom (s3.heap.objs.size + 1) scope.names (cloFrom X.env.cells scope.names [])) s3.heap.objs.size X.env = ce at I4 pg pt pe ⊢
  have cL : ce.locals = s3.heap.objs.size := by subst hce; rfl
  have nit3 : (upd H1 D (.lst [])) it = none := fi3.1
  generalize hH3 : upd H1 D (.lst []) = H3 at I3 I4 pg pt pe w0 fi3 nit3
  generalize hs4 : ({ s3 with heap := pushCells (s3.heap.push { cls := .type "dict", data := .dict #[] }) scope.names } : Shared) = s4 at I4 ⊢
  have up4 : ∀ b o, s3.heap.get? b = some o → s4.heap.get? b = some o := fun b o e => by rw [← hs4]; exact pushCells_keeps _ _ _ _ (Heap.get?_push_of_some _ e)
  have li4 : s4.heap.IsListIter it la 0 := li3.at fun o e => up4 it o e
  -- the handled exception, pinned in the block
  obtain ⟨qx, hqx, mqx⟩ := hot
  have px3 := I3.pin qx (List.mem_append_left _ mqx)
  have pxit : qx.1 ≠ it := fi3.2.2.2.2.2 qx (List.mem_append_left _ mqx)
  have I4p : Inv (X.blk s3 H3 scope ce [it]) [qx] (wipe σ (own.map (·.2))) H3 s4 := I4.pins_of fun p hp => by
    have e : p = qx := by simpa using hp
    rw [e]
    refine ⟨up4 _ _ px3.1, px3.2.1, fun z => ?_, fun z => ?_, px3.2.2.2.2⟩
    · have z : qx.1 = ce.locals := z
      rw [cL] at z
      exact absurd (Heap.lt_size px3.1) (by rw [z]; exact Nat.lt_irrefl _)
    · have z : qx.1 ∈ frs X.stack := z
      rcases List.mem_cons.mp (I3.stkSub _ z) with e | e
      · exact px3.2.2.1 e
      · exact px3.2.2.2.1 e
  have stat : ∀ {σ' : L2.St} {H' : Hp} {s' : Shared}, Inv (X.blk s3 H3 scope ce [it]) [qx] σ' H' s' → H' it = none → FpOk (X.blk s3 H3 scope ce [it]) [qx] H' it := fun {σ' H' s'} I' hn =>
    ⟨hn, (I'.ok.exf it List.mem_cons_self).1, I'.ok.exfs it List.mem_cons_self, .inl List.mem_cons_self, fun x c e => (I'.ok.exf it List.mem_cons_self).2 x c e, fun p hp => by
      have e : p = qx := by simpa using (show p ∈ ([] : List (Addr × Obj)) ++ [qx] from hp)
      rw [e]; exact pxit⟩
  have hotA : ∀ {σ' : L2.St} {H' : Hp} {s' : Shared} {pl : List (Addr × Obj)}, Inv (X.blk s3 H3 scope ce [it]) ([qx] ++ pl) σ' H' s' → HotX.HotAt X.A qx.1 s'.heap := fun {σ' H' s' pl} I' => by
    obtain ⟨hh, vs, d, c⟩ := hqx
    exact ⟨hh, qx.2, vs, (I'.pin qx (List.mem_append_right _ (List.mem_append_left _ List.mem_cons_self))).1, d, c⟩
  have loop : codeAny (model X.prog X.w) X.A (.compLoop (.ListComp elt [⟨.Tuple es kk tp, iter, ifs, 0⟩] scope pos) 0 (.ref it) (.ref D) ce) (compPost (model X.prog X.w) X.A X.xe none (EP X pins σ Q) (.ref D) s3.heap.objs.size) s4 := by
    refine compLoop_any (fun m s' => ∃ i H', Inv (X.blk s3 H3 scope ce [it]) [qx] (wipe σ (own.map (·.2))) H' s' ∧ s'.heap.IsListIter it la i ∧ H' it = none ∧ Wk i m H') ?_ m0 ⟨0, H3, I4p, li4, nit3, w0⟩
    rintro m s5 ⟨i, H5, I5, li5, n5, w5⟩
    have hot5 : HotX.HotAt X.A qx.1 s5.heap := hotA (pl := []) I5
    rcases turn i m H5 w5 with ⟨stop, qq⟩ | ⟨go, Nx, hNx, stp⟩
    · obtain ⟨zs, hq5, hlen⟩ := stop
      obtain ⟨its5, rv5, pl5, hz5⟩ := I5.list hq5
      obtain ⟨f0, f1, f2, f3, f4, f5⟩ := stat I5 n5
      have lv := rv5.length
      refine listEndH hot5 pxit li5 pl5.isList (by simp; omega) fun h' eb => ?_
      have I6 : Inv (X.blk s3 H3 scope ce [it]) [qx] (wipe σ (own.map (·.2))) H5 { s5 with heap := h' } := I5.turned (t' := s5.toks) (fun b o hb e => eb b o hb e) f0 f1 f3 f4 f5
      have I7 : Inv X pins σ H5 { s5 with heap := h' } := I3.call' (ch := [it]) I6.os I6.base I6.hok I6.bare fun b hb => by
        have e : b = it := by simpa using hb
        rw [e]
        exact ⟨fi3.2.2.2.1, fi3.2.1, fi3.2.2.2.2.1, fi3.2.2.2.2.2⟩
      have nC : H5 s3.heap.objs.size = none := by
        have z : H5 ce.locals = none := I6.free
        rw [cL] at z
        exact z
      obtain ⟨mm, hns, _⟩ := I6.loc
      have hns : h'.Ns ce.locals mm := hns
      rw [cL] at hns
      refine ⟨mm, hns, fun h'' sb => ?_⟩
      obtain ⟨k0, k1, k2, k3, k4, k5⟩ := I3.fpOk (Nat.le_refl _) nC
      exact ⟨.ref D, H5, I7.turned (t' := s5.toks) (fun b o hb e => (sb.2 b hb).trans e) k0 k1 k3 k4 k5, rfl, qq⟩
    · obtain ⟨zs, x, hq5, hx⟩ := go
      obtain ⟨its5, rv5, pl5, hz5⟩ := I5.list hq5
      obtain ⟨u, hu, ru⟩ := rv5.get hx
      obtain ⟨f0, f1, f2, f3, f4, f5⟩ := stat I5 n5
      refine wpAny_pyNext_list_item li5 pl5.isList (x := u) (by simpa using hu) fun h' li6 sb => ?_
      have I6 : Inv (X.blk s3 H3 scope ce [it]) [qx] (wipe σ (own.map (·.2))) H5 { s5 with heap := h' } := I5.turned (t' := s5.toks) (fun b o hb e => (sb.2 b hb).trans e) f0 f1 f3 f4 f5
      obtain ⟨oi, gi, ci, di⟩ := id li6
      show wpAny _ _ (letOwnedTupleGo _ _ _) _ _ _
      refine go_of (s := { s5 with heap := h' }) gi ci di (by decide) ?_
      have I6p : Inv (X.blk s3 H3 scope ce [it]) ([qx] ++ [(it, oi)]) (wipe σ (own.map (·.2))) H5 { s5 with heap := h' } := I6.pins_of fun p hp => by
        rcases List.mem_append.mp hp with z | z
        · exact I6.pin p (List.mem_append_right _ z)
        · have e : p = (it, oi) := by simpa using z
          rw [e]
          exact ⟨gi, n5, f1, f2, fun v z => by rw [di] at z; cases z⟩
      obtain ⟨ta, ws, e1, hqt, hl2, gg⟩ := stp x H5 ⟨rfl, fun ys' hy => by rw [I5.list_inj hy hq5]; exact hx⟩
      subst e1
      cases ru
      obtain ⟨tits, trv, ttp, htz⟩ := I6p.tuple hqt
      refine assignH (hotA I6p) (show IsTup h' ta tits.toArray from ttp) (by rw [hn]; simp [← hl2, trv.length]) (hst _) fun h2 hx2 => ?_
      have I7 : Inv (X.blk s3 H3 scope ce [it]) ([qx] ++ [(it, oi)]) (wipe σ (own.map (·.2))) H5 { s5 with heap := h2 } := I6p.kept (t' := s5.toks) fun b o e => hx2 b o (Nat.ne_of_lt (Heap.lt_size e)) e
      refine thnF (pg.run _ _ _ H5 ws _ _ I7 (by simpa using trv) gg) fun _ s8 ⟨σ8, H8, I8, hw8, q8⟩ => ?_
      refine thnF (pt.run _ s8 σ8 H8 _ I8 q8) fun bb s9 ⟨H9, I9, q9⟩ => ?_
      have fin : ∀ {s' : Shared} {H' : Hp}, Inv (X.blk s3 H3 scope ce [it]) ([qx] ++ [(it, oi)]) σ8 H' s' → Nx H' → ∃ m', m' < m ∧ ∃ i H', Inv (X.blk s3 H3 scope ce [it]) [qx] (wipe σ (own.map (·.2))) H' s' ∧ s'.heap.IsListIter it la i ∧ H' it = none ∧ Wk i m' H' := fun {s' H'} I' nx => by
        obtain ⟨m', hm, w'⟩ := hNx H' nx
        have z := I'.pin (it, oi) (List.mem_append_right _ (List.mem_append_right _ List.mem_cons_self))
        have hl8 : (wipe σ (own.map (·.2))).length = σ8.length := by rw [← hw8, wipe_length]
        refine ⟨m', hm, i + 1, H', (I'.unpinned (pins := [qx])).weak hl8 (fun j v e => ?_), ⟨oi, z.1, ci, di⟩, z.2.1, w'⟩
        rw [← hw8] at e
        exact (wipe_some e).1
      cases bb with
      | false =>
        simp only [Bool.false_eq_true, if_false] at q9 ⊢
        exact fin I9 q9
      | true =>
        simp only [if_true] at q9 ⊢
        refine thnF (pe.run _ s9 σ8 H9 _ I9 q9) fun yv s10 ⟨yy, H10, I10, r10, acc, hD10, hz10, nx⟩ => ?_
        exact app_ok (X := X.blk s3 H3 scope ce [it]) I10 hD10 hz10 r10 fun s11 I11 => fin I11 nx
  exact codeAny_compStart_list loop (wpAny_pyIter_listiter li4 loop)
end
end Mi

namespace Mi
open PySem PySem.Spec PyProof.Rows L2 LamX
/-! a lambda called in the def that got it; exceptions without a context -/
def lamXe (X : Cx) (A : Around) (outer : List Env) (s : Shared) (H : Hp) (E : XK) (scope : Scope) (f c' : Addr) : Value → Shared → Prop := fun e s' => wpAny (model X.prog X.w) (A.deeper (lamEnv X scope s.heap.objs.size f c')) (leaving (lamEnv X scope s.heap.objs.size f c') e)
  (fun _ s'' => L2N.CX X.prog X.w outer H s E e s'') (fun e' s'' => L2N.CX X.prog X.w outer H s E e' s'') s'
def lamCy (X : Cx) (A : Around) (outer : List Env) (s : Shared) (H : Hp) (E : XK) (scope : Scope) (f c' : Addr) : Cx := (lamCx X A outer s H E scope f c').wish (lamXe X A outer s H E scope f c')
theorem takes_lam {X : Cx} {A : Around} {outer : List Env} {s : Shared} {H : Hp} {E : XK} {scope : Scope} {f c' : Addr} : L2N.Takes (lamCy X A outer s H E scope f c') (fun cls d _ H => E cls d H) := L2N.takes_of rfl rfl rfl rfl
section
variable {X : Cx} {pins : List (Addr × Obj)} {σ : L2.St} {H HZ : Hp} {s s1 : Shared}
theorem pe_actN {CXg : CXT} {Eg : XK} {Ng : List Str} {qg : Str} {sg : Scope} {g f c' : Addr} {cdg pm ctv : Value} {params : Arguments} {body : Expr} {scope : Scope} {k i : Nat} {a : Str} {pn : List (Addr × Obj)} {xe : Value → Shared → Prop} {W : WX} {E : L2.St → XK} {tb : XK → TE} {p1 p2 : Pos}
    (I : Inv X pins σ H s) (L : LamS X.env.scope scope) (hf : s.heap.get? f = some (PySem.W.kla_obj "<lambda>" (X.env.qual ++ "<lambda>") params body scope (cloFrom X.env.cells scope.names []) pm c' ctv)) (hfn : H f = none) (hfr : f ∉ frs X.stack)
    (hbind : bindArgs (PySem.W.kla_fn "<lambda>" (X.env.qual ++ "<lambda>") params body scope (cloFrom X.env.cells scope.names []) pm (.ref c') ctv) ⟨[], []⟩ = pure [])
    (tk : L2N.Takes ((cxOf CXg X.prog X.w X.K X.mg X.base Ng qg sg g cdg X.A X.stack s H Eg).tr pn xe) W) (hW : ∀ cls d σ' H', E σ' cls d H' → W cls d σ' H') (hr : Room (k + 1) (X.A.deeper (envOfC qg sg s.heap.objs.size g cdg)))
    (hbody : ∀ (A : Around) (outer : List Env) (s : Shared) (H : Hp) (E : XK), Room k (A.deeper (lamEnv X scope s.heap.objs.size f c')) → PE (lamCy X A outer s H E scope f c') body (tb E))
    (hN : Ng[i]? = some a) (hv : Vis sg a) (hd : (a == ("__debug__" : Str)) = false) (hcd : (a == ("__classdict__" : Str)) = false) :
    PE ((cxOf CXg X.prog X.w X.K X.mg X.base Ng qg sg g cdg X.A X.stack s H Eg).tr pn xe) (.Call (.Name a p1) [] [] p2) (fun σZ HZ Q => σZ[i]? = some (some (.ref f)) ∧ HZ c' = some (CodeO c' (X.env.qual ++ "<lambda>")) ∧ tb (E σZ) σ HZ Q) := by
  refine ⟨fun pinsZ sZ σZ HZ Q IZ ⟨hs, hc, ht⟩ => ?_⟩
  refine wpAny_Call_Name_kw (thn ((pe_var (pos := p1) (i := i) hN hv hd hcd).run pinsZ sZ σZ HZ (fun v H1 => v = .ref f ∧ H1 = HZ) IZ ⟨.ref f, hs, rfl, rfl⟩) fun u s1 ⟨v, H1, I1, r1, ev, eH⟩ => ?_)
  subst ev
  rw [eH] at I1
  obtain rfl : u = Value.ref f := r1
  have gf : s1.heap.get? f = some (PySem.W.kla_obj "<lambda>" (X.env.qual ++ "<lambda>") params body scope (cloFrom X.env.cells scope.names []) pm c' ctv) := I1.base.keep f _ hf hfn hfr (fun z => nomatch (show f ∈ ([] : List Addr) from z))
  refine PySem.W.callWith_F0 ⟨_, _, _, _, gf⟩ ?_
  have un : Un (frs X.stack) [] H HZ s.heap s1.heap := I1.base
  obtain ⟨⟨oc, vs, t, hoc, hdc, hvc⟩, _, _⟩ := I1.hok c' _ hc
  have done : codeAny (model X.prog X.w) (X.A.deeper (envOfC qg sg s.heap.objs.size g cdg)) (.call (.ref f) ⟨[], []⟩) (CR (L2N.CX X.prog X.w) (envOfC qg sg s.heap.objs.size g cdg :: X.stack) X.prog X.w HZ s1 Q (E σZ)) s1 := by
    refine PySem.W.kla_callFunE hr.depth gf rfl L.co L.gen rfl ⟨c', oc, vs, t, rfl, hoc, hdc, hvc⟩ ?_
    rw [hbind]
    refine wpAny_pure (wpAny_newFunctionEnv (fun y hy => (L.own y hy).2) (fun y hy => absurd hy (by simp)) (fun h1 hns hsb => ⟨I1.nolimit.fresh _ hsb, ?_⟩) L.kind)
    show codeAny _ _ (.expr body (lamEnv X scope s1.heap.objs.size f c')) _ _
    have kp : ∀ b o, s1.heap.get? b = some o → h1.get? b = some o := fun b o e => hsb.extBut b o (Nat.ne_of_lt (Heap.lt_size e)) (Heap.get?_push_of_some _ e)
    have J0 : Inv (lamCx X (X.A.deeper (envOfC qg sg s.heap.objs.size g cdg)) (envOfC qg sg s.heap.objs.size g cdg :: X.stack) s1 HZ (E σZ) scope f c') [] σ HZ { s1 with heap := h1, toks := s1.toks + ([] : List (Str × Value)).length } := lam_start2 I L I1.env0 hr.hd un hns kp
    have J : Inv (lamCy X (X.A.deeper (envOfC qg sg s.heap.objs.size g cdg)) (envOfC qg sg s.heap.objs.size g cdg :: X.stack) s1 HZ (E σZ) scope f c') [] σ HZ { s1 with heap := h1, toks := s1.toks + ([] : List (Str × Value)).length } := J0.wish _
    refine PySem.W.kla_codeExpr (wpAny_mono ((hbody _ _ s1 HZ _ (hr.deeper _)).run [] _ _ HZ Q J ht) (fun v s' ⟨w', H', J', rv, q⟩ => ?_) fun e s' hq => hq)
    exact ⟨w', H', J'.os, J'.bare, J'.base, J'.hok, rv, q⟩
  refine wpAny_call (codeAny_mono done fun r s' hq => ?_)
  cases r with
  | error e => exact tk _ _ (L2N.XE.of_call I1 (fun cls d H' z => hW cls d σZ H' z) hq)
  | ok fl =>
    cases fl with
    | ret u => exact I1.after hq
    | next => exact False.elim hq
    | brk => exact False.elim hq
    | cont => exact False.elim hq
/-- a lambda is made; what was free and is none now was none -/
theorem lam_makeD {T : List (Addr × Str)} {c P : Addr} {params : Arguments} {body : Expr} {scope : Scope} {pos : Pos} {E : Value → Shared → Prop} {Q : Value → Shared → Prop} (I : Inv X pins σ H s) (TB : TabB X.base X.mg c P) (hcode : X.env.code = .ref c)
    (hm : (P, X.env.qual ++ "<lambda>") ∈ T) (hu : ∀ p ∈ T, p.1 = P → p.2 = X.env.qual ++ "<lambda>") (hT : Tabs T H) (hdef : defaultsOf params X.env = ([], [])) (hfree : ∀ y ∈ scope.names, y.2 = .free → ∃ c, X.env.cells.lookup y.1 = some c)
    (h : ∀ (f c' : Addr) (pm ctv : Value) (H1 : Hp) (s' : Shared), Inv X pins σ H1 s' → ExtN H H1 → Tabs T H1 → (∀ a, H1 a = none → H a = none) →
      s'.heap.get? f = some (PySem.W.kla_obj "<lambda>" (X.env.qual ++ "<lambda>") params body scope (cloFrom X.env.cells scope.names []) pm c' ctv) → H1 f = none → f ∉ frs X.stack → H1 c' = some (CodeO c' (X.env.qual ++ "<lambda>")) → Q (.ref f) s') :
    wpAny (model X.prog X.w) X.A (eval (.Lambda params body scope pos) X.env) Q E s := by
  obtain ⟨tbl, gP, tOk, tAll⟩ := hT _ hm
  have bm := TB.bm.keeps I.bk
  have hP' : s.heap.get? P = some { cls := .none, data := .fields tbl } := I.hok P _ gP
  have out : ∀ f, s.heap.objs.size ≤ f → f ∉ frs X.stack := fun f hf z => (List.mem_cons.mp (I.stkSub _ z)).elim (fun e => absurd (Nat.lt_of_lt_of_le (e ▸ I.lt) hf) (Nat.lt_irrefl _)) (fun e => I.nofs hf e)
  refine PySem.W.kla_eval hdef ?_
  cases hc : codeAmong pos tbl.toList with
  | some cv =>
    obtain ⟨c', e, hco⟩ := tAll pos cv hc
    subst e
    refine PySem.W.kla_makeFunctionHit (mg := X.mg) (c := c) (P := P) (ps := tbl) (closure_ok hfree) I.ok.glob (I.mod.glob.keeps I.bk) hcode (TB.code.keeps I.bk) hP' tOk hc bm fun ctv h' tk up big => ?_
    exact h h'.objs.size c' ((X.mg "__name__").getD .none) ctv H _ (I.kept fun b o e => Heap.get?_push_of_some _ (up b o e)) (ExtN.refl H) hT (fun _ z => z) (Heap.get?_push_size _ rfl) (I.hok.fresh big) (out _ big) hco
  | none =>
    refine PySem.W.kla_makeFunction (mg := X.mg) (c := c) (P := P) (ps := tbl) (closure_ok hfree) I.ok.glob (I.mod.glob.keeps I.bk) hcode (TB.code.keeps I.bk) hP' tOk hc TB.gP bm fun c' ctv h' tk up hge hlt rcd htb => ?_
    obtain ⟨c2, oc, vs, t, e2, hoc, hd, hv⟩ := rcd
    cases e2
    have big : s.heap.objs.size ≤ h'.objs.size := Nat.le_trans hge (Nat.le_of_lt hlt)
    have nC : H c' = none := I.hok.fresh hge
    have I1 := inv_table (t' := tk) (more := #[rawInt pos.line, rawInt pos.col, .ref c']) (h' := h'.push (PySem.W.kla_obj "<lambda>" (X.env.qual ++ "<lambda>") params body scope (cloFrom X.env.cells scope.names []) ((X.mg "__name__").getD .none) c' ctv)) I gP
      (fun b o hb e => Heap.get?_push_of_some _ (up b o hb e)) (Heap.get?_push_of_some _ htb) hge ⟨oc, vs, t, Heap.get?_push_of_some _ hoc, hd, hv⟩
    have hE : ExtN H (upd (upd H P (.tbl (tbl ++ #[rawInt pos.line, rawInt pos.col, .ref c']))) c' (CodeO c' (X.env.qual ++ "<lambda>"))) := fun b o e n => by
      have n1 : b ≠ P := fun z => by rw [z, gP] at e; exact n tbl (Option.some.inj e).symm
      rw [upd_ne (ne_of_none e nC), upd_ne n1]
      exact e
    have eL : (tbl ++ #[rawInt pos.line, rawInt pos.col, .ref c']).toList = tbl.toList ++ [rawInt pos.line, rawInt pos.col, .ref c'] := by simp
    refine h h'.objs.size c' ((X.mg "__name__").getD .none) ctv _ _ I1 hE (fun p hp => ?_) (fun b z => ?_) (Heap.get?_push_size _ rfl) ?_ (out _ big) upd_same
    · by_cases hb : p.1 = P
      · rw [hu p hp hb, hb]
        refine ⟨_, by rw [upd_ne (ne_of_none gP nC), upd_same], by rw [eL]; exact PySem.TriplesOk_snoc _ _ _ _ tOk, fun p' cv hcv => ?_⟩
        rw [eL] at hcv
        rcases among_app _ tOk hcv with z | z
        · obtain ⟨c0, e1, e2⟩ := tAll p' cv z
          exact ⟨c0, e1, hE _ _ e2 codeO_ne⟩
        · exact ⟨c', z, upd_same⟩
      · obtain ⟨tb', a1, a2, a3⟩ := hT p hp
        refine ⟨tb', by rw [upd_ne (ne_of_none a1 nC), upd_ne hb]; exact a1, a2, fun p' cv hcv => ?_⟩
        obtain ⟨c0, e1, e2⟩ := a3 p' cv hcv
        exact ⟨c0, e1, hE _ _ e2 codeO_ne⟩
    · by_cases h1 : b = c'
      · rw [h1, upd_same] at z; cases z
      · rw [upd_ne h1] at z
        by_cases h2 : b = P
        · rw [h2, upd_same] at z; cases z
        · rw [upd_ne h2] at z; exact z
    · have n1 : h'.objs.size ≠ c' := Nat.ne_of_gt hlt
      have n2 : h'.objs.size ≠ P := Nat.ne_of_gt (Nat.lt_of_lt_of_le (Heap.lt_size hP') big)
      rw [upd_ne n1, upd_ne n2]
      exact I.hok.fresh big
end
end Mi

namespace Mi
open PySem PySem.Spec PyProof.Rows L2
/-! the suite of an except clause that tells the words of the classes -/
def cPair (S : Sc) (ev : Str) : Expr → Option (Str × Str)
  | .Tuple [.Constant (.str w) _ _, .Call (.Name f _) [.Name y _, .Name c _] [] _] _ _ => if f = "isinstance" then (if y = ev then chk (glX S "isinstance" && glX S c && !oddName c) (some (w, c)) else none) else none
  | _ => none
def cPairs (S : Sc) (ev : Str) : List Expr → Option (List (Str × Str))
  | [] => some []
  | e :: es => map2 List.cons (cPair S ev e) (cPairs S ev es)
def cPL (S : Sc) (ev sv : Str) (acc : Option (List (Str × Str))) : Expr → Option (List (Str × Str))
  | .List es _ => cPairs S ev es
  | .Name y _ => if y = sv then acc else none
  | .BinOp (.Name y _) .Add (.List es _) _ => if y = sv then map2 (· ++ ·) acc (cPairs S ev es) else none
  | _ => none
/-- what the suite holds: slots of the exception and of the pairs -/
structure SuE where
  S : Sc
  ev : Str
  sv : Str
  ie : Nat
  iv : Nat
  cls : List Str
def few (cls : List Str) (o : Option (List (Str × Str))) : Option (List (Str × Str)) := match o with
  | some ps => chk (decide (ps.length ≤ 1000) && ps.all fun p => cls.contains p.2) (some ps)
  | none => none
def cSuRet (Z : SuE) (acc : Option (List (Str × Str))) : Expr → Option (List (Str × Str))
  | .Call (.Attribute (.Constant (.str z) _ _) m apos) [.ListComp (.Name w _) [⟨.Tuple [.Name w' _, .Name b _] _ _, it, [.Name b' _], a⟩] scope _] [] cpos =>
    if m = "join" ∧ z = Str.empty ∧ w' = w ∧ b' = b ∧ a = 0 then
      chk (apos.endLine == cpos.line && notSet it && blkC Z.S.N Z.S.sc scope (ownOf Z.S.N scope.names) && visX (Z.S.blk scope) w && visX (Z.S.blk scope) b && locX (Z.S.blk scope) w && locX (Z.S.blk scope) b && !oddName w && !oddName b)
        (match ixOf Z.S.N w, ixOf Z.S.N b with
          | some iw, some ib => chk (decide (iw ≠ ib) && subN [iw, ib] ((ownOf Z.S.N scope.names).map (·.2))) (few Z.cls (cPL Z.S Z.ev Z.sv acc it))
          | _, _ => none)
    else none
  | _ => none
def cSu (Z : SuE) : Option (List (Str × Str)) → List Stmt → Option (List (Str × Str))
  | acc, [.Return (some e) _] => cSuRet Z acc e
  | acc, .Assign [.Name y _] e _ :: rest => if y = Z.sv then (match few Z.cls (cPL Z.S Z.ev Z.sv acc e) with
      | some ps => cSu Z (some ps) rest
      | none => none) else none
  | _, _ => none
def plD (isx : Str → Bool) (ps : List (Str × Str)) : List D := ps.map fun p => .tuple [.str p.1, .bool (isx p.2)]
def wordsOf (isx : Str → Bool) (ps : List (Str × Str)) : List Str := (ps.filter fun p => isx p.2).map (·.1)
def wordOf (isx : Str → Bool) (ps : List (Str × Str)) : Str := Txt.join Str.empty (wordsOf isx ps)
def wP {α : Type} (P : L2.St → Prop) (t : L2.St → Hp → α → Prop) : L2.St → Hp → α → Prop := fun σ H Q => P σ ∧ t σ H Q
section
variable {X : Cx} {g : G} {B : Addr → Prop} {W : WX} {P : L2.St → Prop} {a b : Expr} {fa fb : Ev} {pos : Pos}
theorem x_of {t : TE} {e : Expr} (h : PE X e t) : PE X e (wP P t) := ⟨fun pins s σ H Q I z => h.run pins s σ H Q I z.2⟩
theorem x_nil : PA X [] (wP P (tA g B W aNil)) := ⟨fun pos pins s σ H Q I z => (a_nil (X := X) (g := g) (B := B) (W := W)).run pos pins s σ H Q I z.2⟩
theorem x_cons {es : List Expr} {r : Av} (ha : PE X a (wP P (tF g B W fa))) (hr : PA X es (wP P (tA g B W r))) (hs : starEach (a :: es) X.env = (false, eval a X.env) :: starEach es X.env) : PA X (a :: es) (wP P (tA g B W (aCons fa r))) := by
  refine ⟨fun pos pins s σ H Q I ⟨hp, ρ, c, st, h⟩ => (pa_cons ha hr hs).run pos pins s σ H Q I ⟨hp, ?_⟩⟩
  refine post_of st (Post.bd (R1 := RD g B) h) fun v H1 ⟨x, c1, r1, a1, h1⟩ => ?_
  refine ⟨hp, ρ, c1, st.after a1, (Post.bd (R1 := RDs g B) h1).mono fun vs H2 ⟨xs, c2, r2, a2, h2⟩ => ?_⟩
  exact h2 _ _ ⟨Per.refl, a2.cup, a2.tabs, fun _ z => z⟩ (.cons (r1.after a2 st.cb) r2)
theorem x_tup {es : List Expr} {r : Av} {k : Nat} (h : PA X es (wP P (tA g B W r))) : PE X (.Tuple es k pos) (wP P (tF g B W (eTup r))) := by
  refine ⟨fun pins s σ H Q I ⟨hp, ρ, c, st, hh⟩ => (pe_tup h).run pins s σ H Q I ⟨hp, ?_⟩⟩
  refine ⟨ρ, c, st, (Post.bd (R1 := RDs g B) hh).mono fun vs H1 ⟨xs, c1, r1, a1, h1⟩ => ?_⟩
  obtain ⟨z, h2⟩ := post_if h1
  exact ⟨by rw [r1.length]; exact z, fun p hn => h2 _ _ ((st.after a1).new hn) ((st.after a1).h.newTup hn r1)⟩
theorem x_lst {es : List Expr} {r : Av} (h : PA X es (wP P (tA g B W r))) : PE X (.List es pos) (wP P (tF g B W (eLst r))) := by
  refine ⟨fun pins s σ H Q I ⟨hp, ρ, c, st, hh⟩ => (pe_lst h).run pins s σ H Q I ⟨hp, ?_⟩⟩
  refine ⟨ρ, c, st, (Post.bd (R1 := RDs g B) hh).mono fun vs H1 ⟨xs, c1, r1, a1, h1⟩ => ?_⟩
  obtain ⟨z, h2⟩ := post_if h1
  exact ⟨by rw [r1.length]; exact z, fun p hn => h2 _ _ ((st.after a1).new hn) ((st.after a1).h.newList hn r1)⟩
theorem x_add (ha : PE X a (wP P (tF g B W fa))) (hb : PE X b (wP P (tF g B W fb))) : PE X (.BinOp a .Add b pos) (wP P (tF g B W (eBin .Add fa fb))) := by
  refine ⟨fun pins s σ H Q I ⟨hp, ρ, c, st, h⟩ => (pe_op (op_binD (g := g) (B := B) (o := .Add) rfl) ha hb).run pins s σ H Q I ⟨hp, ?_⟩⟩
  refine post_of st (Post.bd (R1 := RD g B) h) fun v H1 ⟨x, c1, r1, a1, h1⟩ => ⟨hp, ?_⟩
  refine post_of (st.after a1) (Post.bd (R1 := RD g B) h1) fun w H2 ⟨y, c2, r2, a2, h2⟩ => ?_
  obtain ⟨z, e, q⟩ := post_ofO h2
  exact ⟨x, y, z, c2, ((st.after a1).after a2).h, r1.after a2 st.cb, r2, e, q⟩
/-- a value told by a function that gives it wherever it stands -/
theorem x_is {e : Expr} {f : Ev} {d : D} (h : PE X e (wP P (tF g B W f))) (hf : ∀ ρ c, f ρ c = .ok d c) : PE X e (wP P (tF g B W (eCst d))) :=
  ⟨fun pins s σ H Q I ⟨hp, ρ, c, st, q⟩ => h.run pins s σ H Q I ⟨hp, ρ, c, st, by rw [hf]; exact q⟩⟩
theorem xa_is {es : List Expr} {f : Av} {ds : List D} (h : PA X es (wP P (tA g B W f))) (hf : ∀ ρ c, f ρ c = .ok ds c) : PA X es (wP P (tA g B W fun _ => rt ds)) :=
  ⟨fun pos pins s σ H Q I ⟨hp, ρ, c, st, q⟩ => h.run pos pins s σ H Q I ⟨hp, ρ, c, st, by rw [hf]; exact q⟩⟩
end
/-- the suite's block: the exception of the class at Cd stands at a -/
structure XY (g : G) (Z : SuE) (Y : Cx) (a Cd : Addr) (isx : Str → Bool) : Prop where
  N : Y.N = Z.S.N
  nd : Z.S.N.Nodup
  scope : Y.env.scope = Z.S.sc
  fn : Y.fn = Z.S.fc
  mg : Y.mg = g.mg
  hot : L2H.HotC Y
  isi : CallR Y (.builtin "isinstance") (rIsE Y.K Cd a)
  free : g.mg "isinstance" = none
  kit : ∀ x ∈ Z.cls, ∃ C, g.mg x = some (.ref C) ∧ PySem.W.kitOne Y.K (.ref Cd) (.ref C) = some (isx x)
  ie : Y.N[Z.ie]? = some Z.ev
  iv : Y.N[Z.iv]? = some Z.sv
  ev : Vis Y.env.scope Z.ev
  sv : Vis Y.env.scope Z.sv
  lv : Loc Y.env.scope Z.sv ∧ (Y.fn Z.sv = true ∨ Y.env.scope.names.lookup Z.sv = some .local)
  oe : oddName Z.ev = false
  ov : oddName Z.sv = false
  ne : Z.ie ≠ Z.iv
  kind : Y.env.scope.kind = .function
section
variable {Y : Cx} {g : G} {B : Addr → Prop} {Z : SuE} {a Cd : Addr} {isx : Str → Bool} {pos : Pos}
theorem XY.gl (I : XY g Z Y a Cd isx) {x : Str} (h : glX Z.S x = true) : Gl Y x := by
  show Y.env.scope.names.lookup x = _
  rw [I.scope]
  unfold glX at h
  split at h
  · assumption
  · cases h
def Pe (Z : SuE) (a : Addr) : L2.St → Prop := fun σ => σ[Z.ie]? = some (some (.ref a))
theorem x_isa (I : XY g Z Y a Cd isx) {c : Str} {p p1 p2 : Pos} (hc : c ∈ Z.cls) (hg : glX Z.S "isinstance" = true) (hgc : glX Z.S c = true) (ho : oddName c = false) :
    PE Y (.Call (.Name "isinstance" p) [.Name Z.ev p1, .Name c p2] [] pos) (wP (Pe Z a) (tF g B W0 (eCst (.bool (isx c))))) := by
  obtain ⟨o1, o2, o3⟩ := odd_of ho
  obtain ⟨e1, e2, e3⟩ := odd_of I.oe
  obtain ⟨C, m1, m2⟩ := I.kit c hc
  refine ⟨fun pins s σ H Q J ⟨hp, ρ, cc, st, h⟩ => (pe_callB I.isi (I.gl hg) (by rw [I.mg]; exact I.free) (by decide +kernel) (pa_cons (pe_var I.ie I.ev e1 e2) (pa_cons (pe_glob (v := .ref C) (I.gl hgc) (by rw [I.mg]; exact m1) rfl o1) pa_nil)) (by decide) (by decide) rfl rfl).run pins s σ H Q J ?_⟩
  exact ⟨.ref a, hp, .ref C, .ref C, isx c, rfl, fun u hu => hu, m2, h _ _ st.refl (.bl _)⟩
theorem x_pair (I : XY g Z Y a Cd isx) {e : Expr} {w c : Str} (h : cPair Z.S Z.ev e = some (w, c)) (hc : c ∈ Z.cls) : PE Y e (wP (Pe Z a) (tF g B W0 (eCst (.tuple [.str w, .bool (isx c)])))) ∧ isStar e = false := by
  unfold cPair at h
  split at h
  · rename_i w' j jp f fp y yp c' cp cpos kk tp
    by_cases hf : f = "isinstance"
    · rw [if_pos hf] at h
      by_cases hy : y = Z.ev
      · rw [if_pos hy] at h
        obtain ⟨h1, h2⟩ := chk_some h
        simp only [Bool.and_eq_true, Bool.not_eq_true'] at h1
        cases h2
        subst hf; subst hy
        refine ⟨x_is (x_tup (x_cons (x_of (s_cst (d := .str w) rfl)) (x_cons (x_isa I hc h1.1.1 h1.1.2 h1.2) x_nil rfl) rfl)) fun ρ c => ?_, rfl⟩
        rfl
      · rw [if_neg hy] at h; cases h
    · rw [if_neg hf] at h; cases h
  · cases h
theorem x_pairs (I : XY g Z Y a Cd isx) : ∀ {es : List Expr} {ps : List (Str × Str)}, cPairs Z.S Z.ev es = some ps → (∀ p ∈ ps, p.2 ∈ Z.cls) → PA Y es (wP (Pe Z a) (tA g B W0 fun _ => rt (plD isx ps)))
  | [], ps, h, _ => by cases h; exact xa_is x_nil fun _ _ => rfl
  | e :: es, ps, h, hc => by
    obtain ⟨⟨w, c⟩, r, e1, e2, rfl⟩ := map2_some h
    obtain ⟨q1, q2⟩ := x_pair (B := B) I e1 (hc _ List.mem_cons_self)
    exact xa_is (x_cons q1 (x_pairs I e2 fun p hp => hc p (List.mem_cons_of_mem _ hp)) (star_cons q2)) fun _ _ => rfl
theorem few_some {cl : List Str} {o : Option (List (Str × Str))} {ps : List (Str × Str)} (h : few cl o = some ps) : o = some ps ∧ ps.length ≤ 1000 ∧ ∀ p ∈ ps, p.2 ∈ cl := by
  unfold few at h
  cases o with
  | none => cases h
  | some qs =>
    obtain ⟨h1, h2⟩ := chk_some h
    cases h2
    simp only [Bool.and_eq_true, decide_eq_true_eq, List.all_eq_true, List.contains_iff_mem] at h1
    exact ⟨rfl, h1.1, h1.2⟩
theorem pl_len (ps : List (Str × Str)) : (plD isx ps).length = ps.length := List.length_map ..
theorem size_1000 {n : Nat} (h : n ≤ 1000) : n ≤ sizeLine := Nat.le_trans h (by rw [sizeLine_eq]; decide)
theorem x_pl (I : XY g Z Y a Cd isx) {acc : Option (List (Str × Str))} {e : Expr} {ps : List (Str × Str)} (h : cPL Z.S Z.ev Z.sv acc e = some ps) (hc : ∀ p ∈ ps, p.2 ∈ Z.cls) (hl : ps.length ≤ 1000) :
    ∃ f : Ev, PE Y e (wP (Pe Z a) (tF g B W0 f)) ∧ ∀ ρ c, (∀ ps0, acc = some ps0 → ρ[Z.iv]? = some (.d (.list (plD isx ps0)))) → f ρ c = .ok (.list (plD isx ps)) c := by
  obtain ⟨e1, e2, e3⟩ := odd_of I.ov
  unfold cPL at h
  split at h
  · refine ⟨_, x_lst (x_pairs I h hc), fun ρ c _ => ?_⟩
    show (if (plD isx ps).length ≤ sizeLine then rt (.list (plD isx ps)) else no : M D) c = _
    rw [if_pos (by rw [pl_len]; exact size_1000 hl)]
    rfl
  · rename_i y p
    by_cases hy : y = Z.sv
    · rw [if_pos hy] at h
      subst hy
      refine ⟨_, x_of (s_var I.iv I.sv e1 e2), fun ρ c q => ?_⟩
      show (match ρ[Z.iv]? with | some (.d x) => rt x | some (.box xs) => rt (.list xs) | _ => no : M D) c = _
      rw [q ps h]
      rfl
    · rw [if_neg hy] at h; cases h
  · rename_i y p es p2 p3
    by_cases hy : y = Z.sv
    · rw [if_pos hy] at h
      subst hy
      obtain ⟨ps0, ps1, h0, h1, rfl⟩ := map2_some h
      refine ⟨_, x_add (x_of (s_var I.iv I.sv e1 e2)) (x_lst (x_pairs I h1 fun p hp => hc p (List.mem_append_right _ hp))), fun ρ c q => ?_⟩
      have l1 : ps1.length ≤ 1000 := by rw [List.length_append] at hl; omega
      have v1 : eVar Z.iv ρ c = .ok (.list (plD isx ps0)) c := by
        show (match ρ[Z.iv]? with | some (.d x) => rt x | some (.box xs) => rt (.list xs) | _ => no : M D) c = _
        rw [q ps0 h0]
        rfl
      have v2 : eLst (fun _ => rt (plD isx ps1)) ρ c = .ok (.list (plD isx ps1)) c := by
        show (if (plD isx ps1).length ≤ sizeLine then rt (.list (plD isx ps1)) else no : M D) c = _
        rw [if_pos (by rw [pl_len]; exact size_1000 l1)]
        rfl
      unfold eBin bd
      rw [v1]
      simp only
      rw [v2]
      simp only
      have v3 : binD .Add (.list (plD isx ps0)) (.list (plD isx ps1)) = some (.list (plD isx (ps0 ++ ps1))) := by
        show (if (plD isx ps0).length + (plD isx ps1).length ≤ sizeLine then some (PyData.list (plD isx ps0 ++ plD isx ps1)) else none) = _
        rw [if_pos (by rw [pl_len, pl_len, ← List.length_append]; exact size_1000 hl)]
        unfold plD
        rw [List.map_append]
      rw [v3]
      rfl
    · rw [if_neg hy] at h; cases h
  · cases h
theorem cup_one {c c' : Cp} {H : Hp} (h1 : CupOK g c H) (h2 : CupOK g c' H) : c = c' := by
  unfold CupOK at h1 h2
  cases hg : g.ca with
  | none =>
    rw [hg] at h1 h2
    cases c <;> cases c' <;> first
      | rfl
      | exact h1.elim
      | exact h2.elim
  | some p =>
    rw [hg] at h1 h2
    cases c with
    | none => exact h1.elim
    | some x =>
      cases c' with
      | none => exact h2.elim
      | some y =>
        obtain ⟨i, j⟩ := x
        obtain ⟨k, l⟩ := y
        have e := (show H p = _ from h1).symm.trans (show H p = _ from h2)
        cases e
        rfl
theorem words_go {ρ : En} {own : List Nat} {iw ib : Nat} (hne : iw ≠ ib) (hw : iw < ρ.length) (hb : ib < ρ.length) : ∀ (ps : List (Str × Str)) (c : Cp),
    lcGo (step1 (wipeE ρ own) (.tp [iw, ib]) (tOf (eVar ib)) (eVar iw)) (plD isx ps) c = .ok ((wordsOf isx ps).map .str) c
  | [], c => rfl
  | (w, k) :: ps, c => by
    have len : (wipeE ρ own).length = ρ.length := wipeE_length own
    have gi : ((setAll (wipeE ρ own) [iw, ib] [.str w, .bool (isx k)]))[ib]? = some (.d (.bool (isx k))) := by
      show (((wipeE ρ own).set iw (.d (.str w))).set ib (.d (.bool (isx k))))[ib]? = _
      rw [List.getElem?_set_self (by rw [List.length_set, len]; exact hb)]
    have gw : ((setAll (wipeE ρ own) [iw, ib] [.str w, .bool (isx k)]))[iw]? = some (.d (.str w)) := by
      show (((wipeE ρ own).set iw (.d (.str w))).set ib (.d (.bool (isx k))))[iw]? = _
      rw [List.getElem?_set_ne (fun e => hne e.symm), List.getElem?_set_self (by rw [len]; exact hw)]
    have st : step1 (wipeE ρ own) (.tp [iw, ib]) (tOf (eVar ib)) (eVar iw) (.tuple [.str w, .bool (isx k)]) c = .ok (if isx k then [.str w] else []) c := by
      show bd (tOf (eVar ib) (setAll (wipeE ρ own) [iw, ib] [.str w, .bool (isx k)])) _ c = _
      have t1 : tOf (eVar ib) (setAll (wipeE ρ own) [iw, ib] [.str w, .bool (isx k)]) c = .ok (isx k) c := by
        unfold tOf eVar bd
        rw [gi]
        rfl
      unfold bd
      rw [t1]
      simp only
      cases hk : isx k with
      | false => rfl
      | true =>
        rw [hk] at gw
        simp only [if_true]
        unfold eVar
        rw [gw]
        rfl
    show bd (step1 (wipeE ρ own) (.tp [iw, ib]) (tOf (eVar ib)) (eVar iw) (.tuple [.str w, .bool (isx k)])) (fun l => bd (lcGo _ (plD isx ps)) fun r => rt (l ++ r)) c = _
    unfold bd
    rw [st]
    simp only
    rw [words_go hne hw hb ps c]
    unfold wordsOf
    rw [List.filter_cons]
    cases isx k <;> rfl
theorem rows_str {H : Hp} : ∀ {ys : List Str} {vs : List V}, RpA g B H vs (ys.map .str) → vs = ys.map V.str
  | [], _, r => by cases r; rfl
  | y :: ys, _, r => by
    cases r with
    | cons r1 r2 => cases r1; rw [rows_str r2]; rfl
def tSu (Z : SuE) (a : Addr) (isx : Str → Bool) (g : G) (B : Addr → Prop) (acc : Option (List (Str × Str))) (ps : List (Str × Str)) : TS := fun D σ H => Pe Z a σ ∧ ∃ ρ c, StOK g B ρ c σ H ∧ (∀ ps0, acc = some ps0 → ρ[Z.iv]? = some (.d (.list (plD isx ps0)))) ∧
  ∀ v H', After g H H' c → Rp g B H' v (.str (wordOf isx ps)) → D.rt v H'
def sizesOK (ps : List (Str × Str)) : Bool := decide ((ps.map fun p => p.1.length).sum ≤ 16777216)
theorem sum_words (isx : Str → Bool) : ∀ ps : List (Str × Str), ((wordsOf isx ps).map (·.length)).sum ≤ (ps.map fun p => p.1.length).sum
  | [] => Nat.le_refl _
  | p :: ps => by
    have ih := sum_words isx ps
    unfold wordsOf at ih ⊢
    rw [List.filter_cons]
    by_cases h : isx p.2 = true
    · rw [if_pos h]
      simp only [List.map_cons, List.sum_cons]
      omega
    · rw [if_neg h]
      simp only [List.map_cons, List.sum_cons]
      omega
theorem su_ret (I : XY g Z Y a Cd isx) {acc : Option (List (Str × Str))} {e : Expr} {ps : List (Str × Str)} (h : cSuRet Z acc e = some ps) (hz : sizesOK ps = true) : PS Y (.Return (some e) pos) (tSu Z a isx g B acc ps) := by
  unfold cSuRet at h
  split at h
  · rename_i z j zp m apos w wp w' wp' b bp kk tp it b' bp' asn scope lp cpos
    by_cases hq : m = "join" ∧ z = Str.empty ∧ w' = w ∧ b' = b ∧ asn = 0
    · rw [if_pos hq] at h
      obtain ⟨h1, h2, h3, h4, h5⟩ := hq
      subst h1; subst h2; subst h3; subst h4; subst h5
      obtain ⟨k1, k2⟩ := chk_some h
      simp only [Bool.and_eq_true, Bool.not_eq_true'] at k1
      obtain ⟨⟨⟨⟨⟨⟨⟨⟨q1, q2⟩, q3⟩, q4⟩, q5⟩, q6⟩, q7⟩, q8⟩, q9⟩ := k1
      cases ew : ixOf Z.S.N w' with
      | none => rw [ew] at k2; cases k2
      | some iw =>
        cases eb : ixOf Z.S.N b' with
        | none => rw [ew, eb] at k2; cases k2
        | some ib =>
          rw [ew, eb] at k2
          obtain ⟨c1, c2⟩ := chk_some k2
          simp only [Bool.and_eq_true, decide_eq_true_eq] at c1
          obtain ⟨c2, hl, hc⟩ := few_some c2
          obtain ⟨f, pf, hf⟩ := x_pl (B := B) I c2 hc hl
          obtain ⟨w1, w2, w3⟩ := odd_of q8
          obtain ⟨b1, b2, b3⟩ := odd_of q9
          -- names of the block
          have bsc : ∀ (s : Shared) (H : Hp) (C : Addr) (cl : List (Str × Addr)) (fp : List Addr), (Y.blk s H scope (compEnvC scope cl C Y.env) fp).env.scope = (Z.S.blk scope).sc := fun s H C cl fp => by
            show relS scope Y.env.scope = relS scope Z.S.sc
            rw [I.scope]
          have vis : ∀ (x : Str), visX (Z.S.blk scope) x = true → ∀ (s : Shared) (H : Hp) (C : Addr) (cl : List (Str × Addr)) (fp : List Addr), Vis (Y.blk s H scope (compEnvC scope cl C Y.env) fp).env.scope x := fun x hx s H C cl fp => by
            rw [bsc]
            unfold visX at hx
            split at hx
            · exact .inl (by assumption)
            · exact .inr (.inl (by assumption))
            · exact .inr (.inr (by assumption))
            · cases hx
          have loc : ∀ (x : Str), locX (Z.S.blk scope) x = true → ∀ (s : Shared) (H : Hp) (C : Addr) (cl : List (Str × Addr)) (fp : List Addr), Loc (Y.blk s H scope (compEnvC scope cl C Y.env) fp).env.scope x ∧ ((Y.blk s H scope (compEnvC scope cl C Y.env) fp).fn x = true ∨ (Y.blk s H scope (compEnvC scope cl C Y.env) fp).env.scope.names.lookup x = some .local) := fun x hx s H C cl fp => by
            rw [bsc]
            unfold locX at hx
            split at hx
            · exact ⟨.inl (by assumption), .inr (by assumption)⟩
            · exact ⟨.inr (by assumption), .inl hx⟩
            · cases hx
          have ndY : Y.N.Nodup := by rw [I.N]; exact I.nd
          have nw : Y.N[iw]? = some w' := by rw [I.N]; exact ixOf_some ew
          have nb : Y.N[ib]? = some b' := by rw [I.N]; exact ixOf_some eb
          have lc := pe_lcH (pos := lp) (kk := kk) (tp := tp) (X := Y) (n := 2) (tg := gNames [iw, ib]) (es := [.Name w' wp', .Name b' bp]) (ifs := [.Name b' bp']) (elt := .Name w' wp) (own := ownOf Z.S.N scope.names) (tt := xT g (tOf (eVar ib))) (te := xF g (eVar iw)) I.hot ndY pf
            (by rw [I.N, I.scope]; exact blkOk_by q3)
            (fun s H C cl fp => pgs_cons (pg_name (X := Y.blk s H scope (compEnvC scope cl C Y.env) fp) ndY nw (loc w' q6 s H C cl fp).1 (loc w' q6 s H C cl fp).2) (pgs_cons (pg_name (X := Y.blk s H scope (compEnvC scope cl C Y.env) fp) ndY nb (loc b' q7 s H C cl fp).1 (loc b' q7 s H C cl fp).2) pgs_nil rfl) rfl)
            (fun _ => rfl) (fun _ => rfl)
            (fun s H C cl fp => PTs.ex fun B => pts_one (t_val (s_var (X := Y.blk s H scope (compEnvC scope cl C Y.env) fp) nb (vis b' q5 s H C cl fp) b1 b2) fun _ => rfl))
            (fun s H C cl fp => PE.ex fun B => s_var (X := Y.blk s H scope (compEnvC scope cl C Y.env) fp) nw (vis w' q4 s H C cl fp) w1 w2) (notSet_ok q2 Y.env)
          refine ⟨fun pins s σ H D J ⟨hp, ρ, c, st, ha, q⟩ => (ps_ret (pe_join pe_str lc rfl rfl q1)).run pins s σ H D J ⟨⟨_, rfl⟩, ?_⟩⟩
          have lenρ : ρ.length = Y.N.length := st.len.trans J.len
          have iwl : iw < ρ.length := by rw [lenρ]; exact (List.getElem?_eq_some_iff.mp nw).1
          have ibl : ib < ρ.length := by rw [lenρ]; exact (List.getElem?_eq_some_iff.mp nb).1
          have wl : (wordsOf isx ps).length ≤ 1000 := by
            unfold wordsOf
            rw [List.length_map]
            exact Nat.le_trans (List.length_filter_le ..) hl
          have ev : lcF ((ownOf Z.S.N scope.names).map (·.2)) (.tp [iw, ib]) (fun _ => rt (plD isx ps)) (tOf (eVar ib)) (eVar iw) ρ c = .ok ((wordsOf isx ps).map .str) c := by
            show noErr (bd (lcGo (step1 (wipeE ρ _) (.tp [iw, ib]) (tOf (eVar ib)) (eVar iw)) (plD isx ps)) fun xs => if xs.length ≤ sizeLine then rt xs else no) c = _
            unfold noErr bd
            rw [words_go c1.1 iwl ibl]
            simp only
            rw [if_pos (by rw [List.length_map]; exact size_1000 wl)]
            rfl
          have rd : tL g B W0 (lcF ((ownOf Z.S.N scope.names).map (·.2)) (.tp [iw, ib]) (fun _ => rt (plD isx ps)) (tOf (eVar ib)) (eVar iw)) σ H (fun y H2 => ∃ (aa : Str) (p : Addr) (ys : List Str), V.str Str.empty = .str aa ∧ [y] = [.ref p] ∧ (SqL Y.K H2 p (ys.map V.str) ∨ SqT Y.K H2 p (ys.map V.str)) ∧ (ys.map (·.length)).sum + ys.length * aa.length ≤ 16777216 ∧ D.rt (.str (Txt.join aa ys)) H2) := by
            refine ⟨ρ, c, st, ?_⟩
            rw [ev]
            intro v H2 a2 fr
            obtain ⟨p, vs, rfl, _, e2, r2⟩ := fr
            rw [rows_str r2] at e2
            refine ⟨Str.empty, p, wordsOf isx ps, rfl, rfl, .inl (SqL.of e2), ?_, q _ _ a2 (.str _)⟩
            have s1 := sum_words isx ps
            have s2 := of_decide_eq_true hz
            have s3 : Str.empty.length = 0 := rfl
            rw [s3]
            omega
          have z := lc_read (K := Y.K) (t := .tp [iw, ib]) (fun i hi => subN_ok c1.2 i hi) rd
          obtain ⟨ρ', c', st', pz⟩ := z
          have ec : c' = c := cup_one st'.cup st.cup
          subst ec
          refine ⟨hp, ρ, c', st, ?_⟩
          rw [hf ρ c' ha]
          intro v H1 a1 r1
          cases r1 with
          | lst n e1 ra => exact ⟨_, rfl, ⟨_, SqL.of e1⟩, pz _ _ a1 (yl_list n e1 ra)⟩
    · rw [if_neg hq] at h; cases h
  · cases h
theorem pl_noComp {acc : Option (List (Str × Str))} {e : Expr} {ps : List (Str × Str)} (h : cPL Z.S Z.ev Z.sv acc e = some ps) : isComp e = false := by
  cases e <;> first
    | rfl
    | cases h
theorem pl_noTup {acc : Option (List (Str × Str))} {e : Expr} {ps : List (Str × Str)} {y : Str} {py : Pos} {env : Env} (h : cPL Z.S Z.ev Z.sv acc e = some ps) : swappedStores [.Name y py] e env = pure none := by
  cases e <;> first
    | rfl
    | cases h
theorem su_good (I : XY g Z Y a Cd isx) : ∀ (l : List Stmt) (acc : Option (List (Str × Str))) (ps : List (Str × Str)), cSu Z acc l = some ps → sizesOK ps = true → PSs Y l (tSu Z a isx g B acc ps)
  | [], acc, ps, h, _ => by cases h
  | st :: rest, acc, ps, h, hz => by
    unfold cSu at h
    split at h
    · rename_i acc' e p heq
      cases heq
      exact pss_one (su_ret I h hz)
    · rename_i y py e p rest' heq
      cases heq
      by_cases hy : y = Z.sv
      · rw [if_pos hy] at h
        subst hy
        split at h
        · rename_i ps1 ef
          obtain ⟨e1, hl, hc⟩ := few_some ef
          obtain ⟨f, pf, hf⟩ := x_pl (B := B) I e1 hc hl
          have ndY : Y.N.Nodup := by rw [I.N]; exact I.nd
          have ih := su_good I rest (some ps1) ps h hz
          refine ⟨fun pins s σ H D J ⟨hp, ρ, c, st, ha, q⟩ => (pss_cons (ps_asg pf (pg_name ndY I.iv I.lv.1 I.lv.2) (swaps_sole (pl_noComp e1)) (pl_noTup e1) rfl) ih).run pins s σ H D J ?_⟩
          refine ⟨hp, ρ, c, st, ?_⟩
          rw [hf ρ c ha]
          intro v H1 a1 r1
          have st1 := st.after a1
          have ivl : Z.iv < ρ.length := by
            rw [st.len, J.len]
            exact (List.getElem?_eq_some_iff.mp I.iv).1
          refine ⟨?_, ρ.set Z.iv (.d (.list (plD isx ps1))), c, st1.set r1, fun ps0 e0 => ?_, fun v' H' a' r' => q v' H' (a1.trans a') r'⟩
          · show (σ.set Z.iv (some v))[Z.ie]? = _
            rw [List.getElem?_set_ne (fun z => I.ne z.symm)]
            exact hp
          · cases e0
            rw [List.getElem?_set_self ivl]
        · cases h
      · rw [if_neg hy] at h; cases h
    · cases h
end
end Mi

namespace Mi
open PySem PySem.Spec PyProof.Rows L2 LamX
/-! x(lambda: ..), x the def that tells the error's word -/
def cLE (cls : List Str) (top : Str) (N : List Str) (sc : Scope) (body : List Stmt) : Option (Str × List (Str × Str)) := match body with
  | [.Try [.Expr (.Call (.Name a _) [] [] _) _] [.ExceptHandler (some (.Name t _)) (some ev) (b0 :: suite) _] [] [] _, .Return (some (.Constant (.str z) _ _)) _] => (match N with
    | a1 :: ev1 :: sv :: more => if a = a1 ∧ t = top ∧ ev = ev1 then
        chk (visX ⟨a1 :: ev1 :: sv :: more, sc, fun _ => true, [], false⟩ a && isLoc ⟨a1 :: ev1 :: sv :: more, sc, fun _ => true, [], false⟩ ev && isLoc ⟨a1 :: ev1 :: sv :: more, sc, fun _ => true, [], false⟩ sv && glX ⟨a1 :: ev1 :: sv :: more, sc, fun _ => true, [], false⟩ t && !oddName a && !oddName ev && !oddName sv && !oddName t)
          (match cSu ⟨⟨a1 :: ev1 :: sv :: more, sc, fun _ => true, [], false⟩, ev, sv, 1, 2, cls⟩ none (b0 :: suite) with
            | some ps => chk (sizesOK ps) (some (z, ps))
            | none => none)
      else none
    | _ => none)
  | _ => none
def lamE (isx : Str → Str → Bool) (cls : List Str) (z : Str) (ps : List (Str × Str)) (m : M D) : M D := fun c => match m c with
  | .ok _ c' => .ok (.str z) c'
  | .err e c' => if e ∈ cls then .ok (.str (wordOf (isx e) ps)) c' else .stuck
  | .stuck => .stuck
def ExOK (mg : Str → Option Value) (K : PySem.W.Frag) (cls : List Str) (isx : Str → Str → Bool) (top : Str) : Prop :=
  ∃ C0, mg top = some (.ref C0) ∧ ∀ e ∈ cls, ∃ C, mg e = some (.ref C) ∧ ExcC K C ∧ PySem.W.exmOne K (.ref C) (.ref C0) = some true ∧ ∀ y ∈ cls, ∃ C', mg y = some (.ref C') ∧ PySem.W.kitOne K (.ref C) (.ref C') = some (isx e y)
theorem isLoc_some {S : Sc} {x : Str} (h : isLoc S x = true) : S.sc.names.lookup x = some .local := by
  unfold Mi.isLoc at h
  split at h
  · assumption
  · cases h
theorem vis_some {S : Sc} {x : Str} (h : visX S x = true) : Vis S.sc x := by
  unfold visX at h
  split at h
  · exact .inl (by assumption)
  · exact .inr (.inl (by assumption))
  · exact .inr (.inr (by assumption))
  · cases h
theorem gl_some {S : Sc} {x : Str} (h : glX S x = true) : S.sc.names.lookup x = some .globalImplicit := by
  unfold glX at h
  split at h
  · assumption
  · cases h
section
variable {mg : Str → Option Value} {TT : List (Addr × Str)} {k : Nat} {P : Program} {w : World} {K : PySem.W.Frag} {base : Heap} {x a top z : Str} {params : Arguments} {body : List Stmt} {sc : Scope} {f : Addr} {fd : FuncData} {N : List Str} {cls : List Str} {isx : Str → Str → Bool} {ps : List (Str × Str)}
theorem lamF_by (F : FunD K x x params body sc [] [] f fd) (hb : Binds K fd [a] []) (hS : fscB N [a] sc = true) (hc : cLE cls top N sc body = some (z, ps)) (hm : mg x = some (.ref f)) (hfree : mg "isinstance" = none) (hx : (x == ("__debug__" : Str)) = false) (hex : ExOK mg K cls isx top) :
    LamF mg TT k P w K base x (lamE isx cls z ps) := by
  intro X W ca B c P' params' body' scope' p lpos pos f' e1 e2 e3 e4 e5 tk hg TB hcode hmT hu hr L hdef hbind hbody
  subst e1; subst e2; subst e3; subst e4; subst e5
  have S := fscB_ok hS
  obtain ⟨oc, od, dV, kV, doc, pm, an, cdv, ct, osl, rfl, lk, hcd, _, _⟩ := F.ex
  unfold cLE at hc
  split at hc
  · rename_i a1 p1 p2 p3 t p4 ev b0 suite p5 p6 z' j p7 p8
    split at hc
    · rename_i an1 en1 sv more
      by_cases hq : a1 = an1 ∧ t = top ∧ ev = en1
      · rw [if_pos hq] at hc
        obtain ⟨q1, q2, q3⟩ := hq
        subst q1; subst q2; subst q3
        obtain ⟨k1, k2⟩ := chk_some hc
        simp only [Bool.and_eq_true, Bool.not_eq_true'] at k1
        obtain ⟨⟨⟨⟨⟨⟨⟨v1, v2⟩, v3⟩, v4⟩, o1⟩, o2⟩, o3⟩, o4⟩ := k1
        split at k2
        · rename_i ps' hsu
          obtain ⟨hz, k3⟩ := chk_some k2
          cases k3
          obtain ⟨C0, m0, hcl⟩ := hex
          have ea : a = a1 := by
            have q := S.pre
            simpa using q.symm
          subst ea
          refine ⟨fun pins s σ H Q I ⟨ρ, c0, st, h⟩ => ?_⟩
          refine wpAny_Call_Name_kw (ld_glob I hg hm ?_ hx)
          refine PySem.W.callWith_K (h₀ := X.base) I.ok.mod.kin F.kp ?_ (by rfl) (by rfl)
          show wpAny _ _ (spliced ((false, eval (.Lambda params' body' scope' lpos) X.env) :: backTo pos (starEach [] X.env))) _ _ s
          refine Calls.spliced_cons (lam_makeD I TB hcode hmT hu st.tabs hdef (L.has I.ok) fun fl c' pm' ctv H1 s' I1 eN T1 dm hf hfn hfr hco => ?_)
          refine Calls.spliced_nil ⟨I1.kIn, ?_⟩
          have hP2 : ∀ b o, H b = some o → (∀ ps, o ≠ .tbl ps) → H1 b = some o := eN
          have a0 : After ⟨X.mg, ca, TT⟩ H H1 c0 := ⟨fun b o e _ n => hP2 b o e n, by
            have kk := st.cup
            unfold CupOK at kk ⊢
            cases hca : (G.mk X.mg ca TT).ca with
            | none =>
              rw [hca] at kk
              cases c0 with
              | none => trivial
              | some y => exact kk.elim
            | some b =>
              rw [hca] at kk
              cases c0 with
              | none => exact kk.elim
              | some y =>
                obtain ⟨i, j⟩ := y
                exact hP2 _ _ kk fun ps z => (by cases z), T1, dm⟩
          have rc : codeAny (model X.prog X.w) X.A (.call (.ref f) ⟨[.ref fl], []⟩) (CR (L2N.CX X.prog X.w) X.stack X.prog X.w H1 s' Q (fun _ _ _ => False)) s' := by
            refine run_ofS (N := a :: ev :: sv :: more) (ps := [a]) (us := [.ref fl]) (vs := [.ref fl]) lk hcd S (k := k + 1) hr I1.env0 (hb s' [.ref fl] I1.kIn rfl) (.cons rfl .nil) rfl fun hr' => ?_
            obtain ⟨oa1, oa2, oa3⟩ := odd_of o1
            obtain ⟨ot1, ot2, ot3⟩ := odd_of o4
            -- the call within the try
            have act : ∀ (W' : WX) (pn : List (Addr × Obj)) (xe : Value → Shared → Prop), L2N.Takes ((cxOf (L2N.CX X.prog X.w) X.prog X.w X.K X.mg X.base (a :: ev :: sv :: more) x sc f cdv X.A X.stack s' H1 (fun _ _ _ => False)).tr pn xe) W' →
                PE ((cxOf (L2N.CX X.prog X.w) X.prog X.w X.K X.mg X.base (a :: ev :: sv :: more) x sc f cdv X.A X.stack s' H1 (fun _ _ _ => False)).tr pn xe) (.Call (.Name a p1) [] [] p2)
                  (fun σZ HZ Q => σZ[0]? = some (some (V.ref fl)) ∧ HZ c' = some (CodeO c' (X.env.qual ++ "<lambda>")) ∧ tF ⟨X.mg, ca, TT⟩ B (fun cls d _ H' => W' cls d σZ H') f' σ HZ Q) := fun W' pn xe tk' =>
              pe_actN (i := 0) (E := fun σ' cls d H' => W' cls d σ' H') (tb := fun E => tF ⟨X.mg, ca, TT⟩ B (fun cls d _ H' => E cls d H') f') I1 L hf hfn hfr (hbind _ _ _ _ _) tk' (fun _ _ _ _ z => z) hr'
                (fun A outer s H E hroom => hbody _ _ rfl rfl rfl rfl rfl rfl rfl rfl rfl hroom takes_lam) rfl (vis_some v1) oa1 oa2
            have tr := L2N.ps_try_as (X := cxOf (L2N.CX X.prog X.w) X.prog X.w X.K X.mg X.base (a :: ev :: sv :: more) x sc f cdv X.A X.stack s' H1 (fun _ _ _ => False)) (x := t) (n := ev) (c := .ref C0) (i := 1) (Wout := W0) (np := p4) (pos' := p5) (pos := p6) (b₀ := b0) (suite := suite)
              (body := [.Expr (.Call (.Name a p1) [] [] p2) p3])
              (tb := fun W' D σ2 H2 => σ2[0]? = some (some (V.ref fl)) ∧ H2 c' = some (CodeO c' (X.env.qual ++ "<lambda>")) ∧ tF ⟨X.mg, ca, TT⟩ B (fun cls d _ H' => W' cls d σ2 H') f' σ H2 (fun _ H3 => D.nx σ2 H3))
              (ts := fun ea cl d D σ2 H2 => ∃ e ∈ cls, (∃ C, X.mg e = some (.ref C) ∧ cl = .ref C) ∧ d = none ∧ tSu ⟨⟨a :: ev :: sv :: more, sc, fun _ => true, [], false⟩, ev, sv, 1, 2, cls⟩ ea (isx e) ⟨X.mg, ca, TT⟩ B none ps D σ2 H2)
              rfl rfl S.nd rfl (isLoc_some v2) ⟨gl_some v4, ot1, .inl m0⟩ takes_none
              (fun W' pn xe tk' _ => pss_one ⟨fun pins s σ H D I hh => (ps_expr (act W' pn xe tk') rfl).run pins s σ H D I hh⟩)
              (fun ea oe cl d pn hzn hfld => ⟨fun pins2 s2 σ2 H2 D2 I2 ⟨e, he, ⟨C, mC, ecl⟩, ed, hsu2⟩ => by
                subst ecl; subst ed
                obtain ⟨C', mC', exc, exm, kit⟩ := hcl e he
                have eC : C' = C := by rw [mC] at mC'; cases mC'; rfl
                subst eC
                refine (su_good (g := ⟨X.mg, ca, TT⟩) (B := B) (Cd := C') (isx := isx e) (Y := (cxOf (L2N.CX X.prog X.w) X.prog X.w X.K X.mg X.base (a :: ev :: sv :: more) x sc f cdv X.A X.stack s' H1 (fun _ _ _ => False)).suite ea ((ea, oe) :: pn))
                  ⟨rfl, S.nd, rfl, rfl, rfl, ⟨(ea, oe), ⟨rfl, ?_⟩, List.mem_cons_self⟩, call_isE exc hzn.zc hfld, hfree, kit, rfl, rfl, vis_some (S := ⟨a :: ev :: sv :: more, sc, fun _ => true, [], false⟩) ?_, .inl (isLoc_some v3), ⟨.inl (isLoc_some v3), .inl rfl⟩, o2, o3, (show (1 : Nat) ≠ 2 by decide), S.kind⟩ _ _ _ hsu hz).run pins2 s2 σ2 H2 D2 I2 hsu2
                · obtain ⟨vs, hv⟩ := hfld
                  exact ⟨vs, hv, hzn.2.2 vs hv⟩
                · unfold visX
                  rw [show (Sc.mk (a :: ev :: sv :: more) sc (fun _ => true) [] false).sc.names.lookup ev = some .local from isLoc_some v2]⟩)
            refine ⟨_, pss_cons tr (pss_cons (ps_ret (pe_str (x := z))) pss_nil), ?_⟩
            have st1 := st.after a0
            have h' : Post ⟨X.mg, ca, TT⟩ W σ H (RD ⟨X.mg, ca, TT⟩ B) (lamE isx cls z ps (f' ρ) c0) Q := h
            unfold lamE at h'
            refine ⟨rfl, hco, ρ, c0, st1, ?_⟩
            cases er : f' ρ c0 with
            | stuck => rw [er] at h'; exact h'.elim
            | ok d c1 =>
              rw [er] at h'
              exact fun v H2 a2 r2 => h' _ _ (a0.trans a2) (.str z)
            | err e c1 =>
              rw [er] at h'
              simp only at h'
              by_cases he : e ∈ cls
              · rw [if_pos he] at h'
                intro C H2 a2 mC
                obtain ⟨C', mC', exc, exm, kit⟩ := hcl e he
                have eC : C' = C := by
                  have mC : X.mg e = some (.ref C) := mC
                  rw [mC] at mC'; cases mC'; rfl
                subst eC
                refine ⟨true, exm, fun _ ea hna => ⟨e, he, ⟨C', mC', rfl⟩, rfl, ?_, List.replicate (a :: ev :: sv :: more).length .no, c1, ?_, fun ps0 z => (by cases z), fun v H3 a3 r3 => ?_⟩, fun z => (by cases z)⟩
                · show ((L2.start (a :: ev :: sv :: more) [V.ref fl]).set 1 (some (.ref ea)))[1]? = _
                  rw [List.getElem?_set_self (by unfold L2.start; simp)]
                · have st2 := st1.after a2
                  refine ⟨by unfold L2.start; simp, fun i sl ei => ?_, st2.cup, st2.tabs, st2.dom, st2.cb⟩
                  rw [List.getElem?_replicate] at ei
                  by_cases hi : i < (a :: ev :: sv :: more).length
                  · rw [if_pos hi] at ei; cases ei; trivial
                  · rw [if_neg hi] at ei; cases ei
                · exact h' v H3 ((a0.trans a2).trans a3) r3
              · rw [if_neg he] at h'; exact h'.elim
          refine wpAny_call (codeAny_mono rc fun r s2 hq => ?_)
          cases r with
          | error e =>
            obtain ⟨_, _, _, _, _, _, _, _, _, _, _, _, z⟩ := (show L2N.CX X.prog X.w X.stack H1 s' (fun _ _ _ => False) e s2 from hq)
            exact z.elim
          | ok fl =>
            cases fl with
            | ret u => exact I1.after hq
            | next => exact False.elim hq
            | brk => exact False.elim hq
            | cont => exact False.elim hq
        · cases k2
      · rw [if_neg hq] at hc; cases hc
    · cases hc
  · cases hc
end
end Mi

namespace Mi
open PySem PySem.Spec PyProof.Rows L2
/-! the built-ins by values, as a table -/
def absB : List D → Option D
  | [.int i] => some (.int (if i < 0 then -i else i))
  | _ => none
def intB : List D → Option D
  | [.int i] => some (.int i)
  | [.bool b] => some (.int (if b then 1 else 0))
  | _ => none
/-- the least and the greatest of numbers -/
def minL : Int → List Int → Int
  | x, [] => x
  | x, y :: r => minL (if y < x then y else x) r
def maxL : Int → List Int → Int
  | x, [] => x
  | x, y :: r => maxL (if x < y then y else x) r
theorem minL_ok : ∀ (x : Int) (r : List Int), minL x r ∈ x :: r ∧ ∀ y ∈ x :: r, minL x r ≤ y
  | x, [] => ⟨List.mem_cons_self, fun y hy => by rw [List.mem_singleton.mp hy]; exact Int.le_refl _⟩
  | x, y :: r => by
    obtain ⟨h1, h2⟩ := minL_ok (if y < x then y else x) r
    have e : minL x (y :: r) = minL (if y < x then y else x) r := rfl
    rw [e]
    refine ⟨?_, fun z hz => ?_⟩
    · rcases List.mem_cons.mp h1 with k | k
      · rw [k]
        by_cases h : y < x
        · rw [if_pos h]; exact List.mem_cons_of_mem _ List.mem_cons_self
        · rw [if_neg h]; exact List.mem_cons_self
      · exact List.mem_cons_of_mem _ (List.mem_cons_of_mem _ k)
    · have m := h2 _ List.mem_cons_self
      rcases List.mem_cons.mp hz with k | hz
      · rw [k]; exact Int.le_trans m (by split <;> omega)
      rcases List.mem_cons.mp hz with k | hz
      · rw [k]; exact Int.le_trans m (by split <;> omega)
      · exact h2 z (List.mem_cons_of_mem _ hz)
theorem maxL_ok : ∀ (x : Int) (r : List Int), maxL x r ∈ x :: r ∧ ∀ y ∈ x :: r, y ≤ maxL x r
  | x, [] => ⟨List.mem_cons_self, fun y hy => by rw [List.mem_singleton.mp hy]; exact Int.le_refl _⟩
  | x, y :: r => by
    obtain ⟨h1, h2⟩ := maxL_ok (if x < y then y else x) r
    have e : maxL x (y :: r) = maxL (if x < y then y else x) r := rfl
    rw [e]
    refine ⟨?_, fun z hz => ?_⟩
    · rcases List.mem_cons.mp h1 with k | k
      · rw [k]
        by_cases h : x < y
        · rw [if_pos h]; exact List.mem_cons_of_mem _ List.mem_cons_self
        · rw [if_neg h]; exact List.mem_cons_self
      · exact List.mem_cons_of_mem _ (List.mem_cons_of_mem _ k)
    · have m := h2 _ List.mem_cons_self
      rcases List.mem_cons.mp hz with k | hz
      · rw [k]; exact Int.le_trans (by split <;> omega) m
      rcases List.mem_cons.mp hz with k | hz
      · rw [k]; exact Int.le_trans (by split <;> omega) m
      · exact h2 z (List.mem_cons_of_mem _ hz)
def sumB : List D → Option D
  | [.list ds] => (intsD ds).map fun ns => .int ns.sum
  | _ => none
def minB : List D → Option D
  | [.list ds] => (intsD ds).bind fun ns => match ns with | [] => none | x :: r => some (.int (minL x r))
  | [.int i, .int j] => some (.int (if j < i then j else i))
  | _ => none
def maxB : List D → Option D
  | [.list ds] => (intsD ds).bind fun ns => match ns with | [] => none | x :: r => some (.int (maxL x r))
  | [.int i, .int j] => some (.int (if j > i then j else i))
  | _ => none
section
variable {X : Cx} {g : G} {B : Addr → Prop}
theorem RpA.ints {H : Hp} : ∀ {ns : List Int} {vs : List V}, RpA g B H vs (ns.map .int) → vs = ns.map V.int
  | [], vs, r => by cases r; rfl
  | n :: ns, vs, r => by
    cases r with
    | cons r1 r2 => cases r1; rw [RpA.ints r2]; rfl
theorem b_sum (hc : X.calm = true) : CallR X (.builtin "sum") (rDs g B sumB) := by
  refine CallR.of (cr_sum hc) fun xs H Q h => ?_
  obtain ⟨ds, d, c, st, r, e, q⟩ := h
  obtain ⟨x, rfl⟩ := one_arg e rfl (fun x y r => by cases x <;> rfl)
  obtain ⟨v, rfl, r1⟩ := r.one
  cases x <;> try (cases e; done)
  cases r1 with
  | lst n e1 ra =>
    obtain ⟨ns, k, rfl⟩ := Option.map_eq_some_iff.mp e
    rw [intsD_some k] at ra
    have z := RpA.ints ra
    rw [z] at e1
    exact ⟨_, ns, rfl, .of e1, q _ _ st.refl (.int _)⟩
theorem two_arg {ds : List D} {vs : List V} {H : Hp} {i j : Int} (r : RpA g B H vs ds) (e : ds = [.int i, .int j]) : vs = [.int i, .int j] := by
  subst e
  cases r with
  | cons r1 r2 => cases r1; cases r2 with
    | cons r1 r2 => cases r1; cases r2; rfl
theorem b_min (hc : X.calm = true) : CallR X (.builtin "min") (rDs g B minB) := by
  refine CallR.of (CallR.or (cr_min hc) (call_min2 hc)) fun xs H Q h => ?_
  obtain ⟨ds, d, c, st, r, e, q⟩ := h
  unfold minB at e
  split at e
  · rename_i ds
    obtain ⟨v, rfl, r1⟩ := r.one
    obtain ⟨ns, k, e⟩ := Option.bind_eq_some_iff.mp e
    cases ns with
    | nil => cases e
    | cons x ns =>
      cases e
      cases r1 with
      | lst n e1 ra =>
        rw [intsD_some k] at ra
        have z := RpA.ints ra
        rw [z] at e1
        refine .inl ⟨_, x :: ns, rfl, .of e1, Nat.succ_pos _, fun m h1 h2 => ?_⟩
        obtain ⟨k1, k2⟩ := minL_ok x ns
        have e : m = minL x ns := Int.le_antisymm (h2 _ k1) (k2 _ h1)
        rw [e]
        exact q _ _ st.refl (.int _)
  · rename_i i j
    cases e
    exact .inr ⟨i, j, two_arg r rfl, q _ _ st.refl (.int _)⟩
  · cases e
theorem b_max (hc : X.calm = true) : CallR X (.builtin "max") (rDs g B maxB) := by
  refine CallR.of (CallR.or (cr_max hc) (call_max2 hc)) fun xs H Q h => ?_
  obtain ⟨ds, d, c, st, r, e, q⟩ := h
  unfold maxB at e
  split at e
  · rename_i ds
    obtain ⟨v, rfl, r1⟩ := r.one
    obtain ⟨ns, k, e⟩ := Option.bind_eq_some_iff.mp e
    cases ns with
    | nil => cases e
    | cons x ns =>
      cases e
      cases r1 with
      | lst n e1 ra =>
        rw [intsD_some k] at ra
        have z := RpA.ints ra
        rw [z] at e1
        refine .inl ⟨_, x :: ns, rfl, .of e1, Nat.succ_pos _, fun m h1 h2 => ?_⟩
        obtain ⟨k1, k2⟩ := maxL_ok x ns
        have e : m = maxL x ns := Int.le_antisymm (k2 _ h1) (h2 _ k1)
        rw [e]
        exact q _ _ st.refl (.int _)
  · rename_i i j
    cases e
    exact .inr ⟨i, j, two_arg r rfl, q _ _ st.refl (.int _)⟩
  · cases e
theorem b_abs : CallR X (.builtin "abs") (rDs g B absB) := by
  refine CallR.of call_abs fun xs H Q h => ?_
  obtain ⟨ds, d, c, st, r, e, q⟩ := h
  obtain ⟨x, rfl⟩ := one_arg e rfl (fun x y r => by cases x <;> rfl)
  obtain ⟨v, rfl, r1⟩ := r.one
  cases x <;> try (cases e; done)
  cases r1; cases e
  exact ⟨_, rfl, q _ _ st.refl (.int _)⟩
theorem b_int : CallR X (.type "int") (rDs g B intB) := by
  refine CallR.of call_int1 fun xs H Q h => ?_
  obtain ⟨ds, d, c, st, r, e, q⟩ := h
  obtain ⟨x, rfl⟩ := one_arg e rfl (fun x y r => by cases x <;> rfl)
  obtain ⟨v, rfl, r1⟩ := r.one
  cases x <;> try (cases e; done)
  · cases r1; cases e
    exact .inr ⟨_, rfl, q _ _ st.refl (.int _)⟩
  · cases r1; cases e
    exact .inl ⟨_, rfl, q _ _ st.refl (.int _)⟩
theorem b_sorted (hu : X.A.units + 100 < cLine) : CallR X (.builtin "sorted") (rDs g B sortedB) := by
  refine CallR.of (cr_sorted (g := g) (B := B) hu) fun xs H Q h => ?_
  obtain ⟨ds, d, c, st, r, e, q⟩ := h
  obtain ⟨ys, e1, rfl⟩ := Option.map_eq_some_iff.mp e
  exact ⟨ds, ys, c, st, r, e1, fun z H' a f => q z H' a (f.rp st)⟩
end
def bisT : List (Str × (List D → Option D)) := [("len", lenB), ("tuple", tupleB), ("list", listB), ("any", anyB), ("all", allB), ("sorted", sortedB), ("abs", absB), ("int", intB), ("sum", sumB), ("min", minB), ("max", maxB)]
def blsT : List (Str × (List D → Option (List D))) := [("list", listL), ("sorted", sortedL)]
def bisN : List Str := ["len", "tuple", "list", "any", "all", "sorted", "abs", "int", "sum", "min", "max"]
theorem lookup_cons {α : Type} {x y : Str} {v w : α} {r : List (Str × α)} (h : ((y, v) :: r).lookup x = some w) : (x = y ∧ w = v) ∨ r.lookup x = some w := by
  rw [List.lookup_cons] at h
  cases e : x == y with
  | true =>
    rw [e] at h
    exact .inl ⟨by simpa using e, (Option.some.inj h).symm⟩
  | false => rw [e] at h; exact .inr h
theorem bis_ok {mg : Str → Option Value} (hn : ∀ x ∈ bisN, mg x = none) : ∀ x o, bisT.lookup x = some o → BiOK mg x o := by
  intro x o h
  unfold bisT at h
  rcases lookup_cons h with ⟨rfl, rfl⟩ | h
  · exact ⟨hn _ (by decide), .inl ⟨"len", by decide +kernel, fun X g B _ _ => b_len⟩⟩
  rcases lookup_cons h with ⟨rfl, rfl⟩ | h
  · exact ⟨hn _ (by decide), .inr ⟨"tuple", by decide +kernel, fun X g B _ _ => b_tuple⟩⟩
  rcases lookup_cons h with ⟨rfl, rfl⟩ | h
  · exact ⟨hn _ (by decide), .inr ⟨"list", by decide +kernel, fun X g B _ _ => b_list⟩⟩
  rcases lookup_cons h with ⟨rfl, rfl⟩ | h
  · exact ⟨hn _ (by decide), .inl ⟨"any", by decide +kernel, fun X g B hc _ => b_any hc⟩⟩
  rcases lookup_cons h with ⟨rfl, rfl⟩ | h
  · exact ⟨hn _ (by decide), .inl ⟨"all", by decide +kernel, fun X g B hc _ => b_all hc⟩⟩
  rcases lookup_cons h with ⟨rfl, rfl⟩ | h
  · exact ⟨hn _ (by decide), .inl ⟨"sorted", by decide +kernel, fun X g B _ hu => b_sorted hu⟩⟩
  rcases lookup_cons h with ⟨rfl, rfl⟩ | h
  · exact ⟨hn _ (by decide), .inl ⟨"abs", by decide +kernel, fun X g B _ _ => b_abs⟩⟩
  rcases lookup_cons h with ⟨rfl, rfl⟩ | h
  · exact ⟨hn _ (by decide), .inr ⟨"int", by decide +kernel, fun X g B _ _ => b_int⟩⟩
  rcases lookup_cons h with ⟨rfl, rfl⟩ | h
  · exact ⟨hn _ (by decide), .inl ⟨"sum", by decide +kernel, fun X g B hc _ => b_sum hc⟩⟩
  rcases lookup_cons h with ⟨rfl, rfl⟩ | h
  · exact ⟨hn _ (by decide), .inl ⟨"min", by decide +kernel, fun X g B hc _ => b_min hc⟩⟩
  rcases lookup_cons h with ⟨rfl, rfl⟩ | h
  · exact ⟨hn _ (by decide), .inl ⟨"max", by decide +kernel, fun X g B hc _ => b_max hc⟩⟩
  cases h
theorem bls_ok {mg : Str → Option Value} (hn : ∀ x ∈ bisN, mg x = none) : ∀ x o, blsT.lookup x = some o → BlOK mg x o := by
  intro x o h
  unfold blsT at h
  rcases lookup_cons h with ⟨rfl, rfl⟩ | h
  · exact ⟨hn _ (by decide), .inr ⟨"list", by decide +kernel, fun X g B _ _ => bl_list⟩⟩
  rcases lookup_cons h with ⟨rfl, rfl⟩ | h
  · exact ⟨hn _ (by decide), .inl ⟨"sorted", by decide +kernel, fun X g B _ hu => cr_sorted hu⟩⟩
  cases h
/-! the roll of the cup -/
def rollF : List D → M D
  | [.dict [], .int n], c => match c with
    | some (i, j) => if 0 < n ∧ n < 1073741824 then (if 0 < i then .ok (.int (i % n)) (some (i / n, j)) else .ok (.int ((j * 32029 + 72077) % 1048576 / 181 % n)) (some (i, (j * 32029 + 72077) % 1048576))) else .stuck
    | none => .stuck
  | _, _ => .stuck
def isRoll : List Stmt → Bool
  | [.If (.Compare (.Subscript (.Name c1 _) (.Constant (.int a1) _ _) _) [.Gt] [.Constant (.int a2) _ _] _)
      [.Assign [.Name f1 _] (.BinOp (.Call (.Name t1 _) [.Subscript (.Name c2 _) (.Constant (.int a3) _ _) _] [] _) .Mod (.Name m1 _) _) _,
       .Assign [.Subscript (.Name c3 _) (.Constant (.int a4) _ _) _] (.BinOp (.Subscript (.Name c4 _) (.Constant (.int a5) _ _) _) .FloorDiv (.Name m2 _) _) _, .Return (some (.Name f2 _)) _] [] _,
     .Assign [.Subscript (.Name c5 _) (.Constant (.int a6) _ _) _] (.BinOp (.Call (.Name t2 _) [.BinOp (.BinOp (.Subscript (.Name c6 _) (.Constant (.int a7) _ _) _) .Mult (.Constant (.int a8) _ _) _) .Add (.Constant (.int a9) _ _) _] [] _) .Mod (.Constant (.int b1) _ _) _) _,
     .Return (some (.BinOp (.Call (.Name t3 _) [.BinOp (.Subscript (.Name c7 _) (.Constant (.int b2) _ _) _) .FloorDiv (.Constant (.int b3) _ _) _] [] _) .Mod (.Name m3 _) _)) _] =>
    decide (c1 = "cup" ∧ c2 = "cup" ∧ c3 = "cup" ∧ c4 = "cup" ∧ c5 = "cup" ∧ c6 = "cup" ∧ c7 = "cup" ∧ m1 = "many" ∧ m2 = "many" ∧ m3 = "many" ∧ f1 = "found" ∧ f2 = "found" ∧ t1 = "int" ∧ t2 = "int" ∧ t3 = "int") &&
    decide (a1 = 0 ∧ a2 = 0 ∧ a3 = 0 ∧ a4 = 0 ∧ a5 = 0 ∧ a6 = 1 ∧ a7 = 1 ∧ a8 = 32029 ∧ a9 = 72077 ∧ b1 = 1048576 ∧ b2 = 1 ∧ b3 = 181)
  | _ => false
section
variable {mg : Str → Option Value} {TT : List (Addr × Str)} {k : Nat} {P : Program} {w : World} {K : PySem.W.Frag} {base : Heap} {x qual : Str} {params : Arguments} {body : List Stmt} {sc : Scope} {f : Addr} {fd : FuncData}
theorem atI0 {xs : List V} {x y : V} : L2.atI [x, y] 0 = some x := rfl
theorem atI1 {xs : List V} {x y : V} : L2.atI [x, y] 1 = some y := rfl
theorem roll_shape {ds : List D} {c : Cp} (h : rollF ds c ≠ .stuck) : ∃ n i j, ds = [.dict [], .int n] ∧ c = some (i, j) ∧ 0 < n ∧ n < 1073741824 := by
  unfold rollF at h
  split at h
  · split at h
    · rename_i n cc i j
      by_cases hn : 0 < n ∧ n < 1073741824
      · exact ⟨_, _, _, rfl, rfl, hn⟩
      · rw [if_neg hn] at h; exact absurd rfl h
    · exact absurd rfl h
  · exact absurd rfl h
theorem cup_set {g : G} {B : Addr → Prop} {c : Cp} {H : Hp} {p : Addr} {xs : List V} (st : StH g B c H) (ec : g.ca = some p) (hp : H p = some (.lst xs)) (a b : Int) : After g H (upd H p (.lst [.int a, .int b])) (some (a, b)) := by
  refine ⟨fun x o e nb nt => ?_, ?_, tabs_upd hp st.tabs, fun x z => ?_⟩
  · rw [upd_ne (fun z => nb (by rw [z]; exact ec))]; exact e
  · unfold CupOK
    rw [ec]
    exact upd_same
  · by_cases h : x = p
    · rw [h, upd_same] at z; cases z
    · rw [upd_ne h] at z; exact z
theorem roll_by (F : FunD K x qual params body sc [] [] f fd) (hb : Binds K fd ["cup", "many"] []) (hS : fscB ["cup", "many", "found"] ["cup", "many"] sc = true) (hr : isRoll body = true) (hg : sc.names.lookup ("int" : Str) = some .globalImplicit) (hi : mg "int" = none)
    (hfl : sc.names.lookup ("found" : Str) = some .local) (hm : mg x = some (.ref f)) : FnH mg TT 1 P w K base x 2 rollF := by
  have S := fscB_ok hS
  refine ⟨f, fd, _, hm, F.kp, hb, F.ok S (fun vs H Q E h => h.1) fun cdv A outer s H vs Q E hroom hsp => ?_⟩
  obtain ⟨hlen, ca, B, ds, c, st, r, hp⟩ := hsp
  unfold isRoll at hr
  split at hr
  · simp only [Bool.and_eq_true, decide_eq_true_eq] at hr
    obtain ⟨⟨e1, e2, e3, e4, e5, e6, e7, e8, e9, e10, e11, e12, e13, e14, e15⟩, e16, e17, e18, e19, e20, e21, e22, e23, e24, e25, e26, e27⟩ := hr
    subst e1 e2 e3 e4 e5 e6 e7 e8 e9 e10 e11 e12 e13 e14 e15 e16 e17 e18 e19 e20 e21 e22 e23 e24 e25 e26 e27
    have vc : Vis sc "cup" := (S.par _ (by simp)).elim .inl (fun z => .inr (.inl z))
    have vm : Vis sc "many" := (S.par _ (by simp)).elim .inl (fun z => .inr (.inl z))
    refine ⟨_, pss_cons (X := cxOf (L2N.CX P w) P w K mg base ["cup", "many", "found"] qual sc f cdv A outer s H E)
      (ps_if (pt_cmp (pc_gt (pe_ix ix_seq (pe_var (i := 0) rfl vc) pe_int fun _ _ => rfl) pe_int))
        (pss_cons (ps_asg (pe_op op_mod (pe_callTy call_int1 hg hi (by decide +kernel) (pa_cons (pe_ix ix_seq (pe_var (i := 0) rfl vc) pe_int fun _ _ => rfl) pa_nil)) (pe_var (i := 1) rfl vm)) (pg_name (i := 2) S.nd rfl (.inl hfl) (.inl rfl)))
          (pss_cons (ps_asg (pe_op op_fdiv (pe_ix ix_seq (pe_var (i := 0) rfl vc) pe_int fun _ _ => rfl) (pe_var (i := 1) rfl vm)) (pg_sub (pe_var (i := 0) rfl vc) pe_int set_list))
            (pss_one (ps_ret (pe_var (i := 2) rfl (.inl hfl))))))
        pss_nil)
      (pss_cons (ps_asg (pe_op op_mod (pe_callTy call_int1 hg hi (by decide +kernel) (pa_cons (pe_op op_add (pe_op op_mul (pe_ix ix_seq (pe_var (i := 0) rfl vc) pe_int fun _ _ => rfl) pe_int) pe_int) pa_nil)) pe_int) (pg_sub (pe_var (i := 0) rfl vc) pe_int set_list))
        (pss_one (ps_ret (pe_op op_mod (pe_callTy call_int1 hg hi (by decide +kernel) (pa_cons (pe_op op_fdiv (pe_ix ix_seq (pe_var (i := 0) rfl vc) pe_int fun _ _ => rfl) pe_int) pa_nil)) (pe_var (i := 1) rfl vm))))), ?_⟩
    have hp' : Post ⟨mg, ca, TT⟩ (fun cls d _ H' => E cls d H') [] H (RD ⟨mg, ca, TT⟩ B) (rollF ds c) Q := hp
    have shape : rollF ds c ≠ .stuck := fun z => by rw [z] at hp'; exact hp'
    obtain ⟨n, i, j, rfl, rfl, hn⟩ := roll_shape shape
    cases r with
    | cons r1 r2 => cases r2 with
      | cons r2 r3 =>
        cases r3
        cases r2
        cases r1 with
        | @cup p ec =>
          have hp2 : H p = some (.lst [.int i, .int j]) := by
            have kk := st.cup
            unfold CupOK at kk
            rw [ec] at kk
            exact kk
          have ix0 : ∀ {σ : L2.St} {H' : Hp} {u v : V} {Q' : VK}, σ[0]? = some (some (V.ref p)) → H' p = some (.lst [u, v]) → Q' u H' → tOp (rIx K) (tVar 0) (tC (.int 0)) σ H' Q' := fun s e q => ⟨_, s, .inl ⟨p, _, 0, _, rfl, rfl, SqL.of e, rfl, q⟩⟩
          have ix1 : ∀ {σ : L2.St} {H' : Hp} {u v : V} {Q' : VK}, σ[0]? = some (some (V.ref p)) → H' p = some (.lst [u, v]) → Q' v H' → tOp (rIx K) (tVar 0) (tC (.int 1)) σ H' Q' := fun s e q => ⟨_, s, .inl ⟨p, _, 1, _, rfl, rfl, SqL.of e, rfl, q⟩⟩
          have h1 : Post ⟨mg, ca, TT⟩ (fun cls d _ H' => E cls d H') [] H (RD ⟨mg, ca, TT⟩ B) (if 0 < n ∧ n < 1073741824 then (if 0 < i then .ok (.int (i % n)) (some (i / n, j)) else .ok (.int ((j * 32029 + 72077) % 1048576 / 181 % n)) (some (i, (j * 32029 + 72077) % 1048576))) else .stuck) Q := hp'
          rw [if_pos hn] at h1
          refine ix0 rfl hp2 ⟨i, 0, rfl, rfl, decide (0 < i), rfl, ?_⟩
          by_cases hi0 : 0 < i
          · rw [if_pos hi0] at h1
            rw [if_pos (decide_eq_true hi0)]
            refine ix0 rfl hp2 (.inl ⟨i, rfl, ⟨.int n, rfl, ⟨i, n, rfl, rfl, hn.1, ?_⟩⟩⟩)
            refine ix0 rfl hp2 ⟨.int n, rfl, ⟨i, n, rfl, rfl, hn, ?_⟩⟩
            refine ⟨V.ref p, rfl, ⟨p, _, 0, 0, rfl, rfl, hp2, rfl, ?_⟩⟩
            exact ⟨.int (i % n), rfl, h1 _ _ (cup_set st ec hp2 _ _) (.int _)⟩
          · rw [if_neg hi0] at h1
            rw [if_neg (fun z => hi0 (of_decide_eq_true z))]
            refine ix1 rfl hp2 ⟨j, 32029, rfl, rfl, .inr ⟨by decide, by decide⟩, ⟨_, 72077, rfl, rfl, .inl ⟨_, rfl, ⟨_, 1048576, rfl, rfl, (show (0 : Int) < 1048576 by decide), ?_⟩⟩⟩⟩
            refine ⟨V.ref p, rfl, ⟨p, _, 1, 1, rfl, rfl, hp2, rfl, ?_⟩⟩
            refine ix1 rfl (upd_same (H := H)) ⟨_, 181, rfl, rfl, ⟨by decide, by decide⟩, .inl ⟨_, rfl, ⟨.int n, rfl, ⟨_, n, rfl, rfl, hn.1, ?_⟩⟩⟩⟩
            exact h1 _ _ (cup_set st ec hp2 _ _) (.int _)
  · cases hr
end
end Mi

namespace Mi
open PySem PySem.Spec PyProof.Rows L2
/-! the cup of a script -/
def cellI (ns : List Int) : Int := if (ns ++ [0]).headD 0 < 0 then -(ns ++ [0]).headD 0 else (ns ++ [0]).headD 0
def cupI (ns : List Int) : Int := if cellI ns ≥ 10 ^ 18 then cellI ns / 373 else 0
def cupJ (ns : List Int) : Int := (cellI ns * 1171 + 113123) % 1048576
def isCup : List Stmt → Bool
  | [.Assign [.Name c0 _] (.Call (.Name f0 _) [.Subscript (.BinOp (.Call (.Name l0 _) [.Name s0 _] [] _) .Add (.List [.Constant (.int a0) _ _] _) _) (.Constant (.int a1) _ _) _] [] _) _,
     .Return (some (.List [.IfExp (.Compare (.Name c1 _) [.GtE] [.BinOp (.Constant (.int a2) _ _) .Pow (.Constant (.int a3) _ _) _] _) (.BinOp (.Name c2 _) .FloorDiv (.Constant (.int a4) _ _) _) (.Constant (.int a5) _ _) _,
       .BinOp (.Call (.Name i0 _) [.BinOp (.BinOp (.Name c3 _) .Mult (.Constant (.int a6) _ _) _) .Add (.Constant (.int a7) _ _) _] [] _) .Mod (.Constant (.int a8) _ _) _] _)) _] =>
    decide (c0 = "cell" ∧ c1 = "cell" ∧ c2 = "cell" ∧ c3 = "cell" ∧ f0 = "abs" ∧ l0 = "list" ∧ s0 = "script" ∧ i0 = "int") && decide (a0 = 0 ∧ a1 = 0 ∧ a2 = 10 ∧ a3 = 18 ∧ a4 = 373 ∧ a5 = 0 ∧ a6 = 1171 ∧ a7 = 113123 ∧ a8 = 1048576)
  | _ => false
def spCup (K : PySem.W.Frag) : Sp := fun vs H Q _ => ∃ (a : Addr) (ns : List Int), vs = [V.ref a] ∧ ns.length ≤ 1000 ∧ SqL K H a (ns.map V.int) ∧
  ∀ p H', H p = none → (∀ b o, H b = some o → H' b = some o) → (∀ b, H' b = none → H b = none) → H' p = some (.lst [.int (cupI ns), .int (cupJ ns)]) → Q (.ref p) H'
section
variable {mg : Str → Option Value} {TT : List (Addr × Str)} {k : Nat} {P : Program} {w : World} {K : PySem.W.Frag} {base : Heap} {x qual : Str} {params : Arguments} {body : List Stmt} {sc : Scope} {f : Addr} {fd : FuncData}
theorem upd_up {H : Hp} {p : Addr} {o : HO} (hp : H p = none) {b : Addr} {u : HO} (e : H b = some u) : upd H p o b = some u := by
  rw [upd_ne (ne_of_none e hp)]; exact e
theorem upd_dn {H : Hp} {p : Addr} {o : HO} {b : Addr} (e : upd H p o b = none) : H b = none := by
  by_cases h : b = p
  · rw [h, upd_same] at e; cases e
  · rw [upd_ne h] at e; exact e
theorem head_at (ns : List Int) : L2.atI (ns.map V.int ++ [V.int 0]) 0 = some (V.int ((ns ++ [0]).headD 0)) := by
  cases ns with
  | nil => rfl
  | cons n r =>
    have e : L2.ixN (((n :: r).map V.int) ++ [V.int 0]).length 0 = some 0 := by
      unfold L2.ixN
      rw [if_pos (by decide), if_pos (by simp; omega)]
      rfl
    unfold L2.atI
    rw [e]
    rfl
theorem cup_by (F : FunD K x qual params body sc [] [] f fd) (hS : fscB ["script", "cell"] ["script"] sc = true) (hr : isCup body = true) (h1 : sc.names.lookup ("int" : Str) = some .globalImplicit) (h2 : sc.names.lookup ("list" : Str) = some .globalImplicit)
    (h3 : sc.names.lookup ("abs" : Str) = some .globalImplicit) (m1 : mg "int" = none) (m2 : mg "list" = none) (m3 : mg "abs" = none) (hfl : sc.names.lookup ("cell" : Str) = some .local) : FnOk P w K mg base (L2N.CX P w) 1 f fd ["script"] (spCup K) := by
  have S := fscB_ok hS
  refine F.ok S (fun vs H Q E ⟨a, ns, e, _⟩ => by rw [e]; rfl) fun cdv A outer s H vs Q E hroom hsp => ?_
  obtain ⟨a, ns, rfl, hl, hq, q⟩ := hsp
  unfold isCup at hr
  split at hr
  · simp only [Bool.and_eq_true, decide_eq_true_eq] at hr
    obtain ⟨⟨e1, e2, e3, e4, e5, e6, e7, e8⟩, e9, e10, e11, e12, e13, e14, e15, e16, e17⟩ := hr
    subst e1 e2 e3 e4 e5 e6 e7 e8 e9 e10 e11 e12 e13 e14 e15 e16 e17
    have vs' : Vis sc "script" := (S.par _ (by simp)).elim .inl (fun z => .inr (.inl z))
    refine ⟨_, pss_cons (X := cxOf (L2N.CX P w) P w K mg base ["script", "cell"] qual sc f cdv A outer s H E)
      (ps_asg (pe_callB call_abs h3 m3 (by decide +kernel) (pa_cons (pe_ix ix_seq (pe_op op_cat (pe_callTy call_list_of h2 m2 (by decide +kernel) (pa_cons (pe_var (i := 0) rfl vs') pa_nil)) (pe_lst (pa_cons pe_int pa_nil))) pe_int fun _ _ => rfl) pa_nil)) (pg_name (i := 1) S.nd rfl (.inl hfl) (.inl rfl)))
      (pss_one (ps_ret (pe_lst (pa_cons (pe_ifExp (pt_cmp (pc_ge (pe_var (i := 1) rfl (.inl hfl)) (pe_op op_pow pe_int pe_int))) (pe_op op_fdiv (pe_var (i := 1) rfl (.inl hfl)) pe_int) pe_int)
        (pa_cons (pe_op op_mod (pe_callTy call_int1 h1 m1 (by decide +kernel) (pa_cons (pe_op op_add (pe_op op_mul (pe_var (i := 1) rfl (.inl hfl)) pe_int) pe_int) pa_nil)) pe_int) pa_nil))))), ?_⟩
    refine ⟨V.ref a, rfl, ⟨a, ns.map V.int, rfl, .inl hq, fun p1 n1 => ?_⟩⟩
    refine ⟨by decide, fun p2 n2 => ?_⟩
    have n12 : p1 ≠ p2 := fun z => by rw [← z, upd_same] at n2; cases n2
    refine ⟨p1, p2, ns.map V.int, [V.int 0], rfl, rfl, by rw [upd_ne n12]; exact upd_same, upd_same, ?_, fun p3 n3 => ?_⟩
    · rw [List.length_map]
      have : sizeLine ≥ 2000 := by rw [sizeLine_eq]; decide
      simp only [List.length_singleton]
      omega
    refine .inl ⟨p3, _, 0, _, rfl, rfl, SqL.of upd_same, head_at ns, ⟨_, rfl, ?_⟩⟩
    have fin : ∀ (i : Int), i = cupI ns → ∀ p4, (upd (upd (upd H p1 (.lst (ns.map V.int))) p2 (.lst [V.int 0])) p3 (.lst (ns.map V.int ++ [V.int 0]))) p4 = none →
        Q (.ref p4) (upd (upd (upd (upd H p1 (.lst (ns.map V.int))) p2 (.lst [V.int 0])) p3 (.lst (ns.map V.int ++ [V.int 0]))) p4 (.lst [.int i, .int (cupJ ns)])) := fun i ei p4 n4 => by
      subst ei
      refine q p4 _ (upd_dn (upd_dn (upd_dn n4))) (fun b o e => upd_up n4 (upd_up n3 (upd_up n2 (upd_up n1 e)))) (fun b e => upd_dn (upd_dn (upd_dn (upd_dn e)))) upd_same
    generalize hcell : (if (ns ++ [0]).headD 0 < 0 then -(ns ++ [0]).headD 0 else (ns ++ [0]).headD 0) = cell
    have ec : cellI ns = cell := hcell
    refine ⟨V.int cell, rfl, ⟨10, 18, rfl, rfl, ⟨by decide, by decide, by decide⟩, ⟨cell, _, rfl, rfl, ⟨_, rfl, ite2 (fun z => ?_) (fun z => ?_)⟩⟩⟩⟩
    · have hc : cellI ns ≥ 10 ^ 18 := by rw [ec]; exact of_decide_eq_true z
      refine ⟨V.int cell, rfl, ⟨_, 373, rfl, rfl, ⟨by decide, by decide⟩, ?_⟩⟩
      refine ⟨V.int cell, rfl, ⟨_, 1171, rfl, rfl, .inr ⟨by decide, by decide⟩, ⟨_, 113123, rfl, rfl, .inl ⟨_, rfl, ⟨_, 1048576, rfl, rfl, (show (0 : Int) < 1048576 by decide), ⟨(show 2 ≤ sizeLine by decide), fun p4 n4 => ?_⟩⟩⟩⟩⟩⟩
      rw [← ec]
      exact fin _ (by unfold cupI; rw [if_pos hc]) p4 n4
    · have hc : ¬ cellI ns ≥ 10 ^ 18 := by rw [ec]; exact fun y => z (decide_eq_true y)
      refine ⟨V.int cell, rfl, ⟨_, 1171, rfl, rfl, .inr ⟨by decide, by decide⟩, ⟨_, 113123, rfl, rfl, .inl ⟨_, rfl, ⟨_, 1048576, rfl, rfl, (show (0 : Int) < 1048576 by decide), ⟨(show 2 ≤ sizeLine by decide), fun p4 n4 => ?_⟩⟩⟩⟩⟩⟩
      rw [← ec]
      exact fin _ (by unfold cupI; rw [if_neg hc]) p4 n4
  · cases hr
end
end Mi

namespace Mi
open PySem PySem.Spec PyProof.Rows L2
/-! a law's def: what stands ahead of the cup, the cup, what stands behind it -/
section
variable {T : Tab} {k : Nat} {cs : Cs} {g : G} {B : Addr → Prop} {H0 : Hp} {S : Sc} {X : Cx} {W : WX} {wh : Nat} {B' : Addr → Prop} {H : Hp} {ρ : En} {c : Cp} {σ : L2.St}
theorem ss_app (G' : Good T k cs) (J : XS T k g S X W) {rest : List Stmt} {t2 : TS} (h2 : PSs X rest t2) : ∀ (n : Nat) (b : List Stmt) (f : Sv), cSs T cs wh S n b = some f → PSs X (b ++ rest) (fun D σ H => tS g B H0 W f { D with nx := t2 D } σ H)
  | 0, _, _, h => by cases h
  | n + 1, [], _, h => by
    cases h
    exact ⟨fun pins s σ H D I ⟨B', ρ, c, so, q⟩ => h2.run pins s σ H D I (posts_next (D := { D with nx := t2 D }) so q)⟩
  | n + 1, s :: r, _, h => by
    obtain ⟨a, b, e1, e2, rfl⟩ := map2_some h
    refine ⟨fun pins s σ H D I ⟨B', ρ, c, so, q⟩ => (pss_cons (s_good G' J (ss_good G' J n) e1) (ss_app G' J h2 n r b e2)).run pins s σ H D I ⟨B', ρ, c, so, ?_⟩⟩
    have q' : PostS g B H0 W B' H (bd (a ρ) (fun p => match p.1 with | .next => b p.2 | _ => rt p) c) { D with nx := t2 D } := q
    unfold bd at q'
    cases er : a ρ c with
    | stuck => rw [er] at q'; exact q'
    | err e c1 => rw [er] at q'; exact q'
    | ok p c1 =>
      rw [er] at q'
      obtain ⟨fl, ρ1⟩ := p
      cases fl with
      | next => exact fun B1 σ1 H1 s1 gr => ⟨B1, ρ1, c1, s1, PostS.later gr q'⟩
      | brk => exact q'
      | cont => exact q'
      | ret d => exact q'
/-! another cup -/
mutual
theorem Rp.reg {g g' : G} {B : Addr → Prop} {H : Hp} (hm : g.mg = g'.mg) (hc : g.ca = none) : ∀ {d : D} {v : V}, Rp g B H v d → Rp g' B H v d
  | .none, _, r => by cases r; exact .non
  | .bool _, _, r => by cases r; exact .bl _
  | .int _, _, r => by cases r; exact .int _
  | .str _, _, r => by cases r; exact .str _
  | .list ds, _, r => by
    cases r with
    | lst nb e ra => exact .lst nb e (RpA.reg hm hc ra)
  | .tuple ds, _, r => by
    cases r with
    | tup nb e ra => exact .tup nb e (RpA.reg hm hc ra)
  | .dict kvs, _, r => by
    cases r with
    | fn e => exact .fn (by rw [← hm]; exact e)
    | cup e => rw [hc] at e; cases e
    | ptr => exact .ptr
theorem RpA.reg {g g' : G} {B : Addr → Prop} {H : Hp} (hm : g.mg = g'.mg) (hc : g.ca = none) : ∀ {ds : List D} {vs : List V}, RpA g B H vs ds → RpA g' B H vs ds
  | [], _, r => by cases r; exact .nil
  | d :: ds, _, r => by
    cases r with
    | cons r1 r2 => exact .cons (Rp.reg hm hc r1) (RpA.reg hm hc r2)
end
theorem SOK.cup {mg : Str → Option Value} {TT : List (Addr × Str)} {p : Addr} {i : Nat} {a b : Int} {H2 : Hp} (s : SOK ⟨mg, none, TT⟩ B B' H0 ρ c σ H) (hp : H p = none) (up : ∀ b o, H b = some o → H2 b = some o) (dn : ∀ b, H2 b = none → H b = none) (e2 : H2 p = some (.lst [.int a, .int b])) :
    SOK ⟨mg, some p, TT⟩ (fun x => B x ∨ x = p) (fun x => B' x ∨ x = p) H0 (ρ.set i (.d dCup)) (some (a, b)) (σ.set i (some (.ref p))) H2 := by
  have gr : ∀ x o, H x = some o → ¬ B' x → (∀ ps, o ≠ .tbl ps) → H2 x = some o ∧ ¬ (B' x ∨ x = p) := fun x o e nb _ => ⟨up x o e, fun z => z.elim nb fun z => by rw [z, hp] at e; cases e⟩
  have old : ∀ {d : D} {v : V}, Rp ⟨mg, none, TT⟩ B' H v d → Rp ⟨mg, some p, TT⟩ (fun x => B' x ∨ x = p) H2 v d := fun r => Rp.reg (g := ⟨mg, none, TT⟩) (g' := ⟨mg, some p, TT⟩) rfl rfl (r.re gr)
  refine ⟨by rw [List.length_set, List.length_set]; exact s.len, fun j sl e => ?_, fun j l xs ys x e1 e2 e3 e4 => ?_, ⟨e2, fun q hq => ?_, fun x hx => ?_, fun x z => ?_⟩, fun x hx => hx.elim (fun z => .inl (s.sub x z)) .inr, fun x z => ?_, fun x o e nc nt => ?_, fun x z => s.dm x (dn x z)⟩
  · by_cases h : i = j
    · subst h
      by_cases hl : i < ρ.length
      · rw [List.getElem?_set_self hl] at e
        cases e
        rw [List.getElem?_set_self (by rw [← s.len]; exact hl)]
        exact ⟨.ref p, rfl, .cup rfl⟩
      · rw [List.getElem?_eq_none (by rw [List.length_set]; omega)] at e; cases e
    · rw [List.getElem?_set_ne h] at e ⊢
      have z := s.env j sl e
      cases sl with
      | no => trivial
      | d x => obtain ⟨v, h1, h2⟩ := z; exact ⟨v, h1, old h2⟩
      | box xs =>
        obtain ⟨q, vs, h1, h2, h3, h4, h5, h6⟩ := z
        refine ⟨q, vs, h1, .inl h2, fun y => y.elim h3 fun y => ?_, h4, up _ _ h5, RpA.reg (g := ⟨mg, none, TT⟩) (g' := ⟨mg, some p, TT⟩) rfl rfl (h6.re gr)⟩
        rw [y, hp] at h5; cases h5
  · have get : ∀ (j : Nat) (zs : List D), (ρ.set i (.d dCup))[j]? = some (.box zs) → i ≠ j := fun j zs e z => by
      subst z
      by_cases hl : i < ρ.length
      · rw [List.getElem?_set_self hl] at e; cases e
      · rw [List.getElem?_eq_none (by rw [List.length_set]; omega)] at e; cases e
    have n1 := get j xs e1
    have n2 := get l ys e2
    rw [List.getElem?_set_ne n1] at e1 e3
    rw [List.getElem?_set_ne n2] at e2 e4
    exact s.inj j l xs ys x e1 e2 e3 e4
  · obtain ⟨tb, t1, t2, t3⟩ := s.st.tabs q hq
    exact ⟨tb, up _ _ t1, t2, fun pos cv hcv => by
      obtain ⟨c0, y1, y2⟩ := t3 pos cv hcv
      exact ⟨c0, y1, up _ _ y2⟩⟩
  · rcases hx with hx | hx
    · obtain ⟨xs, e⟩ := s.st.dom x hx
      exact ⟨xs, up _ _ e⟩
    · rw [hx]; exact ⟨_, e2⟩
  · have z : some p = some x := z
    cases z
    exact .inr rfl
  · have z : some p = some x := z
    cases z
    exact .inr rfl
  · exact up _ _ (s.per x o e (fun z => by cases z) nt)
end
theorem sq_per {K : PySem.W.Frag} {H H' : Hp} {a : Addr} {xs : List V} (h : SqL K H a xs) (e : ∀ b o, H b = some o → (∀ ps, o ≠ .tbl ps) → H' b = some o) : SqL K H' a xs :=
  h.elim (fun h => .inl (h.elim (fun h => .inl (e _ _ h fun ps z => by cases z)) fun ⟨o, h⟩ => .inr ⟨o, e _ _ h fun ps z => by cases z⟩)) fun h => .inr h
def cCup (S : Sc) : Stmt → Option (Nat × Nat)
  | .Assign [.Name y _] (.Call (.Name f _) [.Name z _] [] _) _ => if f = "_law_cup" then chk (locX S y && visX S z && glX S f && !oddName y && !oddName z) (map2 Prod.mk (ixOf S.N y) (ixOf S.N z)) else none
  | _ => none
def spLaw (K : PySem.W.Frag) (TT : List (Addr × Str)) (n : Nat) : Sp := fun vs H Q _ => ∃ (a : Addr) (ns : List Int), vs = [V.ref a] ∧ ns.length ≤ n ∧ SqL K H a (ns.map V.int) ∧ LamX.Tabs TT H ∧ ∀ H', Q (.bl true) H'
section
variable {T : Tab} {k j wh fuel : Nat} {mg : Str → Option Value} {TT : List (Addr × Str)} {P : Program} {w : World} {K : PySem.W.Frag} {base : Heap} {x qual : Str} {params : Arguments} {pre post : List Stmt} {cst : Stmt} {scope : Scope} {f : Addr} {fd : FuncData} {N bx : List Str} {f1 f2 : Sv} {ic is : Nat} {fc : Addr} {fdc : FuncData}
/-- THE RULE of a law's def -/
theorem law_by {body : List Stmt} (F : FunD K x qual params body scope [] [] f fd) (hb : body = pre ++ cst :: post) (hS : fscB N ["script"] scope = true) (h1 : cSs T (comp T fuel) wh ⟨N, scope, fun _ => true, bx, false⟩ fuel pre = some f1) (h2 : cSs T (comp T fuel) wh ⟨N, scope, fun _ => true, bx, false⟩ fuel post = some f2)
    (hc : cCup ⟨N, scope, fun _ => true, bx, false⟩ cst = some (ic, is)) (tok : TOK T mg TT k P w K base) (hk : 1 ≤ k) (mc : mg "_law_cup" = some (.ref fc)) (kc : PySem.W.keepIn K (.ref fc) = true) (bc : Binds K fdc ["script"] []) (Fc : FnOk P w K mg base (L2N.CX P w) 1 fc fdc ["script"] (spCup K))
    (ev : ∀ (a : Nat) (ns : List Int), ns.length ≤ 63 → ∃ ρ1 ρ2 cE, f1 (initE N.length [dPtr a]) none = .ok (.next, ρ1) none ∧ ρ1[is]? = some (.d (dPtr a)) ∧ f2 (ρ1.set ic (.d dCup)) (some (cupI ns, cupJ ns)) = .ok (.ret (.bool true), ρ2) cE) :
    FnOk P w K mg base (L2N.CX P w) (k + 1) f fd ["script"] (spLaw K TT 63) := by
  have S := fscB_ok hS
  subst hb
  refine F.ok S (fun vs H Q E ⟨a, ns, e, _⟩ => by rw [e]; rfl) fun cdv A outer s H vs Q E hr hsp => ?_
  obtain ⟨a, ns, rfl, hn, hq, tt, q⟩ := hsp
  have XIof : ∀ ca : Option Addr, XS T k ⟨mg, ca, TT⟩ ⟨N, scope, fun _ => true, bx, false⟩ (cxOf (L2N.CX P w) P w K mg base N qual scope f cdv A outer s H E) (fun cls d _ H' => E cls d H') := fun ca =>
    ⟨⟨rfl, S.nd, rfl, rfl, rfl, rfl, hr, L2N.takes_of rfl rfl rfl rfl, tok, fun z => by cases z⟩, passes_of rfl, S.kind⟩
  have ppost : PSs (cxOf (L2N.CX P w) P w K mg base N qual scope f cdv A outer s H E) post (fun D σ H' => ∃ (p : Addr) (B1 : Addr → Prop), tS ⟨mg, some p, TT⟩ B1 H (fun cls d _ H' => E cls d H') f2 D σ H') :=
    ⟨fun pins s2 σ H' D I ⟨p, B1, h⟩ => (ss_good (comp_good fuel) (XIof (some p)) fuel post f2 h2).run pins s2 σ H' D I h⟩
  unfold cCup at hc
  split at hc
  · rename_i y py fn pf z pz pcall ppos
    by_cases hf : fn = "_law_cup"
    · rw [if_pos hf] at hc
      subst hf
      obtain ⟨k1, k2⟩ := chk_some hc
      simp only [Bool.and_eq_true, Bool.not_eq_true'] at k1
      obtain ⟨⟨⟨⟨v1, v2⟩, v3⟩, o1⟩, o2⟩ := k1
      obtain ⟨i1, i2, e1, e2, e3⟩ := map2_some k2
      cases e3
      obtain ⟨z1, z2, z3⟩ := odd_of o2
      have I0 := (XIof none).I
      obtain ⟨l1, l2⟩ := I0.loc v1
      have pcup := ps_asg (X := cxOf (L2N.CX P w) P w K mg base N qual scope f cdv A outer s H E) (pos := ppos) (pe_callS (pos := pcall) (p := pf) (E := fun σ => L2.WE (fun cls d _ H' => E cls d H') σ) (Fc.mono hk) hr (I0.gl v3) mc kc bc (fun σ => L2N.passAt I0.tk σ) (pa_cons (pe_var (pos := pz) (ixOf_some e2) (I0.vis v2) z1 z2) pa_nil) (by decide) rfl rfl)
        (pg_name (pos := py) S.nd (ixOf_some e1) l1 l2)
      have rule := ss_app (H0 := H) (B := fun _ => False) (comp_good fuel) (XIof none) (pss_cons pcup ppost) fuel pre f1 h1
      refine ⟨_, rule, ?_⟩
      have nl : ([dPtr a] : List D).length ≤ N.length := by
        have := congrArg List.length S.pre
        rw [List.length_take] at this
        simp only [List.length_singleton] at this ⊢
        omega
      have st0 : StH ⟨mg, none, TT⟩ (fun _ => False) none H := ⟨trivial, tt, fun _ z => z.elim, fun _ z => by cases z⟩
      obtain ⟨ρ1, ρ2, cE, x1, x2, x3⟩ := ev a ns hn
      refine ⟨fun _ => False, initE N.length [dPtr a], none, start_ok st0 (.cons .ptr .nil) nl, ?_⟩
      rw [x1]
      intro B1 σ1 H1 so gr
      obtain ⟨v, hv, rv⟩ := so.env is _ x2
      cases rv with
      | ptr =>
        refine ⟨.ref a, hv, a, ns, rfl, Nat.le_trans hn (by decide), sq_per hq (fun b o e nt => so.per b o e (fun z => by cases z) nt), fun p H3 hp up dn ep => ?_⟩
        refine ⟨p, _, _, _, _, so.cup hp up dn ep, ?_⟩
        rw [x3]
        intro v' H4 a4 r4
        cases r4
        exact q H4
    · rw [if_neg hf] at hc; cases hc
  · cases hc
end
end Mi

namespace Mi
open PySem PySem.Spec PyProof.Rows L2
/-! from a head's facts to the names -/
section
variable {mg : Str → Option Value} {TT : List (Addr × Str)} {k j : Nat} {P : Program} {w : World} {K : PySem.W.Frag} {base : Heap} {free : List Str} {nums : List (Str × Int)} {fs : List (Str × (Nat × (List D → M D)))} {excs : List Str} {lams : List (Str × (M D → M D))} {x : Str}
theorem tok_nil (h1 : ∀ x ∈ free, mg x = none) (h2 : ∀ p ∈ nums, ∃ t, mg p.1 = some (.int p.2 t)) (h3 : ∀ x ∈ excs, ExcF mg K x) (h4 : ∀ x ∈ bisN, mg x = none) : TOK ⟨free, nums, [], excs, bisT, blsT, []⟩ mg TT k P w K base where
  free := h1
  nums := fun x i h => h2 (x, i) (PySem.mem_of_lookup h)
  fns := fun x m F h => by cases h
  excs := h3
  bis := bis_ok h4
  bls := bls_ok h4
  lams := fun x F h => by cases h
theorem tok_mono (t : TOK ⟨free, nums, fs, excs, bisT, blsT, lams⟩ mg TT k P w K base) (hj : k ≤ j) : TOK ⟨free, nums, fs, excs, bisT, blsT, lams⟩ mg TT j P w K base where
  free := t.free
  nums := t.nums
  fns := fun x m F h => (t.fns x m F h).mono hj
  excs := t.excs
  bis := t.bis
  bls := t.bls
  lams := t.lams
theorem tok_cons {m : Nat} {F : List D → M D} (t : TOK ⟨free, nums, fs, excs, bisT, blsT, lams⟩ mg TT k P w K base) (h : FnH mg TT k P w K base x m F) : TOK ⟨free, nums, (x, (m, F)) :: fs, excs, bisT, blsT, lams⟩ mg TT k P w K base where
  free := t.free
  nums := t.nums
  fns := fun y n F' e => by
    rcases lookup_cons e with ⟨e1, e2⟩ | e3
    · subst e1; cases e2; exact h
    · exact t.fns y n F' e3
  excs := t.excs
  bis := t.bis
  bls := t.bls
  lams := t.lams
theorem tok_lam {F : M D → M D} (t : TOK ⟨free, nums, fs, excs, bisT, blsT, []⟩ mg TT k P w K base) (h : ∀ j, LamF mg TT j P w K base x F) : TOK ⟨free, nums, fs, excs, bisT, blsT, [(x, F)]⟩ mg TT k P w K base where
  free := t.free
  nums := t.nums
  fns := t.fns
  excs := t.excs
  bis := t.bis
  bls := t.bls
  lams := fun y F' e => by
    rcases lookup_cons e with ⟨e1, e2⟩ | e3
    · subst e1; cases e2; exact h
    · cases e3
/-- a def that tells nothing -/
theorem fn_no {m : Nat} {f : Addr} {fd : FuncData} {ps : List Str} (hm : mg x = some (.ref f)) (kp : PySem.W.keepIn K (.ref f) = true) (hb : Binds K fd ps []) (hl : ps.length = m) : FnH mg TT k P w K base x m (fun _ => no) :=
  ⟨f, fd, ps, hm, kp, hb, ⟨fun vs H Q E h => by rw [hl]; exact h.1, fun A outer s H args us vs Q E _ _ _ _ h => by
    obtain ⟨_, ca, B, ds, c, st, r, hp⟩ := h
    exact hp.elim⟩⟩
theorem code_ref {qual : Str} {params : Arguments} {body : List Stmt} {scope : Scope} {fd : FuncData} {p : Str × Option Str} (F : FunD K x qual params body scope [] [] (He.fAd K p) fd) : fd.code = .ref (He.codeOf K p) := by
  obtain ⟨oc, od, dV, kV, doc, pm, an, cdv, ct, osl, rfl, lk, hcd, _, _⟩ := F.ex
  obtain ⟨c, rfl⟩ := He.codeIn_ref hcd
  have e := He.codeOf_eq lk rfl
  show Value.ref c = _
  rw [e]
/-- what the head is asked of the exceptions' classes -/
def excCB (K : PySem.W.Frag) (D : Addr) : Bool :=
  He.eqO (PySem.W.findIn K (.ref D) "__getattribute__") (some (some (.builtin "BaseException.__getattribute__"))) && He.eqO (PySem.W.findIn K (.ref D) "__getattr__") (some none) && decide (PySem.W.subIn K (.ref D) (.type "BaseException") = some true) && PySem.W.hasDictIn K D &&
    He.eqO (PySem.W.findIn K (.ref D) "__class__") (some (some (.builtin "object.__class__"))) && He.eqO (PySem.W.specialIn K (.builtin "object.__class__") "__get__") (some (some (.builtin "getset_descriptor.__get__"))) && decide (PySem.W.takesIn K (.builtin "object.__class__") = some true) && decide (PySem.W.mroIn K D (.type "object") = some true)
theorem excCB_ok {D : Addr} (h : excCB K D = true) : ExcC K D := by
  unfold excCB at h
  simp only [Bool.and_eq_true, decide_eq_true_eq] at h
  obtain ⟨⟨⟨⟨⟨⟨⟨h1, h2⟩, h3⟩, h4⟩, h5⟩, h6⟩, h7⟩, h8⟩ := h
  exact ⟨He.eqO_ok h1, He.eqO_ok h2, h3, h4, He.eqO_ok h5, He.eqO_ok h6, h7, h8⟩
def excAll (isx : Str → Str → Bool) (cls : List Str) (tf : List He.Defn) (K : PySem.W.Frag) : Bool :=
  cls.all (fun x => excCB K (He.ga K x) && cls.all fun y => decide (PySem.W.kitOne K (.ref (He.ga K x)) (.ref (He.ga K y)) = some (isx x y))) && decide ((tf.map fun p => (He.cT K p).2).Nodup)
end
end Mi

namespace Mi
open PySem PySem.Spec PyProof.Rows L2
/-! evaluation, step by step -/
section
variable {ρ ρ' ρ1 : En} {c c1 c2 c3 : Cp} {x y z d : D} {f h fa fb fc : Ev} {t u : Tv} {a r : Av} {i j n m : Nat} {xs ys ds : List D} {k : Bool} {F : List D → M D} {b b2 : Sv}
theorem bd_ok {α β : Type} {m : M α} {f : α → M β} {x : α} (e : m c = .ok x c1) : bd m f c = f x c1 := by unfold bd; rw [e]
theorem bd_err {α β : Type} {m : M α} {f : α → M β} {e : Str} (h : m c = .err e c1) : bd m f c = .err e c1 := by unfold bd; rw [h]
theorem ev_var (e : ρ[i]? = some (.d x)) : eVar i ρ c = .ok x c := by unfold eVar; rw [e]; rfl
theorem ev_box (e : ρ[i]? = some (.box xs)) : eVar i ρ c = .ok (.list xs) c := by unfold eVar; rw [e]; rfl
theorem ev_cst : eCst x ρ c = .ok x c := rfl
theorem ev_nil : aNil ρ c = .ok [] c := rfl
theorem ev_cons (e1 : f ρ c = .ok x c1) (e2 : r ρ c1 = .ok xs c2) : aCons f r ρ c = .ok (x :: xs) c2 := by
  unfold aCons
  rw [bd_ok e1, bd_ok e2]; rfl
theorem ev_one (e1 : f ρ c = .ok x c1) : aCons f aNil ρ c = .ok [x] c1 := ev_cons e1 rfl
theorem ev_two (e1 : f ρ c = .ok x c1) (e2 : h ρ c1 = .ok y c2) : aCons f (aCons h aNil) ρ c = .ok [x, y] c2 := ev_cons e1 (ev_one e2)
theorem ev_tup (e : a ρ c = .ok xs c1) (hl : xs.length ≤ sizeLine) : eTup a ρ c = .ok (.tuple xs) c1 := by unfold eTup; rw [bd_ok e, if_pos hl]; rfl
theorem ev_lst (e : a ρ c = .ok xs c1) (hl : xs.length ≤ sizeLine) : eLst a ρ c = .ok (.list xs) c1 := by unfold eLst; rw [bd_ok e, if_pos hl]; rfl
theorem ev_ofA (e : a ρ c = .ok xs c1) : eOfA a ρ c = .ok (.list xs) c1 := by unfold eOfA; rw [bd_ok e]; rfl
theorem ev_bin {o : Operator} (e1 : fa ρ c = .ok x c1) (e2 : fb ρ c1 = .ok y c2) (e : binD o x y = some z) : eBin o fa fb ρ c = .ok z c2 := by
  unfold eBin; rw [bd_ok e1, bd_ok e2, e]; rfl
theorem ev_cmp {o : CmpOp} (e1 : fa ρ c = .ok x c1) (e2 : fb ρ c1 = .ok y c2) (e : cmpD o x y = some z) : eCmp o fa fb ρ c = .ok z c2 := by
  unfold eCmp; rw [bd_ok e1, bd_ok e2, e]; rfl
theorem ev_chain {o o' : CmpOp} (e1 : fa ρ c = .ok x c1) (e2 : fb ρ c1 = .ok y c2) (e3 : fc ρ c2 = .ok d c3) (h1 : cmpD o x y = some (.bool k)) (h2 : cmpD o' y d = some (.bool true) ∨ cmpD o' y d = some (.bool false)) (hc : c3 = c2) :
    ∃ k', cmpD o' y d = some (.bool k') ∧ eChain o o' fa fb fc ρ c = .ok (.bool (k && k')) c2 := by
  subst hc
  have go : ∀ k', cmpD o' y d = some (.bool k') → eChain o o' fa fb fc ρ c = .ok (.bool (k && k')) c3 := fun k' hk => by
    unfold eChain
    rw [bd_ok e1, bd_ok e2, h1]
    cases k with
    | true =>
      show bd (fc ρ) (fun z => ofO (cmpD o' y z)) c3 = _
      rw [bd_ok e3, hk]
      rfl
    | false => rfl
  rcases h2 with h2 | h2
  · exact ⟨true, h2, go true h2⟩
  · exact ⟨false, h2, go false h2⟩
theorem ev_call (e : a ρ c = .ok xs c1) (hl : xs.length = m) : eCall m F a ρ c = F xs c1 := by unfold eCall; rw [bd_ok e, if_pos hl]
theorem ev_bi {o : List D → Option D} (e : a ρ c = .ok xs c1) (ho : o xs = some z) : eBi o a ρ c = .ok z c1 := by unfold eBi; rw [bd_ok e, ho]; rfl
theorem ev_isa {T : String} (e : f ρ c = .ok x c1) (ho : isaB T x = some z) : eIsa T f ρ c = .ok z c1 := by unfold eIsa; rw [bd_ok e, ho]; rfl
theorem ev_not (e : f ρ c = .ok x c1) (ht : truD x = some k) : eNot f ρ c = .ok (.bool !k) c1 := by
  unfold eNot; rw [bd_ok e, ht]; rfl
theorem ev_and_t (e1 : fa ρ c = .ok x c1) (ht : truD x = some true) : eAnd fa fb ρ c = fb ρ c1 := by unfold eAnd; rw [bd_ok e1, ht]; rfl
theorem ev_and_f (e1 : fa ρ c = .ok x c1) (ht : truD x = some false) : eAnd fa fb ρ c = .ok x c1 := by unfold eAnd; rw [bd_ok e1, ht]; rfl
theorem ev_and_b {k' : Bool} (e1 : fa ρ c = .ok (.bool k) c1) (e2 : k = true → fb ρ c1 = .ok (.bool k') c1) : eAnd fa fb ρ c = .ok (.bool (k && k')) c1 := by
  cases k with
  | true => rw [ev_and_t e1 rfl, e2 rfl]; rfl
  | false => rw [ev_and_f e1 rfl]; rfl
theorem ev_ite (e : t ρ c = .ok k c1) : eIte t fa fb ρ c = (if k then fa ρ else fb ρ) c1 := by unfold eIte; rw [bd_ok e]
theorem ev_ix (e1 : fa ρ c = .ok x c1) (e2 : fb ρ c1 = .ok y c2) (e : ixD x y = some z) : eIx fa fb ρ c = .ok z c2 := by unfold eIx; rw [bd_ok e1, bd_ok e2, e]; rfl
theorem ev_neg {q : Int} (e : f ρ c = .ok (.int q) c1) : eNeg f ρ c = .ok (.int (-q)) c1 := by unfold eNeg; rw [bd_ok e]; rfl
theorem et_of (e : f ρ c = .ok x c1) (h : truD x = some k) : tOf f ρ c = .ok k c1 := by unfold tOf; rw [bd_ok e, h]; rfl
theorem et_ofb (e : f ρ c = .ok (.bool k) c1) : tOf f ρ c = .ok k c1 := et_of e rfl
theorem et_cm (e : f ρ c = .ok (.bool k) c1) : tCm f ρ c = .ok k c1 := by unfold tCm; rw [bd_ok e]; rfl
theorem et_no (e : t ρ c = .ok k c1) : tNo t ρ c = .ok (!k) c1 := by unfold tNo; rw [bd_ok e]; rfl
theorem et_an {k' : Bool} (e1 : t ρ c = .ok k c1) (e2 : k = true → u ρ c1 = .ok k' c1) : tAn t u ρ c = .ok (k && k') c1 := by
  unfold tAn
  rw [bd_ok e1]
  cases k with
  | true => simp only [if_true]; rw [e2 rfl]; rfl
  | false => rfl
theorem et_or {k' : Bool} (e1 : t ρ c = .ok k c1) (e2 : k = false → u ρ c1 = .ok k' c1) : tOr' t u ρ c = .ok (k || k') c1 := by
  unfold tOr'
  rw [bd_ok e1]
  cases k with
  | false => simp only [Bool.false_eq_true, if_false]; rw [e2 rfl]; rfl
  | true => rfl
/-! statements -/
theorem es_next {g : Sv} (e : b ρ c = .ok (.next, ρ1) c1) : sSeq b g ρ c = g ρ1 c1 := by unfold sSeq; rw [bd_ok e]
theorem es_out {g : Sv} {fl : Fl} (e : b ρ c = .ok (fl, ρ1) c1) (h : fl ≠ .next) : sSeq b g ρ c = .ok (fl, ρ1) c1 := by
  unfold sSeq; rw [bd_ok e]
  cases fl <;> first
    | exact absurd rfl h
    | rfl
theorem es_retd {g : Sv} (e : b ρ c = .ok (.ret d, ρ1) c1) : sSeq b g ρ c = .ok (.ret d, ρ1) c1 := es_out e (fun z => by cases z)
theorem es_err {g : Sv} {e : Str} (h : b ρ c = .err e c1) : sSeq b g ρ c = .err e c1 := by unfold sSeq; rw [bd_err h]
theorem es_ret (e : f ρ c = .ok d c1) : sRet f ρ c = .ok (.ret d, ρ) c1 := by unfold sRet; rw [bd_ok e]; rfl
theorem es_exp (e : f ρ c = .ok d c1) : sExp f ρ c = .ok (.next, ρ) c1 := by unfold sExp; rw [bd_ok e]; rfl
theorem es_if (e : t ρ c = .ok k c1) : sIf t b b2 ρ c = (if k then b ρ else b2 ρ) c1 := by unfold sIf; rw [bd_ok e]
theorem es_if_f (e : t ρ c = .ok false c1) : sIf t b sNop ρ c = .ok (.next, ρ) c1 := by rw [es_if e]; rfl
theorem es_asg (e : f (strict ρ) c = .ok d c1) : sAsg (.nm i) f ρ c = .ok (.next, ρ.set i (.d d)) c1 := by
  unfold sAsg
  have k : keepD f ρ c = .ok d c1 := by unfold keepD; rw [e]
  rw [bd_ok k]; rfl
theorem bod_ret (e : b (initE n ds) c = .ok (.ret d, ρ1) c1) : bodF n b ds c = .ok d c1 := by unfold bodF; rw [bd_ok e]; rfl
theorem bod_next (e : b (initE n ds) c = .ok (.next, ρ1) c1) : bodF n b ds c = .ok .none c1 := by unfold bodF; rw [bd_ok e]; rfl
theorem bod_err {e : Str} (h : b (initE n ds) c = .err e c1) : bodF n b ds c = .err e c1 := by unfold bodF; rw [bd_err h]
/-! walks -/
theorem ei_list {fx : Ev} (e : fx ρ c = .ok (.list ds) c1) : iVal fx ρ c = .ok ds c1 := by unfold iVal; rw [bd_ok e]; rfl
theorem ei_tup {fx : Ev} (e : fx ρ c = .ok (.tuple ds) c1) : iVal fx ρ c = .ok ds c1 := by unfold iVal; rw [bd_ok e]; rfl
theorem ei_r1 {fx : Ev} {q : Int} (e : fx ρ c = .ok (.int q) c1) (h : -(2 ^ 62) ≤ q ∧ q < 2 ^ 62) : iR1 fx ρ c = .ok (rangeD 0 q.toNat) c1 := by
  unfold iR1; rw [bd_ok e]; show (if _ then _ else _ : M (List D)) c1 = _; rw [if_pos h]; rfl
theorem ei_zipT (e1 : fa ρ c = .ok (.tuple xs) c1) (e2 : fb ρ c1 = .ok (.tuple ys) c2) : iZip fa fb ρ c = .ok (zipD xs ys) c2 := by unfold iZip; rw [bd_ok e1, bd_ok e2]; rfl
theorem ei_zipL (e1 : fa ρ c = .ok (.list xs) c1) (e2 : fb ρ c1 = .ok (.list ys) c2) : iZip fa fb ρ c = .ok (zipD xs ys) c2 := by unfold iZip; rw [bd_ok e1, bd_ok e2]; rfl
/-! comprehensions that leave the cup alone -/
theorem go_pure {st : D → M (List D)} (p : D → Bool) (q : D → D) : ∀ ds : List D, (∀ d ∈ ds, st d c = .ok (if p d then [q d] else []) c) → lcGo st ds c = .ok ((ds.filter p).map q) c
  | [], _ => rfl
  | d :: ds, hs => by
    show bd (st d) (fun l => bd (lcGo st ds) fun r => rt (l ++ r)) c = _
    rw [bd_ok (hs d List.mem_cons_self), bd_ok (go_pure p q ds fun e he => hs e (List.mem_cons_of_mem _ he)), List.filter_cons]
    cases p d <;> rfl
theorem lc_pure {own : List Nat} {tg : Tg} {iv : Iv} {cond : Tv} {elt : Ev} (p : D → Bool) (q : D → D) (hi : iv ρ c = .ok ds c) (hl : ds.length ≤ sizeLine)
    (hs : ∀ d ∈ ds, ∃ ρ', bindT tg d (wipeE ρ own) = some ρ' ∧ cond ρ' c = .ok (p d) c ∧ (p d = true → elt ρ' c = .ok (q d) c)) : lcF own tg iv cond elt ρ c = .ok ((ds.filter p).map q) c := by
  unfold lcF
  rw [bd_ok hi]
  unfold noErr
  have e : lcGo (step1 (wipeE ρ own) tg cond elt) ds c = .ok ((ds.filter p).map q) c := go_pure p q ds fun d hd => by
    obtain ⟨ρ', e1, e2, e3⟩ := hs d hd
    unfold step1
    rw [e1]
    simp only
    rw [bd_ok e2]
    cases hp : p d with
    | true => simp only [if_true]; rw [bd_ok (e3 hp)]; rfl
    | false => rfl
  rw [bd_ok e, if_pos (Nat.le_trans (by rw [List.length_map]; exact List.length_filter_le ..) hl)]
  rfl
theorem lc_all {own : List Nat} {tg : Tg} {iv : Iv} {elt : Ev} (q : D → D) (hi : iv ρ c = .ok ds c) (hl : ds.length ≤ sizeLine)
    (hs : ∀ d ∈ ds, ∃ ρ', bindT tg d (wipeE ρ own) = some ρ' ∧ elt ρ' c = .ok (q d) c) : lcF own tg iv tAll elt ρ c = .ok (ds.map q) c := by
  have z := lc_pure (own := own) (tg := tg) (cond := tAll) (elt := elt) (fun _ => true) q hi hl fun d hd => by
    obtain ⟨ρ', e1, e2⟩ := hs d hd
    exact ⟨ρ', e1, rfl, fun _ => e2⟩
  rw [z, List.filter_eq_self.mpr fun _ _ => rfl]
end
end Mi

namespace Mi
open PySem PySem.Spec PyProof.Rows L2
/-! plain values as data -/
def barsI (bs : List (List Int)) : D := .tuple (bs.map tupI)
def Sh (k : Nat) (d : D) : Prop := d.canLay0 = true ∧ d.depth ≤ k
def ShA (k : Nat) (ds : List D) : Prop := PyData.canLayAll0 ds = true ∧ PyData.depthAll ds ≤ k
theorem Sh.ok {k : Nat} {d : D} (h : Sh k d) (hk : k ≤ 64 := by decide) : SeqAt.shaped d = true := by
  unfold SeqAt.shaped
  rw [h.1, decide_eq_true (Nat.le_trans h.2 hk)]; rfl
theorem sh_all {k : Nat} : ∀ {ds : List D}, (∀ d ∈ ds, Sh k d) → ShA k ds
  | [], _ => ⟨by rw [PyData.canLayAll0], by rw [PyData.depthAll]; exact Nat.zero_le _⟩
  | d :: ds, h => by
    have a := h d List.mem_cons_self
    have b := sh_all fun e he => h e (List.mem_cons_of_mem _ he)
    refine ⟨?_, ?_⟩
    · rw [PyData.canLayAll0, a.1, b.1]; rfl
    · rw [PyData.depthAll]; exact Nat.max_le.mpr ⟨a.2, b.2⟩
theorem Sh.tup {k : Nat} {ds : List D} (h : ∀ d ∈ ds, Sh k d) : Sh (k + 1) (.tuple ds) := by
  have b := sh_all h
  refine ⟨by rw [PyData.canLay0]; exact b.1, ?_⟩
  have := b.2
  rw [PyData.depth]; omega
theorem Sh.lst {k : Nat} {ds : List D} (h : ∀ d ∈ ds, Sh k d) : Sh (k + 1) (.list ds) := by
  have b := sh_all h
  refine ⟨by rw [PyData.canLay0]; exact b.1, ?_⟩
  have := b.2
  rw [PyData.depth]; omega
theorem Sh.int {k : Nat} {i : Int} : Sh k (.int i) := ⟨by rw [PyData.canLay0], by rw [PyData.depth] <;> first | exact Nat.zero_le _ | (intros; nofun)⟩
theorem Sh.bool {k : Nat} {i : Bool} : Sh k (.bool i) := ⟨by rw [PyData.canLay0], by rw [PyData.depth] <;> first | exact Nat.zero_le _ | (intros; nofun)⟩
theorem Sh.non {k : Nat} : Sh k .none := ⟨by rw [PyData.canLay0], by rw [PyData.depth] <;> first | exact Nat.zero_le _ | (intros; nofun)⟩
theorem Sh.mono {k m : Nat} {d : D} (h : Sh k d) (l : k ≤ m) : Sh m d := ⟨h.1, Nat.le_trans h.2 l⟩
theorem Sh.ints {k : List Int} : ∀ d ∈ k.map PyData.int, Sh 0 d := fun d hd => by
  obtain ⟨i, _, rfl⟩ := List.mem_map.mp hd
  exact .int
theorem Sh.tupI {k : List Int} : Sh 1 (tupI k) := .tup Sh.ints
theorem Sh.rows {ks : List (List Int)} : ∀ d ∈ ks.map Mi.tupI, Sh 1 d := fun d hd => by
  obtain ⟨i, _, rfl⟩ := List.mem_map.mp hd
  exact .tupI
theorem Sh.barsI {ks : List (List Int)} : Sh 2 (barsI ks) := .tup Sh.rows
/-! equality -/
theorem eqv_int {i j : Int} : PyData.eqv (.int i) (.int j) = decide (i = j) := by
  unfold PyData.eqv
  by_cases e : i = j <;> simp [e]
theorem eqv_ints : ∀ {k l : List Int}, PyData.eqvAll (k.map .int) (l.map .int) = decide (k = l)
  | [], [] => by rfl
  | [], _ :: _ => by rfl
  | _ :: _, [] => by rfl
  | i :: k, j :: l => by
    show (PyData.eqv (.int i) (.int j) && PyData.eqvAll (k.map .int) (l.map .int)) = _
    rw [eqv_int, eqv_ints]
    by_cases h1 : i = j <;> by_cases h2 : k = l <;> simp [h1, h2]
theorem eqv_tupI {k l : List Int} : PyData.eqv (tupI k) (tupI l) = decide (k = l) := eqv_ints
theorem any_ints {k : List Int} {i : Int} : ((k.map PyData.int).any fun z => PyData.eqv z (.int i)) = k.contains i := by
  induction k with
  | nil => rfl
  | cons j k ih =>
    rw [List.map_cons, List.any_cons, ih, eqv_int, List.contains_cons]
    by_cases h : j = i
    · subst h; simp
    · have h' : ¬ i = j := fun e => h e.symm
      rw [decide_eq_false h]
      simp [h']
theorem cmp_in_t {k : List Int} {i : Int} : cmpD .In (.int i) (tupI k) = some (.bool (k.contains i)) := by
  show (if SeqAt.shaped (.int i) && SeqAt.shaped (tupI k) then some ((k.map PyData.int).any fun z => PyData.eqv z (.int i)) else none).map PyData.bool = _
  rw [Sh.int.ok (k := 0), Sh.tupI.ok, any_ints]; rfl
theorem cmp_nin_t {k : List Int} {i : Int} : cmpD .NotIn (.int i) (tupI k) = some (.bool (!k.contains i)) := by
  show (if SeqAt.shaped (.int i) && SeqAt.shaped (tupI k) then some ((k.map PyData.int).any fun z => PyData.eqv z (.int i)) else none).map (fun b => PyData.bool !b) = _
  rw [Sh.int.ok (k := 0), Sh.tupI.ok, any_ints]; rfl
theorem cmp_in_l {k : List Int} {i : Int} : cmpD .In (.int i) (.list (k.map .int)) = some (.bool (k.contains i)) := by
  show (if SeqAt.shaped (.int i) && SeqAt.shaped (.list (k.map .int)) then some ((k.map PyData.int).any fun z => PyData.eqv z (.int i)) else none).map PyData.bool = _
  rw [Sh.int.ok (k := 0), (Sh.lst Sh.ints).ok, any_ints]; rfl
theorem cmp_nin_l {k : List Int} {i : Int} : cmpD .NotIn (.int i) (.list (k.map .int)) = some (.bool (!k.contains i)) := by
  show (if SeqAt.shaped (.int i) && SeqAt.shaped (.list (k.map .int)) then some ((k.map PyData.int).any fun z => PyData.eqv z (.int i)) else none).map (fun b => PyData.bool !b) = _
  rw [Sh.int.ok (k := 0), (Sh.lst Sh.ints).ok, any_ints]; rfl
theorem cmp_ne_i {i j : Int} : cmpD .NotEq (.int i) (.int j) = some (.bool (!decide (i = j))) := by
  show (if SeqAt.shaped (.int i) && SeqAt.shaped (.int j) then some (PyData.eqv (.int i) (.int j)) else none).map (fun b => PyData.bool !b) = _
  rw [Sh.int.ok (k := 0), Sh.int.ok (k := 0), eqv_int]; rfl
theorem cmp_eq_i {i j : Int} : cmpD .Eq (.int i) (.int j) = some (.bool (decide (i = j))) := by
  show (if SeqAt.shaped (.int i) && SeqAt.shaped (.int j) then some (PyData.eqv (.int i) (.int j)) else none).map PyData.bool = _
  rw [Sh.int.ok (k := 0), Sh.int.ok (k := 0), eqv_int]; rfl
theorem cmp_ne_t {k l : List Int} : cmpD .NotEq (tupI k) (tupI l) = some (.bool (!decide (k = l))) := by
  show (if SeqAt.shaped (tupI k) && SeqAt.shaped (tupI l) then some (PyData.eqv (tupI k) (tupI l)) else none).map (fun b => PyData.bool !b) = _
  rw [Sh.tupI.ok, Sh.tupI.ok, eqv_tupI]; rfl
theorem cmp_eq_t {k l : List Int} : cmpD .Eq (tupI k) (tupI l) = some (.bool (decide (k = l))) := by
  show (if SeqAt.shaped (tupI k) && SeqAt.shaped (tupI l) then some (PyData.eqv (tupI k) (tupI l)) else none).map PyData.bool = _
  rw [Sh.tupI.ok, Sh.tupI.ok, eqv_tupI]; rfl
theorem eqv_nil_l {ds : List D} : PyData.eqv (.list ds) (.list []) = ds.isEmpty := by cases ds <;> rfl
theorem cmp_eq_nil {n : Nat} {ds : List D} (h : ∀ d ∈ ds, Sh n d) (hn : n < 64 := by decide) : cmpD .Eq (.list ds) (.list []) = some (.bool ds.isEmpty) := by
  show (if SeqAt.shaped (.list ds) && SeqAt.shaped (.list []) then some (PyData.eqv (.list ds) (.list [])) else none).map PyData.bool = _
  rw [(Sh.lst h).ok hn, show SeqAt.shaped (.list []) = true from rfl, eqv_nil_l]; rfl
theorem cmp_ne_nil {n : Nat} {ds : List D} (h : ∀ d ∈ ds, Sh n d) (hn : n < 64 := by decide) : cmpD .NotEq (.list ds) (.list []) = some (.bool (!ds.isEmpty)) := by
  show (if SeqAt.shaped (.list ds) && SeqAt.shaped (.list []) then some (PyData.eqv (.list ds) (.list [])) else none).map (fun b => PyData.bool !b) = _
  rw [(Sh.lst h).ok hn, show SeqAt.shaped (.list []) = true from rfl, eqv_nil_l]; rfl
theorem cmp_lt_i {i j : Int} : cmpD .Lt (.int i) (.int j) = some (.bool (decide (i < j))) := by
  show (if SeqAt.shaped (.int i) && SeqAt.shaped (.int j) && true then some (PyData.bool (decide (i < j))) else none) = _
  rw [Sh.int.ok (k := 0), Sh.int.ok (k := 0)]; rfl
theorem cmp_le_i {i j : Int} : cmpD .LtE (.int i) (.int j) = some (.bool (decide (i ≤ j))) := by
  show (if SeqAt.shaped (.int i) && SeqAt.shaped (.int j) && true then some (PyData.bool (decide (i ≤ j))) else none) = _
  rw [Sh.int.ok (k := 0), Sh.int.ok (k := 0)]; rfl
/-! bools -/
theorem bools_map {α : Type} (l : List α) (p : α → Bool) : bools (l.map fun x => .bool (p x)) = some (l.map p) := by
  induction l with
  | nil => rfl
  | cons x l ih =>
    show (bools (l.map fun x => .bool (p x))).map (p x :: ·) = _
    rw [ih]; rfl
theorem all_map {α : Type} {l : List α} {p : α → Bool} : allB [.list (l.map fun x => .bool (p x))] = some (.bool (l.all p)) := by
  show (bools _).map _ = _
  rw [bools_map]
  show some (PyData.bool _) = _
  rw [List.all_map]; rfl
theorem any_map {α : Type} {l : List α} {p : α → Bool} : anyB [.list (l.map fun x => .bool (p x))] = some (.bool (l.any p)) := by
  show (bools _).map _ = _
  rw [bools_map]
  show some (PyData.bool _) = _
  rw [List.any_map]; rfl
/-! comprehensions over encoded lists -/
section
variable {β : Type} {ρ : En} {c : Cp} {own : List Nat} {tg : Tg} {iv : Iv} {cond : Tv} {elt : Ev}
theorem go_enc {st : D → M (List D)} (g : β → D) (p : β → Bool) (q : β → D) : ∀ l : List β, (∀ b ∈ l, st (g b) c = .ok (if p b then [q b] else []) c) → lcGo st (l.map g) c = .ok ((l.filter p).map q) c
  | [], _ => rfl
  | b :: l, hs => by
    show bd (st (g b)) (fun l' => bd (lcGo st (l.map g)) fun r => rt (l' ++ r)) c = _
    rw [bd_ok (hs b List.mem_cons_self), bd_ok (go_enc g p q l fun e he => hs e (List.mem_cons_of_mem _ he)), List.filter_cons]
    cases p b <;> rfl
theorem lc_enc (l : List β) (g : β → D) (p : β → Bool) (q : β → D) (hi : iv ρ c = .ok (l.map g) c) (hl : l.length ≤ sizeLine)
    (hs : ∀ b ∈ l, ∃ ρ', bindT tg (g b) (wipeE ρ own) = some ρ' ∧ cond ρ' c = .ok (p b) c ∧ (p b = true → elt ρ' c = .ok (q b) c)) : lcF own tg iv cond elt ρ c = .ok ((l.filter p).map q) c := by
  unfold lcF
  rw [bd_ok hi]
  unfold noErr
  have e : lcGo (step1 (wipeE ρ own) tg cond elt) (l.map g) c = .ok ((l.filter p).map q) c := go_enc g p q l fun d hd => by
    obtain ⟨ρ', e1, e2, e3⟩ := hs d hd
    unfold step1
    rw [e1]
    simp only
    rw [bd_ok e2]
    cases hp : p d with
    | true => simp only [if_true]; rw [bd_ok (e3 hp)]; rfl
    | false => rfl
  rw [bd_ok e, if_pos (Nat.le_trans (by rw [List.length_map]; exact List.length_filter_le ..) hl)]
  rfl
theorem lc_encA (l : List β) (g : β → D) (q : β → D) (hi : iv ρ c = .ok (l.map g) c) (hl : l.length ≤ sizeLine)
    (hs : ∀ b ∈ l, ∃ ρ', bindT tg (g b) (wipeE ρ own) = some ρ' ∧ elt ρ' c = .ok (q b) c) : lcF own tg iv tAll elt ρ c = .ok (l.map q) c := by
  have z := lc_enc (own := own) (tg := tg) (cond := tAll) (elt := elt) l g (fun _ => true) q hi hl fun d hd => by
    obtain ⟨ρ', e1, e2⟩ := hs d hd
    exact ⟨ρ', e1, rfl, fun _ => e2⟩
  rw [z, List.filter_eq_self.mpr fun _ _ => rfl]
/-- a for loop that only changes the frame -/
theorem for_inv {t : Tg} {body : Sv} (I : List D → En → Cp → Prop) (hs : ∀ d ds ρ c, I (d :: ds) ρ c → ∃ ρ' ρ2 c2, bindT t d ρ = some ρ' ∧ body ρ' c = .ok (.next, ρ2) c2 ∧ I ds ρ2 c2) :
    ∀ ds ρ c, I ds ρ c → ∃ ρ2 c2, forGo t body ds ρ c = .ok (.next, ρ2) c2 ∧ I [] ρ2 c2
  | [], ρ, c, h => ⟨ρ, c, rfl, h⟩
  | d :: ds, ρ, c, h => by
    obtain ⟨ρ', ρ2, c2, e1, e2, h2⟩ := hs d ds ρ c h
    obtain ⟨ρ3, c3, e3, h3⟩ := for_inv I hs ds ρ2 c2 h2
    refine ⟨ρ3, c3, ?_, h3⟩
    unfold forGo
    rw [e1]
    simp only
    rw [bd_ok e2]
    exact e3
theorem es_for {t : Tg} {body : Sv} {ds : List D} {r : Re (Fl × En)} {c1 : Cp} (hi : iv (strict ρ) c = .ok ds c1) (h : forGo t body ds ρ c1 = r) : sFor t iv body ρ c = r := by
  unfold sFor; rw [bd_ok hi]; exact h
end
/-! ranges -/
def rgI (n : Nat) : List Int := (List.range n).map fun (i : Nat) => (i : Int)
theorem range_rgI (n : Nat) : rangeD 0 n = (rgI n).map .int := by
  unfold rangeD rgI
  rw [List.map_map]
  apply List.map_congr_left
  intro a _
  simp
theorem mem_rgI {n : Nat} {i : Int} : i ∈ rgI n ↔ 0 ≤ i ∧ i < n := by
  unfold rgI
  rw [List.mem_map]
  constructor
  · rintro ⟨a, h, rfl⟩
    have := List.mem_range.mp h
    omega
  · rintro ⟨h1, h2⟩
    exact ⟨i.toNat, List.mem_range.mpr (by omega), by omega⟩
theorem len_rgI {n : Nat} : (rgI n).length = n := by simp [rgI]
theorem get_rgI {n : Nat} {i : Nat} (h : i < n) : (rgI n)[i]? = some (i : Int) := by
  unfold rgI; rw [List.getElem?_map, List.getElem?_range h]; rfl
theorem pw_rgI (n : Nat) : (rgI n).Pairwise (· < ·) := by
  unfold rgI
  refine List.pairwise_map.mpr ?_
  exact List.pairwise_lt_range.imp fun h => by omega
theorem ei_rg {ρ : En} {c c1 : Cp} {f : Ev} {n : Nat} (e : f ρ c = .ok (.int (n : Int)) c1) (h : (n : Int) < 2 ^ 62) : iR1 f ρ c = .ok ((rgI n).map .int) c1 := by
  rw [← range_rgI]
  have z := ei_r1 (q := (n : Int)) e ⟨by omega, h⟩
  rw [z]; simp
end Mi

namespace Mi
open PySem PySem.Spec PyProof.Rows L2
section
variable {β γ : Type} {ρ ρ' : En} {c c1 c2 : Cp} {own vs1 : List Nat} {tg t1 : Tg} {iv iv1 : Iv} {cond cond1 : Tv} {elt fa fb fc f : Ev} {x : D}
/-- two walks, the one within the other -/
def pairsL (l : List β) (m : β → List γ) : List (β × γ) := l.flatMap fun a => (m a).map fun b => (a, b)
theorem mem_pairs {l : List β} {m : β → List γ} {a : β} {b : γ} : (a, b) ∈ pairsL l m ↔ a ∈ l ∧ b ∈ m a := by
  unfold pairsL
  rw [List.mem_flatMap]
  constructor
  · rintro ⟨x, hx, h⟩
    obtain ⟨y, hy, e⟩ := List.mem_map.mp h
    cases e
    exact ⟨hx, hy⟩
  · rintro ⟨h1, h2⟩
    exact ⟨a, h1, List.mem_map.mpr ⟨b, h2, rfl⟩⟩
theorem go2_enc {st : D → M (List D)} (g : β → D) (m : β → List γ) (q : β × γ → D) : ∀ l : List β, (∀ b ∈ l, st (g b) c = .ok ((m b).map fun x => q (b, x)) c) → lcGo st (l.map g) c = .ok ((pairsL l m).map q) c
  | [], _ => rfl
  | b :: l, hs => by
    show bd (st (g b)) (fun l' => bd (lcGo st (l.map g)) fun r => rt (l' ++ r)) c = _
    rw [bd_ok (hs b List.mem_cons_self), bd_ok (go2_enc g m q l fun e he => hs e (List.mem_cons_of_mem _ he))]
    unfold pairsL
    rw [List.flatMap_cons, List.map_append, List.map_map]
    rfl
theorem len_pairs (l : List β) (m : β → List γ) (k : Nat) (h : ∀ b ∈ l, (m b).length ≤ k) : (pairsL l m).length ≤ l.length * k := by
  unfold pairsL
  induction l with
  | nil => simp
  | cons b l ih =>
    rw [List.flatMap_cons, List.length_append, List.length_map, List.length_cons, Nat.succ_mul]
    have := h b List.mem_cons_self
    have := ih fun x hx => h x (List.mem_cons_of_mem _ hx)
    omega
theorem lc2_enc (l : List β) (g : β → D) (m : β → List γ) (g2 : γ → D) (q : β × γ → D) (k : Nat) (hi : iv ρ c = .ok (l.map g) c) (hk : ∀ b ∈ l, (m b).length ≤ k) (hl : l.length * k ≤ sizeLine)
    (hs : ∀ b ∈ l, ∃ ρ', bindT tg (g b) (wipeE ρ own) = some ρ' ∧ iv1 ρ' c = .ok ((m b).map g2) c ∧ ∀ x ∈ m b, ∃ ρ2, bindT t1 (g2 x) (wipeE ρ' vs1) = some ρ2 ∧ elt ρ2 c = .ok (q (b, x)) c) :
    lc2F own tg iv tAll vs1 iv1 t1 tAll elt ρ c = .ok ((pairsL l m).map q) c := by
  unfold lc2F
  rw [bd_ok hi]
  unfold noErr
  have e : lcGo (step2 (wipeE ρ own) tg tAll vs1 iv1 t1 tAll elt) (l.map g) c = .ok ((pairsL l m).map q) c := go2_enc g m q l fun d hd => by
    obtain ⟨ρ', e1, e2, e3⟩ := hs d hd
    unfold step2
    rw [e1]
    simp only
    have t0 : (rt true : M Bool) c = .ok true c := rfl
    show bd (rt true) _ c = _
    rw [bd_ok t0, if_pos rfl, bd_ok e2]
    rw [go_enc g2 (fun _ => true) (fun x => q (d, x)) (m d) fun x hx => by
      obtain ⟨ρ2, h1, h2⟩ := e3 x hx
      unfold step1
      rw [h1]
      simp only
      show bd (rt true) _ c = _
      rw [bd_ok t0, if_pos rfl, bd_ok h2]
      rfl]
    rw [List.filter_eq_self.mpr fun _ _ => rfl]
  rw [bd_ok e, if_pos (by rw [List.length_map]; exact Nat.le_trans (len_pairs l m k hk) hl)]
  rfl
theorem zip_enc {δ : Type} (g : β → D) (h : δ → D) : ∀ (l : List β) (m : List δ), zipD (l.map g) (m.map h) = (l.zip m).map fun p => .tuple [g p.1, h p.2]
  | [], _ => rfl
  | _ :: _, [] => rfl
  | a :: l, b :: m => by
    show PyData.tuple [g a, h b] :: zipD (l.map g) (m.map h) = _
    rw [zip_enc g h l m]; rfl
theorem cut_1 {α : Type} (l : List α) : cutL l (some 1) none = l.drop 1 := by
  unfold cutL
  cases l with
  | nil => rfl
  | cons a l =>
    have e : HT.sIx (a :: l).length 0 (some 1) = 1 := by
      rw [show (1 : Int) = ((1 : Nat) : Int) from rfl, HT.sIx_nat]
      simp
    rw [e, HT.sIx_none]
    apply List.take_of_length_le
    simp
theorem ev_tail_t {l : List β} {g : β → D} (e : f ρ c = .ok (.tuple (l.map g)) c1) : eSl f (oSo (eCst (.int 1))) oNo ρ c = .ok (.tuple ((l.drop 1).map g)) c1 := by
  unfold eSl
  rw [bd_ok e]
  show ofO (slD (some 1) none (PyData.tuple (l.map g))) c1 = _
  show Re.ok (PyData.tuple (cutL (l.map g) (some 1) none)) c1 = _
  rw [cut_1, List.map_drop]
theorem cmp_is_none {o : Option (List Int)} : cmpD .Is (match o with | none => .none | some b => tupI b) .none = some (.bool o.isNone) := by
  cases o <;> rfl
theorem chain_le {i j k : Int} (e1 : fa ρ c = .ok (.int i) c) (e2 : fb ρ c = .ok (.int j) c) (e3 : fc ρ c = .ok (.int k) c) : eChain .LtE .LtE fa fb fc ρ c = .ok (.bool (decide (i ≤ j) && decide (j ≤ k))) c := by
  have h2 : cmpD .LtE (.int j) (.int k) = some (.bool true) ∨ cmpD .LtE (.int j) (.int k) = some (.bool false) := by
    rw [cmp_le_i]; cases decide (j ≤ k) <;> simp
  obtain ⟨k', a, b⟩ := ev_chain (o := .LtE) (o' := .LtE) e1 e2 e3 cmp_le_i h2 rfl
  rw [cmp_le_i] at a
  cases a
  exact b
theorem ix_nat {ds : List D} {k : Nat} {x : D} (h : ds[k]? = some x) : ixD (.list ds) (.int k) = some x := atI_nat h
/-! where nothing comes -/
theorem lc_stuck {d : D} {ds : List D} (hi : iv ρ c = .ok (d :: ds) c) (hb : bindT tg d (wipeE ρ own) = some ρ') (hs : cond ρ' c = .stuck ∨ (cond ρ' c = .ok true c ∧ elt ρ' c = .stuck)) : lcF own tg iv cond elt ρ c = .stuck := by
  have e : step1 (wipeE ρ own) tg cond elt d c = .stuck := by
    unfold step1
    rw [hb]
    simp only
    rcases hs with h | ⟨h1, h2⟩
    · unfold bd; rw [h]
    · rw [bd_ok h1, if_pos rfl]
      unfold bd; rw [h2]
  unfold lcF
  rw [bd_ok hi]
  unfold noErr
  have e2 : bd (lcGo (step1 (wipeE ρ own) tg cond elt) (d :: ds)) (fun xs => if xs.length ≤ sizeLine then rt xs else no) c = .stuck := by
    have e3 : lcGo (step1 (wipeE ρ own) tg cond elt) (d :: ds) c = .stuck := by
      show bd (step1 (wipeE ρ own) tg cond elt d) _ c = .stuck
      unfold bd; rw [e]
    unfold bd; rw [e3]
  rw [e2]
theorem stuck_bd {α β : Type} {m : M α} {f : α → M β} (h : m c = .stuck) : bd m f c = .stuck := by unfold bd; rw [h]
theorem es_box {k : Nat} {fa : Av} {xs : List D} (e : fa (strict ρ) c = .ok xs c1) : sBox k fa ρ c = .ok (.next, ρ.set k (.box xs)) c1 := by
  unfold sBox
  have z : keepL fa ρ c = .ok xs c1 := by unfold keepL; rw [e]
  rw [bd_ok z]; rfl
theorem es_box2 {k : Nat} {fa : Av} {xs : List D} (e1 : fa (strict ρ) c = .stuck) (e : fa ρ c = .ok xs c1) (hn : noLs xs = true) : sBox k fa ρ c = .ok (.next, ρ.set k (.box xs)) c1 := by
  unfold sBox
  have z : keepL fa ρ c = .ok xs c1 := by unfold keepL; rw [e1, e]; simp only; rw [if_pos hn]
  rw [bd_ok z]; rfl
theorem es_app {k : Nat} {xs : List D} (hb : ρ[k]? = some (.box xs)) (e : f (strict ρ) c = .ok x c1) (hl : xs.length < sizeLine) : sApp k f ρ c = .ok (.next, ρ.set k (.box (xs ++ [x]))) c1 := by
  unfold sApp
  rw [hb]
  have z : keepD f ρ c = .ok x c1 := by unfold keepD; rw [e]
  simp only
  rw [bd_ok z, if_pos hl]; rfl
/-! a statement and what follows, the cup as it was -/
section
variable {d : D} {g : Sv} {r : Re (Fl × En)} {ρ1 : En} {b : Sv} {t : Tv} {i : Nat} {xs ds : List D} {fa : Av} {T : Tg} {f1 f2 f3 f4 : Ev} {x1 x2 x3 x4 : D}
theorem sp_asg (d : D) (e : f (strict ρ) c = .ok d c) (k : g (ρ.set i (.d d)) c = r) : sSeq (sAsg (.nm i) f) g ρ c = r := (es_next (es_asg e)).trans k
theorem sp_if (e : t ρ c = .ok false c) (k : g ρ c = r) : sSeq (sIf t b sNop) g ρ c = r := (es_next (es_if_f e)).trans k
theorem sp_ift {g' b2 : Sv} {fl : Fl} (e : t ρ c = .ok true c) (k : b ρ c = .ok (fl, ρ1) c1) (h : fl ≠ .next) : sSeq (sIf t b b2) g' ρ c = .ok (fl, ρ1) c1 := es_out ((es_if e).trans (by rw [if_pos rfl]; exact k)) h
theorem sp_exp (e : f ρ c = .ok d c) (k : g ρ c = r) : sSeq (sExp f) g ρ c = r := (es_next (es_exp e)).trans k
theorem sp_ret (e : f ρ c = .ok d c1) : sSeq (sRet f) g ρ c = .ok (.ret d, ρ) c1 := es_retd (es_ret e)
theorem sp_box (xs : List D) (e : fa (strict ρ) c = .ok xs c) (k : g (ρ.set i (.box xs)) c = r) : sSeq (sBox i fa) g ρ c = r := (es_next (es_box e)).trans k
theorem sp_box2 (xs : List D) (e1 : fa (strict ρ) c = .stuck) (e : fa ρ c = .ok xs c) (hn : noLs xs = true) (k : g (ρ.set i (.box xs)) c = r) : sSeq (sBox i fa) g ρ c = r := (es_next (es_box2 e1 e hn)).trans k
theorem sp_app (x : D) (hb : ρ[i]? = some (.box xs)) (e : f (strict ρ) c = .ok x c) (hl : xs.length < sizeLine) (k : g (ρ.set i (.box (xs ++ [x]))) c = r) : sSeq (sApp i f) g ρ c = r := (es_next (es_app hb e hl)).trans k
theorem sp_for (ds : List D) (hi : iv (strict ρ) c = .ok ds c) (hf : forGo T b ds ρ c = .ok (.next, ρ1) c1) (k : g ρ1 c1 = r) : sSeq (sFor T iv b) g ρ c = r := (es_next (es_for hi hf)).trans k
theorem pv_two (e1 : f1 ρ c = .ok x1 c) (e2 : f2 ρ c = .ok x2 c) : aCons f1 (aCons f2 aNil) ρ c = .ok [x1, x2] c := ev_two e1 e2
theorem pv_three (e1 : f1 ρ c = .ok x1 c) (e2 : f2 ρ c = .ok x2 c) (e3 : f3 ρ c = .ok x3 c) : aCons f1 (aCons f2 (aCons f3 aNil)) ρ c = .ok [x1, x2, x3] c := ev_cons e1 (ev_two e2 e3)
theorem pv_four (e1 : f1 ρ c = .ok x1 c) (e2 : f2 ρ c = .ok x2 c) (e3 : f3 ρ c = .ok x3 c) (e4 : f4 ρ c = .ok x4 c) : aCons f1 (aCons f2 (aCons f3 (aCons f4 aNil))) ρ c = .ok [x1, x2, x3, x4] c := ev_cons e1 (ev_cons e2 (ev_two e3 e4))
end
theorem noLs_map {α : Type} {g : α → D} (h : ∀ a, noL (g a) = true) : ∀ l : List α, noLs (l.map g) = true
  | [] => rfl
  | a :: l => by
    show (noL (g a) && noLs (l.map g)) = true
    rw [h a, noLs_map h l]; rfl
theorem noL_tupI {k : List Int} : noL (tupI k) = true := noLs_map (fun _ => rfl) k
/-! the order of rows of numbers -/
def ltI (k l : List Int) : Bool := ordB .Lt (tupI k) (tupI l)
theorem can_ints : ∀ {k l : List Int}, canBA .Lt (k.map .int) (l.map .int) = true
  | [], _ => by simp only [List.map_nil, canBA]
  | _ :: _, [] => by simp only [List.map_cons, List.map_nil, canBA]
  | i :: k, j :: l => by
    show ((PyData.eqv _ _ || canB .Lt (.int i) (.int j)) && canBA .Lt (k.map .int) (l.map .int)) = true
    rw [can_ints, show canB .Lt (.int i) (.int j) = true from rfl, Bool.or_true]; rfl
theorem cmp_lt_t {k l : List Int} : cmpD .Lt (tupI k) (tupI l) = some (.bool (ltI k l)) := by
  show (if SeqAt.shaped (tupI k) && SeqAt.shaped (tupI l) && canBA .Lt (k.map .int) (l.map .int) then some (PyData.bool (ltI k l)) else none) = _
  rw [Sh.tupI.ok, Sh.tupI.ok, can_ints]; rfl
theorem lt_or_le : ∀ (k l : List Int), PyProof.Rows.lexLt itemOrd (k.flatMap (fun i => [(Sum.inl 1 : Int ⊕ List Nat), Sum.inl i]) ++ [Sum.inl 0]) (l.flatMap (fun i => [Sum.inl 1, Sum.inl i]) ++ [Sum.inl 0]) = ltI k l
  | [], [] => by rfl
  | [], _ :: _ => by rfl
  | _ :: _, [] => by rfl
  | i :: k, j :: l => by
    have e : ltI (i :: k) (j :: l) = if PyData.eqv (.int i) (.int j) then ltI k l else decide (i < j) := rfl
    rw [e, ← lt_or_le k l, eqv_int]
    simp only [List.flatMap_cons, List.cons_append, List.nil_append]
    have st : ∀ (x y : Int ⊕ List Nat) (r t : List (Int ⊕ List Nat)), PyProof.Rows.lexLt itemOrd (x :: r) (y :: t) = (itemLt x y || !itemLt y x && PyProof.Rows.lexLt itemOrd r t) := fun _ _ _ _ => rfl
    rw [st, st]
    have z1 : itemLt (Sum.inl 1) (Sum.inl 1) = false := rfl
    have z2 : itemLt (Sum.inl i) (Sum.inl j) = decide (i < j) := rfl
    have z3 : itemLt (Sum.inl j) (Sum.inl i) = decide (j < i) := rfl
    rw [z1, z2, z3]
    by_cases h : i = j
    · subst h
      simp
    · by_cases h' : i < j
      · simp [h, h']
      · have : j < i := by omega
        simp [h, h', this]
theorem le_lt {k l : List Int} : leD (tupI k) (tupI l) = !ltI l k := by
  have q1 : PySem.W.keyToks (tupI k) = PySem.W.keyToksAll (k.map .int) := by unfold tupI; rw [PySem.W.keyToks]
  have q2 : PySem.W.keyToks (tupI l) = PySem.W.keyToksAll (l.map .int) := by unfold tupI; rw [PySem.W.keyToks]
  show (!PyProof.Rows.lexLt itemOrd (PySem.W.keyToks (tupI l)) (PySem.W.keyToks (tupI k))) = _
  rw [q1, q2, toks_ints, toks_ints, lt_or_le]
theorem lt_of_le_ne {k l : List Int} (h : leD (tupI k) (tupI l) = true) (n : k ≠ l) : ltI k l = true := by
  cases e : ltI k l with
  | true => rfl
  | false =>
    have z : leD (tupI l) (tupI k) = true := by rw [le_lt, e]; rfl
    exact absurd (le_anti h z) n
/-- what sorted over a set of rows gives -/
theorem ss_rows {ks : List (List Int)} (h : ks.length < 64) (hk : ∀ k ∈ ks, k.length ≤ 1000) : ∃ bs : List (List Int), ssL (ks.map tupI) = some (bs.map tupI) ∧ (∀ x, x ∈ bs ↔ x ∈ ks) ∧ bs.Pairwise (fun a b => ltI a b = true) ∧ bs.length ≤ ks.length := by
  have hr : rowsD (ks.map tupI) = some ks := by
    clear h hk
    have hi : ∀ k : List Int, intsD (k.map .int) = some k := by
      intro k
      induction k with
      | nil => rfl
      | cons i k ih =>
        show (match intD (.int i), intsD (k.map .int) with | some i, some is => some (i :: is) | _, _ => none) = _
        rw [ih]; rfl
    induction ks with
    | nil => rfl
    | cons k ks ih =>
      show (match rowD (tupI k), rowsD (ks.map tupI) with | some i, some is => some (i :: is) | _, _ => none) = _
      rw [ih, show rowD (tupI k) = some k from hi k]
  obtain ⟨bs, e, p⟩ := perm_lift (srt_perm ((nub ks).map tupI))
  have hm : ∀ x, x ∈ bs ↔ x ∈ ks := fun x => (p.mem_iff).trans nub_mem
  have nd : bs.Nodup := p.nodup_iff.mpr (nub_nodup ks)
  have pw := srt_pw ((nub ks).map tupI)
  rw [e] at pw
  refine ⟨bs, ?_, hm, ?_, ?_⟩
  · unfold ssL
    rw [hr]
    simp only
    have a : ((nub ks).all fun k => decide (k.length ≤ sizeLine)) = true := List.all_eq_true.mpr fun k hk' => decide_eq_true (Nat.le_trans (hk k (nub_mem.mp hk')) (by decide))
    rw [if_pos (by rw [decide_eq_true h, a]; rfl), e]
  · have pw' := List.pairwise_map.mp pw
    exact List.Pairwise.imp₂ (fun a b h1 h2 => lt_of_le_ne h1 h2) pw' nd
  · rw [p.length_eq]
    have hl : ∀ l : List (List Int), (nub l).length ≤ l.length := by
      intro l
      induction l with
      | nil => exact Nat.le_refl _
      | cons x l ih =>
        unfold nub
        split
        · exact Nat.le_succ_of_le ih
        · exact Nat.succ_le_succ ih
    exact hl ks
end
end Mi

namespace Mi
open PySem PySem.Spec PyProof.Rows L2
/-! where the cup is drawn from -/
def Cup (c : Cp) : Prop := ∃ p, c = some p
theorem roll_ok {c : Cp} {m : Int} (h : Cup c) (h0 : 0 < m) (h1 : m < 1073741824) : ∃ r c', rollF [dCup, .int m] c = .ok (.int r) c' ∧ 0 ≤ r ∧ r < m ∧ Cup c' := by
  obtain ⟨⟨i, j⟩, rfl⟩ := h
  by_cases hi : 0 < i
  · refine ⟨i % m, some (i / m, j), ?_, Int.emod_nonneg _ (by omega), Int.emod_lt_of_pos _ h0, _, rfl⟩
    show (if 0 < m ∧ m < 1073741824 then (if 0 < i then Re.ok (PyData.int (i % m)) (some (i / m, j)) else _) else _) = _
    rw [if_pos ⟨h0, h1⟩, if_pos hi]
  · refine ⟨(j * 32029 + 72077) % 1048576 / 181 % m, some (i, (j * 32029 + 72077) % 1048576), ?_, Int.emod_nonneg _ (by omega), Int.emod_lt_of_pos _ h0, _, rfl⟩
    show (if 0 < m ∧ m < 1073741824 then (if 0 < i then _ else Re.ok (PyData.int ((j * 32029 + 72077) % 1048576 / 181 % m)) (some (i, (j * 32029 + 72077) % 1048576))) else _) = _
    rw [if_pos ⟨h0, h1⟩, if_neg hi]
section
variable {β : Type} {ρ : En} {c : Cp} {own : List Nat} {tg : Tg} {iv : Iv} {cond : Tv} {elt : Ev} {P : Cp → Prop}
theorem go_eff {st : D → M (List D)} (g q : β → D) : ∀ l : List β, (∀ b ∈ l, ∀ c, P c → ∃ (k : Bool) (c' : Cp), st (g b) c = .ok (if k then [q b] else []) c' ∧ P c') → ∀ c, P c → ∃ (m : List β) (c' : Cp), lcGo st (l.map g) c = .ok (m.map q) c' ∧ P c' ∧ m.Sublist l
  | [], _, c, hc => ⟨[], c, rfl, hc, .slnil⟩
  | b :: l, hs, c, hc => by
    obtain ⟨k, c1, e1, h1⟩ := hs b List.mem_cons_self c hc
    obtain ⟨m, c2, e2, h2, sl⟩ := go_eff g q l (fun e he => hs e (List.mem_cons_of_mem _ he)) c1 h1
    refine ⟨if k then b :: m else m, c2, ?_, h2, ?_⟩
    · show bd (st (g b)) (fun l' => bd (lcGo st (l.map g)) fun r => rt (l' ++ r)) c = _
      rw [bd_ok e1, bd_ok e2]
      cases k <;> rfl
    · cases k
      · exact sl.cons _
      · exact sl.cons_cons _
theorem lc_eff (l : List β) (g q : β → D) (hc : P c) (hi : iv ρ c = .ok (l.map g) c) (hl : l.length ≤ sizeLine)
    (hs : ∀ b ∈ l, ∃ ρ', bindT tg (g b) (wipeE ρ own) = some ρ' ∧ ∀ c, P c → ∃ (k : Bool) (c' : Cp), cond ρ' c = .ok k c' ∧ P c' ∧ elt ρ' c' = .ok (q b) c') : ∃ (m : List β) (c' : Cp), lcF own tg iv cond elt ρ c = .ok (m.map q) c' ∧ P c' ∧ m.Sublist l := by
  obtain ⟨m, c', e, h, sl⟩ := go_eff (st := step1 (wipeE ρ own) tg cond elt) g q l (fun b hb c hc => by
    obtain ⟨ρ', e1, h1⟩ := hs b hb
    obtain ⟨k, c', e2, h2, e3⟩ := h1 c hc
    refine ⟨k, c', ?_, h2⟩
    unfold step1
    rw [e1]
    simp only
    rw [bd_ok e2]
    cases k
    · rfl
    · simp only [if_true]; rw [bd_ok e3]; rfl) c hc
  refine ⟨m, c', ?_, h, sl⟩
  unfold lcF
  rw [bd_ok hi]
  unfold noErr
  rw [bd_ok e, if_pos (Nat.le_trans (by rw [List.length_map]; exact sl.length_le) hl)]
  rfl
end
end Mi

namespace Mi
open PySem PySem.Spec PyProof.Rows L2
/-! ascending rows -/
theorem asc_sub : ∀ {u a : List Int}, u.Pairwise (· < ·) → a.Pairwise (· < ·) → (∀ x ∈ u, x ∈ a) → u.Sublist a
  | [], a, _, _, _ => List.nil_sublist a
  | x :: u, [], _, _, h => by cases h x List.mem_cons_self
  | x :: u, y :: a, hu, ha, h => by
    have u1 := List.pairwise_cons.mp hu
    have a1 := List.pairwise_cons.mp ha
    rcases List.mem_cons.mp (h x List.mem_cons_self) with e | hx
    · rw [e]
      refine (asc_sub u1.2 a1.2 fun z hz => ?_).cons_cons y
      rcases List.mem_cons.mp (h z (List.mem_cons_of_mem _ hz)) with k | k
      · have := u1.1 z hz; omega
      · exact k
    · refine (asc_sub hu a1.2 fun z hz => ?_).cons y
      rcases List.mem_cons.mp (h z hz) with k | k
      · have := a1.1 x hx
        rcases List.mem_cons.mp hz with k2 | k2
        · omega
        · have := u1.1 z k2; omega
      · exact k
theorem asc_ext {u a : List Int} (hu : u.Pairwise (· < ·)) (ha : a.Pairwise (· < ·)) (h : ∀ x, x ∈ u ↔ x ∈ a) : u = a :=
  have s1 := asc_sub hu ha fun x hx => (h x).mp hx
  s1.eq_of_length_le (asc_sub ha hu fun x hx => (h x).mpr hx).length_le
theorem ltI_irr (k : List Int) : ltI k k = false := by
  have h : leD (tupI k) (tupI k) = true := le_tot.refl _
  rw [le_lt] at h
  cases e : ltI k k with
  | false => rfl
  | true => rw [e] at h; cases h
theorem le_of_ltI {k l : List Int} (h : ltI k l = true) : leD (tupI k) (tupI l) = true := by
  rcases le_tot.total (tupI k) (tupI l) with e | e
  · exact e
  · rw [le_lt, h] at e; cases e
theorem ltI_ne {k l : List Int} (h : ltI k l = true) : k ≠ l := fun e => by rw [e, ltI_irr] at h; cases h
theorem nodup_ltI {ks : List (List Int)} (h : ks.Pairwise fun a b => ltI a b = true) : ks.Nodup := h.imp ltI_ne
theorem perm_ext {α : Type} [DecidableEq α] {l m : List α} (hl : l.Nodup) (hm : m.Nodup) (h : ∀ x, x ∈ l ↔ x ∈ m) : l.Perm m := by
  rw [List.perm_iff_count]
  intro a
  rw [hl.count, hm.count]
  by_cases k : a ∈ l
  · rw [if_pos k, if_pos ((h a).mp k)]
  · rw [if_neg k, if_neg fun z => k ((h a).mpr z)]
/-- rows in their order are told by their members -/
theorem rows_ext {ks ls : List (List Int)} (hk : ks.Pairwise fun a b => ltI a b = true) (hl : ls.Pairwise fun a b => ltI a b = true) (h : ∀ x, x ∈ ks ↔ x ∈ ls) : ks = ls :=
  List.Perm.eq_of_pairwise (le := fun a b => leD (tupI a) (tupI b) = true) (fun a b _ _ h1 h2 => le_anti h1 h2) (hk.imp le_of_ltI) (hl.imp le_of_ltI) (perm_ext (nodup_ltI hk) (nodup_ltI hl) h)
/-! all lots -/
def rawL : Nat → List (List Int)
  | 0 => [[]]
  | n + 1 => rawL n ++ (rawL n).map fun l => l ++ [(n : Int)]
theorem mem_raw : ∀ {n : Nat} {x : List Int}, x ∈ rawL n ↔ x.Pairwise (· < ·) ∧ ∀ e ∈ x, 0 ≤ e ∧ e < n
  | 0, x => by
    show x ∈ [[]] ↔ _
    rw [List.mem_singleton]
    constructor
    · rintro rfl; exact ⟨.nil, fun e he => by cases he⟩
    · intro h
      cases x with
      | nil => rfl
      | cons a l => have := h.2 a List.mem_cons_self; omega
  | n + 1, x => by
    show x ∈ rawL n ++ (rawL n).map (fun l => l ++ [(n : Int)]) ↔ _
    rw [List.mem_append, List.mem_map]
    constructor
    · rintro (h | ⟨l, h, rfl⟩)
      · have k := mem_raw.mp h
        exact ⟨k.1, fun e he => by have := k.2 e he; omega⟩
      · have k := mem_raw.mp h
        refine ⟨List.pairwise_append.mpr ⟨k.1, List.pairwise_singleton .., fun a ha b hb => ?_⟩, fun e he => ?_⟩
        · rw [List.mem_singleton.mp hb]; exact (k.2 a ha).2
        · rcases List.mem_append.mp he with h1 | h1
          · have := k.2 e h1; omega
          · rw [List.mem_singleton.mp h1]; omega
    · rintro ⟨h1, h2⟩
      rcases List.eq_nil_or_concat x with rfl | ⟨l, a, e⟩
      · exact .inl (mem_raw.mpr ⟨.nil, fun e he => by cases he⟩)
      · rw [List.concat_eq_append] at e
        subst e
        have p := List.pairwise_append.mp h1
        have la : ∀ e ∈ l, e < a := fun e he => p.2.2 e he a List.mem_cons_self
        by_cases ha : a = n
        · subst ha
          exact .inr ⟨l, mem_raw.mpr ⟨p.1, fun e he => ⟨(h2 e (List.mem_append_left _ he)).1, la e he⟩⟩, rfl⟩
        · have := h2 a (List.mem_append_right _ List.mem_cons_self)
          refine .inl (mem_raw.mpr ⟨h1, fun e he => ⟨(h2 e he).1, ?_⟩⟩)
          rcases List.mem_append.mp he with k | k
          · have := la e k; omega
          · rw [List.mem_singleton.mp k]; omega
theorem nodup_raw : ∀ n : Nat, (rawL n).Nodup
  | 0 => List.pairwise_singleton ..
  | n + 1 => by
    refine List.nodup_append.mpr ⟨nodup_raw n, ?_, fun a ha b hb e => ?_⟩
    · refine List.Pairwise.map _ (fun a b (h : a ≠ b) e => h (List.append_cancel_right e)) (nodup_raw n)
    · subst e
      obtain ⟨l, h, rfl⟩ := List.mem_map.mp hb
      have := (mem_raw.mp ha).2 (n : Int) (List.mem_append_right _ List.mem_cons_self)
      omega
theorem len_raw : ∀ n : Nat, (rawL n).length = 2 ^ n
  | 0 => rfl
  | n + 1 => by
    show (rawL n ++ (rawL n).map _).length = _
    rw [List.length_append, List.length_map, len_raw n, Nat.pow_succ]; omega
/-- the lots in their order -/
structure LotsL (n : Nat) (ls : List (List Int)) : Prop where
  mem : ∀ x, x ∈ ls ↔ x.Pairwise (· < ·) ∧ ∀ e ∈ x, 0 ≤ e ∧ e < (n : Int)
  pw : ls.Pairwise fun a b => ltI a b = true
  len : ls.length = 2 ^ n
theorem sort_rows {ks : List (List Int)} (nd : ks.Nodup) : ∃ ls : List (List Int), sortedB [.list (ks.map tupI)] = some (.list (ls.map tupI)) ∧ (∀ x, x ∈ ls ↔ x ∈ ks) ∧ ls.Pairwise (fun a b => ltI a b = true) ∧ ls.length = ks.length := by
  obtain ⟨ls, e, p⟩ := perm_lift (srt_perm (ks.map tupI))
  have pw := srt_pw (ks.map tupI)
  rw [e] at pw
  refine ⟨ls, ?_, fun x => p.mem_iff, List.Pairwise.imp₂ (fun a b h1 h2 => lt_of_le_ne h1 h2) (List.pairwise_map.mp pw) (p.nodup_iff.mpr nd), p.length_eq⟩
  have ok : sortOK (ks.map tupI) = true := by
    unfold sortOK
    have a : likeAll (ks.map tupI) = true := List.all_eq_true.mpr fun d hd => List.all_eq_true.mpr fun f hf => by
      obtain ⟨k, _, rfl⟩ := List.mem_map.mp hd
      obtain ⟨l, _, rfl⟩ := List.mem_map.mp hf
      show PySem.W.alike (.tuple _) (.tuple _) = true
      rw [PySem.W.alike]; exact like_ints k l
    have b : (ks.map tupI).all isTupD = true := List.all_eq_true.mpr fun d hd => by
      obtain ⟨k, _, rfl⟩ := List.mem_map.mp hd; rfl
    rw [a, b, shaped_tups]; rfl
  show (sortedL [.list (ks.map tupI)]).map PyData.list = _
  have s : sortedL [.list (ks.map tupI)] = some (srtD (ks.map tupI)) := by
    show (if sortOK (ks.map tupI) then some (srtD (ks.map tupI)) else none) = _
    rw [if_pos ok]
  rw [s, e]; rfl
end Mi

namespace Mi
open PySem PySem.Spec PyProof.Rows L2
/-! plain values of many kinds, as data -/
abbrev tupE {α : Type} (g : α → D) (l : List α) : D := .tuple (l.map g)
abbrev lstE {α : Type} (g : α → D) (l : List α) : D := .list (l.map g)
def optE {α : Type} (g : α → D) : Option α → D
  | none => .none
  | some a => g a
abbrev p2 {α β : Type} (g : α → D) (h : β → D) (x : α × β) : D := .tuple [g x.1, h x.2]
abbrev p3 {α β γ : Type} (g : α → D) (h : β → D) (k : γ → D) (x : α × β × γ) : D := .tuple [g x.1, h x.2.1, k x.2.2]
abbrev p4 {α β γ δ : Type} (g : α → D) (h : β → D) (k : γ → D) (m : δ → D) (x : α × β × γ × δ) : D := .tuple [g x.1, h x.2.1, k x.2.2.1, m x.2.2.2]
abbrev q2 {α β : Type} (g : α → D) (h : β → D) (x : α × β) : D := .list [g x.1, h x.2]
abbrev q3 {α β γ : Type} (g : α → D) (h : β → D) (k : γ → D) (x : α × β × γ) : D := .list [g x.1, h x.2.1, k x.2.2]
abbrev q4 {α β γ δ : Type} (g : α → D) (h : β → D) (k : γ → D) (m : δ → D) (x : α × β × γ × δ) : D := .list [g x.1, h x.2.1, k x.2.2.1, m x.2.2.2]
/-- an encoding that equality respects; k bounds the depth -/
structure EOk {α : Type} [DecidableEq α] (g : α → D) (k : Nat) : Prop where
  sh : ∀ a, Sh k (g a)
  eq : ∀ a b, PyData.eqv (g a) (g b) = decide (a = b)
def NN {α : Type} (g : α → D) : Prop := ∀ a, PyData.eqv (g a) .none = false ∧ PyData.eqv .none (g a) = false ∧ isD (g a) .none = some false
theorem EOk.int : EOk PyData.int 0 := ⟨fun _ => Sh.int, fun _ _ => eqv_int⟩
theorem EOk.bool : EOk PyData.bool 0 := ⟨fun _ => Sh.bool, fun a b => by cases a <;> cases b <;> rfl⟩
theorem eqv_str {x y : Str} : PyData.eqv (.str x) (.str y) = decide (x = y) := by
  unfold PyData.eqv
  by_cases e : x = y <;> simp [e]
theorem Sh.str {k : Nat} {x : Str} (h : PyData.strOk x = true) : Sh k (.str x) := ⟨by rw [PyData.canLay0]; exact h, by rw [PyData.depth] <;> first | exact Nat.zero_le _ | (intros; nofun)⟩
theorem cmp_eqS {x y : Str} (hx : PyData.strOk x = true) (hy : PyData.strOk y = true) : cmpD .Eq (.str x) (.str y) = some (.bool (decide (x = y))) := by
  show (if SeqAt.shaped (.str x) && SeqAt.shaped (.str y) then some (PyData.eqv (.str x) (.str y)) else none).map PyData.bool = _
  rw [(Sh.str (k := 0) hx).ok, (Sh.str (k := 0) hy).ok, eqv_str]; rfl
theorem cmp_neS {x y : Str} (hx : PyData.strOk x = true) (hy : PyData.strOk y = true) : cmpD .NotEq (.str x) (.str y) = some (.bool (!decide (x = y))) := by
  show (if SeqAt.shaped (.str x) && SeqAt.shaped (.str y) then some (PyData.eqv (.str x) (.str y)) else none).map (fun b => PyData.bool !b) = _
  rw [(Sh.str (k := 0) hx).ok, (Sh.str (k := 0) hy).ok, eqv_str]; rfl
theorem NN.str : NN PyData.str := fun _ => ⟨rfl, rfl, rfl⟩
theorem NN.int : NN PyData.int := fun _ => ⟨rfl, rfl, rfl⟩
theorem NN.bool : NN PyData.bool := fun _ => ⟨rfl, rfl, rfl⟩
theorem NN.tup {α : Type} {g : α → D} : NN (tupE g) := fun _ => ⟨rfl, rfl, rfl⟩
theorem NN.p2 {α β : Type} {g : α → D} {h : β → D} : NN (p2 g h) := fun _ => ⟨rfl, rfl, rfl⟩
section
variable {α β γ δ : Type} [DecidableEq α] [DecidableEq β] [DecidableEq γ] [DecidableEq δ] {g : α → D} {h : β → D} {e : γ → D} {f : δ → D} {k m n o : Nat}
theorem eqvAll_map (E : EOk g k) : ∀ {a b : List α}, PyData.eqvAll (a.map g) (b.map g) = decide (a = b)
  | [], [] => by rfl
  | [], _ :: _ => by rfl
  | _ :: _, [] => by rfl
  | i :: a, j :: b => by
    show (PyData.eqv (g i) (g j) && PyData.eqvAll (a.map g) (b.map g)) = _
    rw [E.eq, eqvAll_map E]
    by_cases h1 : i = j <;> by_cases h2 : a = b <;> simp [h1, h2]
theorem EOk.tup (E : EOk g k) : EOk (tupE g) (k + 1) := ⟨fun a => .tup fun d hd => by
  obtain ⟨i, _, rfl⟩ := List.mem_map.mp hd
  exact E.sh i, fun a b => eqvAll_map E⟩
theorem EOk.lst (E : EOk g k) : EOk (lstE g) (k + 1) := ⟨fun a => .lst fun d hd => by
  obtain ⟨i, _, rfl⟩ := List.mem_map.mp hd
  exact E.sh i, fun a b => eqvAll_map E⟩
theorem EOk.opt (E : EOk g k) (N : NN g) : EOk (optE g) k := ⟨fun a => by cases a <;> first | exact Sh.non | exact E.sh _, fun a b => by
  cases a <;> cases b
  · rfl
  · exact (N _).2.1.trans (by simp)
  · exact (N _).1.trans (by simp)
  · exact (E.eq _ _).trans (by simp)⟩
theorem EOk.p2 (E : EOk g k) (F : EOk h m) : EOk (p2 g h) (max k m + 1) := ⟨fun a => .tup fun d hd => by
  rcases List.mem_cons.mp hd with rfl | hd
  · exact (E.sh _).mono (Nat.le_max_left ..)
  · rw [List.mem_singleton.mp hd]; exact (F.sh _).mono (Nat.le_max_right ..), fun a b => by
  show (PyData.eqv (g a.1) (g b.1) && (PyData.eqv (h a.2) (h b.2) && true)) = _
  rw [E.eq, F.eq, Bool.and_true]
  obtain ⟨a1, a2⟩ := a
  obtain ⟨b1, b2⟩ := b
  by_cases h1 : a1 = b1 <;> by_cases h2 : a2 = b2 <;> simp [h1, h2]⟩
theorem EOk.q2 (E : EOk g k) (F : EOk h m) : EOk (q2 g h) (max k m + 1) := ⟨fun a => .lst fun d hd => by
  rcases List.mem_cons.mp hd with rfl | hd
  · exact (E.sh _).mono (Nat.le_max_left ..)
  · rw [List.mem_singleton.mp hd]; exact (F.sh _).mono (Nat.le_max_right ..), fun a b => by
  show (PyData.eqv (g a.1) (g b.1) && (PyData.eqv (h a.2) (h b.2) && true)) = _
  rw [E.eq, F.eq, Bool.and_true]
  obtain ⟨a1, a2⟩ := a
  obtain ⟨b1, b2⟩ := b
  by_cases h1 : a1 = b1 <;> by_cases h2 : a2 = b2 <;> simp [h1, h2]⟩
theorem EOk.p3 (E : EOk g k) (F : EOk h m) (G : EOk e n) : EOk (p3 g h e) (max k (max m n) + 1) := ⟨fun a => .tup fun d hd => by
  rcases List.mem_cons.mp hd with rfl | hd
  · exact (E.sh _).mono (by omega)
  rcases List.mem_cons.mp hd with rfl | hd
  · exact (F.sh _).mono (by omega)
  · rw [List.mem_singleton.mp hd]; exact (G.sh _).mono (by omega), fun a b => by
  show (PyData.eqv (g a.1) (g b.1) && (PyData.eqv (h a.2.1) (h b.2.1) && (PyData.eqv (e a.2.2) (e b.2.2) && true))) = _
  rw [E.eq, F.eq, G.eq, Bool.and_true]
  obtain ⟨a1, a2, a3⟩ := a
  obtain ⟨b1, b2, b3⟩ := b
  by_cases h1 : a1 = b1 <;> by_cases h2 : a2 = b2 <;> by_cases h3 : a3 = b3 <;> simp [h1, h2, h3]⟩
theorem cmp_eqE (E : EOk g k) {a b : α} (hk : k ≤ 64 := by decide) : cmpD .Eq (g a) (g b) = some (.bool (decide (a = b))) := by
  show (if SeqAt.shaped (g a) && SeqAt.shaped (g b) then some (PyData.eqv (g a) (g b)) else none).map PyData.bool = _
  rw [(E.sh a).ok hk, (E.sh b).ok hk, E.eq]; rfl
theorem cmp_neE (E : EOk g k) {a b : α} (hk : k ≤ 64 := by decide) : cmpD .NotEq (g a) (g b) = some (.bool (!decide (a = b))) := by
  show (if SeqAt.shaped (g a) && SeqAt.shaped (g b) then some (PyData.eqv (g a) (g b)) else none).map (fun b => PyData.bool !b) = _
  rw [(E.sh a).ok hk, (E.sh b).ok hk, E.eq]; rfl
theorem decide_inst {p : Prop} (i : Decidable p) {j : Decidable p} : @decide p j = @decide p i := by rw [Subsingleton.elim i j]
theorem any_E (E : EOk g k) {l : List α} {a : α} : ((l.map g).any fun z => PyData.eqv z (g a)) = decide (a ∈ l) := by
  induction l with
  | nil => simp
  | cons j l ih =>
    rw [List.map_cons, List.any_cons, ih, E.eq]
    by_cases h : j = a
    · subst h; simp
    · have h' : ¬ a = j := fun e => h e.symm
      simp [h, h']
theorem cmp_inT (E : EOk g k) {l : List α} {a : α} {i : Decidable (a ∈ l)} (hk : k + 1 ≤ 64 := by decide) : cmpD .In (g a) (tupE g l) = some (.bool (@decide (a ∈ l) i)) := by
  show (if SeqAt.shaped (g a) && SeqAt.shaped (tupE g l) then some ((l.map g).any fun z => PyData.eqv z (g a)) else none).map PyData.bool = _
  rw [(E.sh a).ok (by omega), (E.tup.sh l).ok hk, any_E E, decide_inst i]; rfl
theorem cmp_ninT (E : EOk g k) {l : List α} {a : α} {i : Decidable (a ∈ l)} (hk : k + 1 ≤ 64 := by decide) : cmpD .NotIn (g a) (tupE g l) = some (.bool (!@decide (a ∈ l) i)) := by
  show (if SeqAt.shaped (g a) && SeqAt.shaped (tupE g l) then some ((l.map g).any fun z => PyData.eqv z (g a)) else none).map (fun b => PyData.bool !b) = _
  rw [(E.sh a).ok (by omega), (E.tup.sh l).ok hk, any_E E, decide_inst i]; rfl
theorem cmp_inL (E : EOk g k) {l : List α} {a : α} {i : Decidable (a ∈ l)} (hk : k + 1 ≤ 64 := by decide) : cmpD .In (g a) (lstE g l) = some (.bool (@decide (a ∈ l) i)) := by
  show (if SeqAt.shaped (g a) && SeqAt.shaped (lstE g l) then some ((l.map g).any fun z => PyData.eqv z (g a)) else none).map PyData.bool = _
  rw [(E.sh a).ok (by omega), (E.lst.sh l).ok hk, any_E E, decide_inst i]; rfl
theorem cmp_ninL (E : EOk g k) {l : List α} {a : α} {i : Decidable (a ∈ l)} (hk : k + 1 ≤ 64 := by decide) : cmpD .NotIn (g a) (lstE g l) = some (.bool (!@decide (a ∈ l) i)) := by
  show (if SeqAt.shaped (g a) && SeqAt.shaped (lstE g l) then some ((l.map g).any fun z => PyData.eqv z (g a)) else none).map (fun b => PyData.bool !b) = _
  rw [(E.sh a).ok (by omega), (E.lst.sh l).ok hk, any_E E, decide_inst i]; rfl
end
section
variable {α : Type} {g : α → D}
theorem cmp_isN (N : NN g) {o : Option α} : cmpD .Is (optE g o) .none = some (.bool o.isNone) := by
  cases o with
  | none => rfl
  | some a => show (isD (g a) .none).map PyData.bool = _; rw [(N a).2.2]; rfl
theorem cmp_isNN (N : NN g) {o : Option α} : cmpD .IsNot (optE g o) .none = some (.bool o.isSome) := by
  cases o with
  | none => rfl
  | some a => show (isD (g a) .none).map (fun b => PyData.bool !b) = _; rw [(N a).2.2]; rfl
theorem cmp_isT {b : Bool} : cmpD .Is (.bool b) (.bool true) = some (.bool b) := by cases b <;> rfl
theorem cmp_isF {b : Bool} : cmpD .Is (.bool b) (.bool false) = some (.bool (!b)) := by cases b <;> rfl
theorem cmp_isNT {b : Bool} : cmpD .IsNot (.bool b) (.bool true) = some (.bool (!b)) := by cases b <;> rfl
theorem cmp_isNF {b : Bool} : cmpD .IsNot (.bool b) (.bool false) = some (.bool b) := by cases b <;> rfl
theorem cmp_gt_i {i j : Int} : cmpD .Gt (.int i) (.int j) = some (.bool (decide (i > j))) := by
  show (if SeqAt.shaped (.int i) && SeqAt.shaped (.int j) && true then some (PyData.bool (decide (j < i))) else none) = _
  rw [Sh.int.ok (k := 0), Sh.int.ok (k := 0)]; rfl
theorem cmp_ge_i {i j : Int} : cmpD .GtE (.int i) (.int j) = some (.bool (decide (i ≥ j))) := by
  show (if SeqAt.shaped (.int i) && SeqAt.shaped (.int j) && true then some (PyData.bool (decide (j ≤ i))) else none) = _
  rw [Sh.int.ok (k := 0), Sh.int.ok (k := 0)]; rfl
end
end Mi

namespace Mi
open PySem PySem.Spec PyProof.Rows L2
/-! evaluation that leaves the cup alone -/
section
variable {ρ ρ' : En} {c : Cp} {x y z d : D} {f h fa fb fc : Ev} {t u : Tv} {a r : Av} {i j n m : Nat} {xs ys ds : List D} {k : Bool} {F : List D → M D}
theorem pv_cons (e1 : f ρ c = .ok x c) (e2 : r ρ c = .ok xs c) : aCons f r ρ c = .ok (x :: xs) c := ev_cons e1 e2
theorem pv_one (e1 : f ρ c = .ok x c) : aCons f aNil ρ c = .ok [x] c := ev_one e1
theorem pv_tup (e : a ρ c = .ok xs c) (hl : xs.length ≤ sizeLine) : eTup a ρ c = .ok (.tuple xs) c := ev_tup e hl
theorem pv_lst (e : a ρ c = .ok xs c) (hl : xs.length ≤ sizeLine) : eLst a ρ c = .ok (.list xs) c := ev_lst e hl
theorem pv_ofA (e : a ρ c = .ok xs c) : eOfA a ρ c = .ok (.list xs) c := ev_ofA e
theorem pv_bin {o : Operator} (e1 : fa ρ c = .ok x c) (e2 : fb ρ c = .ok y c) (e : binD o x y = some z) : eBin o fa fb ρ c = .ok z c := ev_bin e1 e2 e
theorem pv_cmp {o : CmpOp} (e1 : fa ρ c = .ok x c) (e2 : fb ρ c = .ok y c) (e : cmpD o x y = some z) : eCmp o fa fb ρ c = .ok z c := ev_cmp e1 e2 e
theorem pv_call (e : a ρ c = .ok xs c) (hl : xs.length = m) (hf : F xs c = .ok d c) : eCall m F a ρ c = .ok d c := (ev_call e hl).trans hf
theorem pv_bi {o : List D → Option D} (e : a ρ c = .ok xs c) (ho : o xs = some z) : eBi o a ρ c = .ok z c := ev_bi e ho
theorem pv_isa {T : String} (e : f ρ c = .ok x c) (ho : isaB T x = some z) : eIsa T f ρ c = .ok z c := ev_isa e ho
theorem pv_not (e : f ρ c = .ok (.bool k) c) : eNot f ρ c = .ok (.bool !k) c := ev_not e rfl
theorem pv_and {k' : Bool} (e1 : fa ρ c = .ok (.bool k) c) (e2 : k = true → fb ρ c = .ok (.bool k') c) : eAnd fa fb ρ c = .ok (.bool (k && k')) c := ev_and_b e1 e2
theorem pv_or {k' : Bool} (e1 : fa ρ c = .ok (.bool k) c) (e2 : k = false → fb ρ c = .ok (.bool k') c) : eOr fa fb ρ c = .ok (.bool (k || k')) c := by
  unfold eOr
  rw [bd_ok e1]
  cases k with
  | true => rfl
  | false =>
    show bd (rt false) _ c = _
    have z : (rt false : M Bool) c = .ok false c := rfl
    rw [bd_ok z, if_neg Bool.false_ne_true, e2 rfl]; rfl
theorem pv_ite {α : Type} {g : α → D} {A B : α} (e : t ρ c = .ok k c) (h1 : k = true → fa ρ c = .ok (g A) c) (h2 : k = false → fb ρ c = .ok (g B) c) : eIte t fa fb ρ c = .ok (g (cond k A B)) c := by
  rw [ev_ite e]
  cases k with
  | true => exact h1 rfl
  | false => exact h2 rfl
theorem pv_neg {q : Int} (e : f ρ c = .ok (.int q) c) : eNeg f ρ c = .ok (.int (-q)) c := ev_neg e
theorem pt_of (e : f ρ c = .ok (.bool k) c) : tOf f ρ c = .ok k c := et_ofb e
theorem pt_ofN {α : Type} {g : α → D} {l : List α} (e : f ρ c = .ok (tupE g l) c) : tOf f ρ c = .ok (!l.isEmpty) c := et_of e (by cases l <;> rfl)
theorem pt_ofL {α : Type} {g : α → D} {l : List α} (e : f ρ c = .ok (lstE g l) c) : tOf f ρ c = .ok (!l.isEmpty) c := et_of e (by cases l <;> rfl)
theorem pt_cm (e : f ρ c = .ok (.bool k) c) : tCm f ρ c = .ok k c := et_cm e
theorem pt_no (e : t ρ c = .ok k c) : tNo t ρ c = .ok (!k) c := et_no e
theorem pt_an {k' : Bool} (e1 : t ρ c = .ok k c) (e2 : k = true → u ρ c = .ok k' c) : tAn t u ρ c = .ok (k && k') c := et_an e1 e2
theorem pt_or {k' : Bool} (e1 : t ρ c = .ok k c) (e2 : k = false → u ρ c = .ok k' c) : tOr' t u ρ c = .ok (k || k') c := et_or e1 e2
theorem pv_chain {o o' : CmpOp} {p q : Int → Int → Bool} {i j l : Int} (ho : ∀ i j, cmpD o (.int i) (.int j) = some (.bool (p i j))) (ho' : ∀ i j, cmpD o' (.int i) (.int j) = some (.bool (q i j)))
    (e1 : fa ρ c = .ok (.int i) c) (e2 : fb ρ c = .ok (.int j) c) (e3 : fc ρ c = .ok (.int l) c) : eChain o o' fa fb fc ρ c = .ok (.bool (p i j && q j l)) c := by
  obtain ⟨k', a, b⟩ := ev_chain (o := o) (o' := o') e1 e2 e3 (ho i j) (by rw [ho']; cases q j l <;> simp) rfl
  rw [ho'] at a
  cases a
  exact b
/-! whole numbers, sums of rows -/
theorem bin_addI {i j : Int} : binD .Add (.int i) (.int j) = some (.int (i + j)) := rfl
theorem bin_subI {i j : Int} : binD .Sub (.int i) (.int j) = some (.int (i - j)) := rfl
theorem bin_mulI {i j : Int} (h : -(2 ^ 64) < j ∧ j < 2 ^ 64) : binD .Mult (.int i) (.int j) = some (.int (i * j)) := if_pos (.inr h)
theorem bin_addT {α : Type} {g : α → D} {l m : List α} (hl : l.length + m.length ≤ sizeLine) : binD .Add (tupE g l) (tupE g m) = some (tupE g (l ++ m)) := by
  show (if (l.map g).length + (m.map g).length ≤ sizeLine then some (PyData.tuple (l.map g ++ m.map g)) else none) = _
  rw [List.length_map, List.length_map, if_pos hl, ← List.map_append]
theorem bin_addL {α : Type} {g : α → D} {l m : List α} (hl : l.length + m.length ≤ sizeLine) : binD .Add (lstE g l) (lstE g m) = some (lstE g (l ++ m)) := by
  show (if (l.map g).length + (m.map g).length ≤ sizeLine then some (PyData.list (l.map g ++ m.map g)) else none) = _
  rw [List.length_map, List.length_map, if_pos hl, ← List.map_append]
/-! built-ins -/
theorem pv_tupL {ds : List D} (e : f ρ c = .ok (.list ds) c) : eBi tupleB (aCons f aNil) ρ c = .ok (.tuple ds) c := ev_bi (ev_one e) rfl
theorem pv_tupT {ds : List D} (e : f ρ c = .ok (.tuple ds) c) : eBi tupleB (aCons f aNil) ρ c = .ok (.tuple ds) c := ev_bi (ev_one e) rfl
theorem pv_lstL {ds : List D} (e : f ρ c = .ok (.list ds) c) : eBi listB (aCons f aNil) ρ c = .ok (.list ds) c := ev_bi (ev_one e) rfl
theorem pv_lstT {ds : List D} (e : f ρ c = .ok (.tuple ds) c) : eBi listB (aCons f aNil) ρ c = .ok (.list ds) c := ev_bi (ev_one e) rfl
theorem pv_lenT {α : Type} {g : α → D} {l : List α} (e : f ρ c = .ok (tupE g l) c) : eBi lenB (aCons f aNil) ρ c = .ok (.int (l.length : Int)) c := ev_bi (ev_one e) (by
  show some (PyData.int ((l.map g).length : Nat)) = _
  rw [List.length_map])
theorem pv_lenL {α : Type} {g : α → D} {l : List α} (e : f ρ c = .ok (lstE g l) c) : eBi lenB (aCons f aNil) ρ c = .ok (.int (l.length : Int)) c := ev_bi (ev_one e) (by
  show some (PyData.int ((l.map g).length : Nat)) = _
  rw [List.length_map])
theorem pv_all {α : Type} {l : List α} {p : α → Bool} (e : f ρ c = .ok (lstE PyData.bool (l.map p)) c) : eBi allB (aCons f aNil) ρ c = .ok (.bool (l.all p)) c := ev_bi (ev_one e) (by
  rw [lstE, List.map_map]; exact all_map)
theorem pv_any {α : Type} {l : List α} {p : α → Bool} (e : f ρ c = .ok (lstE PyData.bool (l.map p)) c) : eBi anyB (aCons f aNil) ρ c = .ok (.bool (l.any p)) c := ev_bi (ev_one e) (by
  rw [lstE, List.map_map]; exact any_map)
theorem pv_all0 {l : List Bool} (e : f ρ c = .ok (lstE PyData.bool l) c) : eBi allB (aCons f aNil) ρ c = .ok (.bool (l.all id)) c := pv_all (p := id) (by rw [List.map_id]; exact e)
theorem pv_any0 {l : List Bool} (e : f ρ c = .ok (lstE PyData.bool l) c) : eBi anyB (aCons f aNil) ρ c = .ok (.bool (l.any id)) c := pv_any (p := id) (by rw [List.map_id]; exact e)
theorem intsD_map (l : List Int) : intsD (l.map .int) = some l := by
  induction l with
  | nil => rfl
  | cons i k ih =>
    show (match intD (.int i), intsD (k.map .int) with | some i, some is => some (i :: is) | _, _ => none) = _
    rw [ih]; rfl
theorem pv_sum {l : List Int} (e : f ρ c = .ok (lstE PyData.int l) c) : eBi sumB (aCons f aNil) ρ c = .ok (.int l.sum) c := ev_bi (ev_one e) (by
  show (intsD (l.map .int)).map _ = _
  rw [intsD_map]; rfl)
def mnL : List Int → Int
  | [] => 0
  | x :: r => minL x r
def mxL : List Int → Int
  | [] => 0
  | x :: r => maxL x r
theorem pv_min {l : List Int} (e : f ρ c = .ok (lstE PyData.int l) c) (h : l ≠ []) : eBi minB (aCons f aNil) ρ c = .ok (.int (mnL l)) c := ev_bi (ev_one e) (by
  show (intsD (l.map .int)).bind _ = _
  rw [intsD_map]
  cases l with
  | nil => exact absurd rfl h
  | cons => rfl)
theorem pv_max {l : List Int} (e : f ρ c = .ok (lstE PyData.int l) c) (h : l ≠ []) : eBi maxB (aCons f aNil) ρ c = .ok (.int (mxL l)) c := ev_bi (ev_one e) (by
  show (intsD (l.map .int)).bind _ = _
  rw [intsD_map]
  cases l with
  | nil => exact absurd rfl h
  | cons => rfl)
/-! places -/
def gI {α : Type} [Inhabited α] (l : List α) (i : Int) : α := (l[i.toNat]?).getD default
theorem gI_get {α : Type} [Inhabited α] {l : List α} {i : Int} (h : 0 ≤ i ∧ i < l.length) : l[i.toNat]? = some (gI l i) := by
  unfold gI
  obtain ⟨n, rfl⟩ : ∃ n : Nat, i = n := ⟨i.toNat, by omega⟩
  rw [Int.toNat_natCast, List.getElem?_eq_getElem (by omega)]; rfl
theorem pv_ixT {α : Type} [Inhabited α] {g : α → D} {l : List α} {i : Int} (e1 : fa ρ c = .ok (tupE g l) c) (e2 : fb ρ c = .ok (.int i) c) (h : 0 ≤ i ∧ i < l.length) : eIx fa fb ρ c = .ok (g (gI l i)) c := ev_ix e1 e2 (by
  have e : i = ((i.toNat : Nat) : Int) := by omega
  show atI (l.map g) i = _
  rw [e]
  refine atI_nat ?_
  rw [List.getElem?_map, gI_get h, ← e]; rfl)
theorem pv_ixL {α : Type} [Inhabited α] {g : α → D} {l : List α} {i : Int} (e1 : fa ρ c = .ok (lstE g l) c) (e2 : fb ρ c = .ok (.int i) c) (h : 0 ≤ i ∧ i < l.length) : eIx fa fb ρ c = .ok (g (gI l i)) c := ev_ix e1 e2 (by
  have e : i = ((i.toNat : Nat) : Int) := by omega
  show atI (l.map g) i = _
  rw [e]
  refine atI_nat ?_
  rw [List.getElem?_map, gI_get h, ← e]; rfl)
/-- a known place of a tuple of unlike things -/
theorem pv_ixP {ds : List D} (q : Nat) (e1 : fa ρ c = .ok (.tuple ds) c) (e2 : fb ρ c = .ok (.int (q : Nat)) c) (h : ds[q]? = some x) : eIx fa fb ρ c = .ok x c := ev_ix e1 e2 (atI_nat h)
theorem pv_tailT {α : Type} {g : α → D} {l : List α} (e : f ρ c = .ok (tupE g l) c) : eSl f (oSo (eCst (.int 1))) oNo ρ c = .ok (tupE g (l.drop 1)) c := ev_tail_t e
theorem pv_tailL {α : Type} {g : α → D} {l : List α} (e : f ρ c = .ok (lstE g l) c) : eSl f (oSo (eCst (.int 1))) oNo ρ c = .ok (lstE g (l.drop 1)) c := by
  unfold eSl
  rw [bd_ok e]
  show Re.ok (PyData.list (cutL (l.map g) (some 1) none)) c = Re.ok (PyData.list ((l.drop 1).map g)) c
  rw [cut_1, List.map_drop]
theorem pv_revL {α : Type} {g : α → D} {l : List α} (e : f ρ c = .ok (lstE g l) c) : eRev f ρ c = .ok (lstE g l.reverse) c := by
  unfold eRev
  rw [bd_ok e]
  show Re.ok (PyData.list (l.map g).reverse) c = _
  rw [lstE, List.map_reverse]
/-! walks -/
def rgZ (n : Int) : List Int := rgI n.toNat
def rg2 (a b : Int) : List Int := (List.range (b - a).toNat).map fun (i : Nat) => a + (i : Int)
theorem mem_rgZ {n i : Int} : i ∈ rgZ n ↔ 0 ≤ i ∧ i < n := by unfold rgZ; rw [mem_rgI]; omega
theorem mem_rg2 {a b i : Int} : i ∈ rg2 a b ↔ a ≤ i ∧ i < b := by
  unfold rg2
  rw [List.mem_map]
  constructor
  · rintro ⟨k, h, rfl⟩
    have := List.mem_range.mp h
    omega
  · rintro ⟨h1, h2⟩
    exact ⟨(i - a).toNat, List.mem_range.mpr (by omega), by omega⟩
theorem rgZ_nat {n : Nat} : rgZ (n : Int) = rgI n := by unfold rgZ; rw [Int.toNat_natCast]
theorem len_rgZ {n : Int} : (rgZ n).length = n.toNat := by unfold rgZ; exact len_rgI
theorem len_rg2 {a b : Int} : (rg2 a b).length = (b - a).toNat := by simp [rg2]
theorem pi_r1 {n : Int} (e : f ρ c = .ok (.int n) c) (h : -(2 ^ 62) ≤ n ∧ n < 2 ^ 62) : iR1 f ρ c = .ok ((rgZ n).map .int) c := (ei_r1 e h).trans (by rw [range_rgI]; rfl)
theorem pi_r2 {a b : Int} (e1 : fa ρ c = .ok (.int a) c) (e2 : fb ρ c = .ok (.int b) c) (h : -(2 ^ 62) ≤ a ∧ a < 2 ^ 62 ∧ -(2 ^ 62) ≤ b ∧ b < 2 ^ 62) : iR2 fa fb ρ c = .ok ((rg2 a b).map .int) c := by
  unfold iR2
  rw [bd_ok e1, bd_ok e2]
  show (if _ then _ else _ : M (List D)) c = _
  rw [if_pos h]
  show Re.ok (rangeD a (b - a).toNat) c = _
  unfold rangeD rg2
  rw [List.map_map]; rfl
theorem pi_T {α : Type} {g : α → D} {l : List α} (e : f ρ c = .ok (tupE g l) c) : iVal f ρ c = .ok (l.map g) c := ei_tup e
theorem pi_L {α : Type} {g : α → D} {l : List α} (e : f ρ c = .ok (lstE g l) c) : iVal f ρ c = .ok (l.map g) c := ei_list e
theorem pi_zT {α β : Type} {g : α → D} {h : β → D} {l : List α} {m : List β} (e1 : fa ρ c = .ok (tupE g l) c) (e2 : fb ρ c = .ok (tupE h m) c) : iZip fa fb ρ c = .ok ((l.zip m).map (p2 g h)) c := (ei_zipT e1 e2).trans (by rw [zip_enc])
theorem pi_zL {α β : Type} {g : α → D} {h : β → D} {l : List α} {m : List β} (e1 : fa ρ c = .ok (lstE g l) c) (e2 : fb ρ c = .ok (lstE h m) c) : iZip fa fb ρ c = .ok ((l.zip m).map (p2 g h)) c := (ei_zipL e1 e2).trans (by rw [zip_enc])
def enI {α : Type} (k : Nat) : List α → List (Int × α)
  | [] => []
  | a :: l => ((k : Int), a) :: enI (k + 1) l
theorem enum_enc {α : Type} {g : α → D} : ∀ (l : List α) (k : Nat), enumD k (l.map g) = (enI k l).map (p2 PyData.int g)
  | [], _ => rfl
  | a :: l, k => by
    show PyData.tuple [.int (k : Nat), g a] :: enumD (k + 1) (l.map g) = _
    rw [enum_enc l (k + 1)]; rfl
theorem pi_enT {α : Type} {g : α → D} {l : List α} (e : f ρ c = .ok (tupE g l) c) : iEn f ρ c = .ok ((enI 0 l).map (p2 PyData.int g)) c := by
  unfold iEn; rw [bd_ok e]
  show Re.ok (enumD 0 (l.map g)) c = _
  rw [enum_enc]
theorem pi_enL {α : Type} {g : α → D} {l : List α} (e : f ρ c = .ok (lstE g l) c) : iEn f ρ c = .ok ((enI 0 l).map (p2 PyData.int g)) c := by
  unfold iEn; rw [bd_ok e]
  show Re.ok (enumD 0 (l.map g)) c = _
  rw [enum_enc]
/-! comprehensions -/
section
variable {β γ : Type} {own : List Nat} {tg : Tg} {iv : Iv} {cond : Tv} {elt : Ev}
theorem pv_lc {l : List β} {g : β → D} (p : β → Bool) (q : β → γ) (h : γ → D) (hi : iv ρ c = .ok (l.map g) c) (hl : l.length ≤ sizeLine)
    (hs : ∀ b ∈ l, ∃ ρ', bindT tg (g b) (wipeE ρ own) = some ρ' ∧ cond ρ' c = .ok (p b) c ∧ (p b = true → elt ρ' c = .ok (h (q b)) c)) : lcF own tg iv cond elt ρ c = .ok (((l.filter p).map q).map h) c :=
  (lc_enc l g p (fun b => h (q b)) hi hl hs).trans (by rw [List.map_map]; rfl)
theorem pv_lcF {l : List β} {g : β → D} (p : β → Bool) (hi : iv ρ c = .ok (l.map g) c) (hl : l.length ≤ sizeLine)
    (hs : ∀ b ∈ l, ∃ ρ', bindT tg (g b) (wipeE ρ own) = some ρ' ∧ cond ρ' c = .ok (p b) c ∧ (p b = true → elt ρ' c = .ok (g b) c)) : lcF own tg iv cond elt ρ c = .ok ((l.filter p).map g) c :=
  lc_enc l g p g hi hl hs
theorem pv_lcA {l : List β} {g : β → D} (q : β → γ) (h : γ → D) (hi : iv ρ c = .ok (l.map g) c) (hl : l.length ≤ sizeLine)
    (hs : ∀ b ∈ l, ∃ ρ', bindT tg (g b) (wipeE ρ own) = some ρ' ∧ elt ρ' c = .ok (h (q b)) c) : lcF own tg iv tAll elt ρ c = .ok ((l.map q).map h) c :=
  (lc_encA l g (fun b => h (q b)) hi hl hs).trans (by rw [List.map_map]; rfl)
theorem pv_lc2 {α : Type} {l : List α} {g : α → D} (p : α → Bool) (m : α → List β) (g2 : β → D) (p1 : α → β → Bool) (q : α → β → γ) (h : γ → D) {vs1 : List Nat} {iv1 : Iv} {t1 : Tg} {cond1 : Tv} (hi : iv ρ c = .ok (l.map g) c)
    (hl : ((l.filter p).flatMap fun a => ((m a).filter (p1 a)).map (q a)).length ≤ sizeLine)
    (hs : ∀ a ∈ l, ∃ ρ', bindT tg (g a) (wipeE ρ own) = some ρ' ∧ cond ρ' c = .ok (p a) c ∧ (p a = true → iv1 ρ' c = .ok ((m a).map g2) c ∧ ∀ b ∈ m a, ∃ ρ2, bindT t1 (g2 b) (wipeE ρ' vs1) = some ρ2 ∧ cond1 ρ2 c = .ok (p1 a b) c ∧ (p1 a b = true → elt ρ2 c = .ok (h (q a b)) c))) :
    lc2F own tg iv cond vs1 iv1 t1 cond1 elt ρ c = .ok (((l.filter p).flatMap fun a => ((m a).filter (p1 a)).map (q a)).map h) c := by
  unfold lc2F
  rw [bd_ok hi]
  unfold noErr
  have e : lcGo (step2 (wipeE ρ own) tg cond vs1 iv1 t1 cond1 elt) (l.map g) c = .ok (((l.filter p).flatMap fun a => ((m a).filter (p1 a)).map (q a)).map h) c := by
    clear hi hl
    induction l with
    | nil => rfl
    | cons a l ih =>
      obtain ⟨ρ', e1, e2, e3⟩ := hs a List.mem_cons_self
      have e4 : step2 (wipeE ρ own) tg cond vs1 iv1 t1 cond1 elt (g a) c = .ok (if p a then (((m a).filter (p1 a)).map (q a)).map h else []) c := by
        unfold step2
        rw [e1]
        simp only
        rw [bd_ok e2]
        cases hp : p a with
        | false => rfl
        | true =>
          obtain ⟨e5, e6⟩ := e3 hp
          simp only [if_true]
          rw [bd_ok e5]
          rw [go_enc g2 (p1 a) (fun b => h (q a b)) (m a) fun b hb => by
            obtain ⟨ρ2, h1, h2, h3⟩ := e6 b hb
            unfold step1
            rw [h1]
            simp only
            rw [bd_ok h2]
            cases hp1 : p1 a b with
            | true => simp only [if_true]; rw [bd_ok (h3 hp1)]; rfl
            | false => rfl]
          rw [List.map_map]; rfl
      show bd (step2 (wipeE ρ own) tg cond vs1 iv1 t1 cond1 elt (g a)) (fun l' => bd (lcGo (step2 (wipeE ρ own) tg cond vs1 iv1 t1 cond1 elt) (l.map g)) fun r => rt (l' ++ r)) c = _
      rw [bd_ok e4, bd_ok (ih fun b hb => hs b (List.mem_cons_of_mem _ hb)), List.filter_cons]
      cases hp : p a with
      | false => rfl
      | true => simp only [if_true]; rw [List.flatMap_cons, List.map_append]; rfl
  rw [bd_ok e, if_pos (by rw [List.length_map]; exact hl)]
  rfl
end
end
end Mi
namespace Mi
open PySem PySem.Spec PyProof.Rows L2
section
variable {α : Type} {g : α → D} {l : List α} {ρ : En} {c : Cp} {f h : Ev} {k : Int}
theorem sIx_n {n : Nat} {d : Nat} {k : Int} (hk : 0 ≤ k) : HT.sIx n d (some k) = min k.toNat n := by
  obtain ⟨m, rfl⟩ : ∃ m : Nat, k = m := ⟨k.toNat, by omega⟩
  rw [HT.sIx_nat, Int.toNat_natCast]
theorem cut_take {β : Type} (l : List β) (hk : 0 ≤ k) : cutL l none (some k) = l.take k.toNat := by
  unfold cutL
  rw [HT.sIx_none, sIx_n hk]
  simp only [List.drop_zero, Nat.sub_zero]
  by_cases h : k.toNat ≤ l.length
  · rw [Nat.min_eq_left h]
  · rw [Nat.min_eq_right (by omega), List.take_of_length_le (Nat.le_refl _), List.take_of_length_le (by omega)]
theorem cut_drop {β : Type} (l : List β) (hk : 0 ≤ k) : cutL l (some k) none = l.drop k.toNat := by
  unfold cutL
  rw [HT.sIx_none, sIx_n hk]
  by_cases h : k.toNat ≤ l.length
  · rw [Nat.min_eq_left h]
    apply List.take_of_length_le
    rw [List.length_drop]; exact Nat.le_refl _
  · rw [Nat.min_eq_right (by omega), List.drop_length, List.drop_eq_nil_of_le (by omega)]; simp
theorem ov_so {k : Int} (e : h ρ c = .ok (.int k) c) : oSo h ρ c = .ok (some k) c := by unfold oSo; rw [bd_ok e]; rfl
theorem pv_takeT (e : f ρ c = .ok (tupE g l) c) (e2 : h ρ c = .ok (.int k) c) (hk : 0 ≤ k) : eSl f oNo (oSo h) ρ c = .ok (tupE g (l.take k.toNat)) c := by
  unfold eSl
  rw [bd_ok e, bd_ok (show oNo ρ c = .ok none c from rfl), bd_ok (ov_so e2)]
  show Re.ok (PyData.tuple (cutL (l.map g) none (some k))) c = Re.ok (PyData.tuple ((l.take k.toNat).map g)) c
  rw [cut_take _ hk, List.map_take]
theorem pv_takeL (e : f ρ c = .ok (lstE g l) c) (e2 : h ρ c = .ok (.int k) c) (hk : 0 ≤ k) : eSl f oNo (oSo h) ρ c = .ok (lstE g (l.take k.toNat)) c := by
  unfold eSl
  rw [bd_ok e, bd_ok (show oNo ρ c = .ok none c from rfl), bd_ok (ov_so e2)]
  show Re.ok (PyData.list (cutL (l.map g) none (some k))) c = Re.ok (PyData.list ((l.take k.toNat).map g)) c
  rw [cut_take _ hk, List.map_take]
theorem pv_dropT (e : f ρ c = .ok (tupE g l) c) (e2 : h ρ c = .ok (.int k) c) (hk : 0 ≤ k) : eSl f (oSo h) oNo ρ c = .ok (tupE g (l.drop k.toNat)) c := by
  unfold eSl
  rw [bd_ok e, bd_ok (ov_so e2), bd_ok (show oNo ρ c = .ok none c from rfl)]
  show Re.ok (PyData.tuple (cutL (l.map g) (some k) none)) c = Re.ok (PyData.tuple ((l.drop k.toNat).map g)) c
  rw [cut_drop _ hk, List.map_drop]
theorem pv_dropL (e : f ρ c = .ok (lstE g l) c) (e2 : h ρ c = .ok (.int k) c) (hk : 0 ≤ k) : eSl f (oSo h) oNo ρ c = .ok (lstE g (l.drop k.toNat)) c := by
  unfold eSl
  rw [bd_ok e, bd_ok (ov_so e2), bd_ok (show oNo ρ c = .ok none c from rfl)]
  show Re.ok (PyData.list (cutL (l.map g) (some k) none)) c = Re.ok (PyData.list ((l.drop k.toNat).map g)) c
  rw [cut_drop _ hk, List.map_drop]
end
end Mi
namespace Mi
open PySem PySem.Spec PyProof.Rows L2
section
variable {α : Type} {g : α → D} {l : List α} {ρ : En} {c : Cp} {f : Ev}
theorem cut_init {β : Type} (l : List β) : cutL l none (some (-1)) = l.dropLast := by
  unfold cutL
  rw [HT.sIx_none]
  have e : HT.sIx l.length l.length (some (-1)) = l.length - 1 := by
    show (if (-1 : Int) < 0 then ((-1 : Int) + (l.length : Int)).toNat else min (-1 : Int).toNat l.length) = _
    rw [if_pos (by omega)]; omega
  rw [e, List.dropLast_eq_take]; simp
theorem pv_initT (e : f ρ c = .ok (tupE g l) c) : eSl f oNo (oSo (eNeg (eCst (.int 1)))) ρ c = .ok (tupE g l.dropLast) c := by
  unfold eSl
  rw [bd_ok e, bd_ok (show oNo ρ c = .ok none c from rfl), bd_ok (ov_so (k := -1) (by rfl))]
  show Re.ok (PyData.tuple (cutL (l.map g) none (some (-1)))) c = Re.ok (PyData.tuple (l.dropLast.map g)) c
  rw [cut_init, List.map_dropLast]
theorem pv_initL (e : f ρ c = .ok (lstE g l) c) : eSl f oNo (oSo (eNeg (eCst (.int 1)))) ρ c = .ok (lstE g l.dropLast) c := by
  unfold eSl
  rw [bd_ok e, bd_ok (show oNo ρ c = .ok none c from rfl), bd_ok (ov_so (k := -1) (by rfl))]
  show Re.ok (PyData.list (cutL (l.map g) none (some (-1)))) c = Re.ok (PyData.list (l.dropLast.map g)) c
  rw [cut_init, List.map_dropLast]
end
end Mi

namespace Mi
open PySem PySem.Spec PyProof.Rows L2
/-! statements, by what stands behind them -/
def W (b : Sv) (ρ : En) (c : Cp) (P : Fl × En → Prop) : Prop := ∃ p, b ρ c = .ok p c ∧ P p
def RetK {α : Type} (g : α → D) (r : α) (p : Fl × En) : Prop := p.1 = .ret (g r)
def NxtK {σ : Type} (up : σ → En → Prop) (s : σ) (p : Fl × En) : Prop := p.1 = .next ∧ up s p.2
def OptK {α : Type} (g : α → D) (up : En → Prop) (o : Option α) (p : Fl × En) : Prop := match o with
  | some r => p.1 = .ret (g r)
  | none => p.1 = .next ∧ up p.2
section
variable {ρ ρ' : En} {c : Cp} {x y z d : D} {f h fa fb fc : Ev} {t u : Tv} {a r : Av} {i j n m : Nat} {xs ys ds : List D} {k : Bool} {P : Fl × En → Prop} {b b1 b2 g' : Sv}
theorem w_of {q : Fl × En} (e : b ρ c = .ok q c) (h : W g' q.2 c P) (hn : q.1 = .next) : W (sSeq b g') ρ c P := by
  obtain ⟨fl, ρ1⟩ := q
  cases hn
  obtain ⟨p, e2, h2⟩ := h
  exact ⟨p, (es_next e).trans e2, h2⟩
theorem w_asg (e : f (strict ρ) c = .ok d c) (k : W g' (ρ.set i (.d d)) c P) : W (sSeq (sAsg (.nm i) f) g') ρ c P := w_of (es_asg e) k rfl
theorem w_asgT {T : Tg} {ρ' : En} (e : f (strict ρ) c = .ok d c) (hb : bindT T d ρ = some ρ') (k : W g' ρ' c P) : W (sSeq (sAsg T f) g') ρ c P := w_of (q := (.next, ρ')) (by
  unfold sAsg
  have z : keepD f ρ c = .ok d c := by unfold keepD; rw [e]
  rw [bd_ok z, hb]; rfl) k rfl
theorem w_box (e : a (strict ρ) c = .ok xs c) (k : W g' (ρ.set i (.box xs)) c P) : W (sSeq (sBox i a) g') ρ c P := w_of (es_box e) k rfl
theorem w_app (hb : ρ[i]? = some (.box xs)) (e : f (strict ρ) c = .ok x c) (hl : xs.length < sizeLine) (k : W g' (ρ.set i (.box (xs ++ [x]))) c P) : W (sSeq (sApp i f) g') ρ c P := w_of (es_app hb e hl) k rfl
theorem w_appE {α : Type} {g : α → D} {l : List α} {v : α} (hb : ρ[i]? = some (.box (l.map g))) (e : f (strict ρ) c = .ok (g v) c) (hl : l.length < sizeLine) (k : W g' (ρ.set i (.box ((l ++ [v]).map g))) c P) : W (sSeq (sApp i f) g') ρ c P :=
  w_app hb e (by rw [List.length_map]; exact hl) (by rw [List.map_append] at k; exact k)
theorem w_exp (e : f ρ c = .ok d c) (k : W g' ρ c P) : W (sSeq (sExp f) g') ρ c P := w_of (es_exp e) k rfl
theorem w_ret (e : f ρ c = .ok d c) (k : P (.ret d, ρ)) : W (sSeq (sRet f) g') ρ c P := ⟨_, es_retd (es_ret e), k⟩
theorem w_nop (k : P (.next, ρ)) : W sNop ρ c P := ⟨_, rfl, k⟩
theorem w_nops (k : W g' ρ c P) : W (sSeq sNop g') ρ c P := w_of (q := (.next, ρ)) rfl k rfl
theorem w_assoc (k : W (sSeq b1 (sSeq b2 g')) ρ c P) : W (sSeq (sSeq b1 b2) g') ρ c P := by
  obtain ⟨p, e, h⟩ := k
  refine ⟨p, ?_, h⟩
  rw [← e]
  unfold sSeq bd
  cases b1 ρ c with
  | ok q c1 =>
    obtain ⟨fl, ρ1⟩ := q
    cases fl <;> rfl
  | err => rfl
  | stuck => rfl
theorem w_if {ω : Type} (K : ω → Fl × En → Prop) {A B : ω} (e : t ρ c = .ok k c) (h1 : k = true → W (sSeq b1 g') ρ c (K A)) (h2 : k = false → W (sSeq b2 g') ρ c (K B)) : W (sSeq (sIf t b1 b2) g') ρ c (K (cond k A B)) := by
  have st : sSeq (sIf t b1 b2) g' ρ c = (if k then sSeq b1 g' ρ c else sSeq b2 g' ρ c) := by
    unfold sSeq sIf
    cases k with
    | true =>
      show bd (bd (t ρ) _) _ c = bd (b1 ρ) _ c
      unfold bd; rw [e]; rfl
    | false =>
      show bd (bd (t ρ) _) _ c = bd (b2 ρ) _ c
      unfold bd; rw [e]; rfl
  cases k with
  | true =>
    obtain ⟨p, e1, h⟩ := h1 rfl
    exact ⟨p, st.trans e1, h⟩
  | false =>
    obtain ⟨p, e1, h⟩ := h2 rfl
    exact ⟨p, st.trans e1, h⟩
/-- a test that is known to be false -/
theorem w_iff (e : t ρ c = .ok k c) (hk : k = false) (h : W g' ρ c P) : W (sSeq (sIf t b1 sNop) g') ρ c P := w_of (es_if_f (e.trans (by rw [hk]))) h rfl
theorem w_iff' (e : t ρ c = .ok false c) (h : W g' ρ c P) : W (sSeq (sIf t b1 sNop) g') ρ c P := w_of (es_if_f e) h rfl
theorem go_cons {T : Tg} {ds : List D} (e1 : bindT T d ρ = some ρ') {fl : Fl} {ρ1 : En} {r : Re (Fl × En)} (e2 : b ρ' c = .ok (fl, ρ1) c) (h : fl = .next) (e3 : forGo T b ds ρ1 c = r) : forGo T b (d :: ds) ρ c = r := by
  subst h
  unfold forGo
  rw [e1]
  simp only
  rw [bd_ok e2]
  exact e3
theorem go_ret {T : Tg} {ds : List D} (e1 : bindT T d ρ = some ρ') {v : D} {ρ1 : En} (e2 : b ρ' c = .ok (.ret v, ρ1) c) : forGo T b (d :: ds) ρ c = .ok (.ret v, ρ1) c := by
  unfold forGo
  rw [e1]
  simp only
  rw [bd_ok e2]; rfl
/-! walks that go on to their end -/
def okF {β σ : Type} (f : σ → β → σ) (ok : σ → β → Prop) : σ → List β → Prop
  | _, [] => True
  | s, x :: l => ok s x ∧ okF f ok (f s x) l
theorem go_fold {β σ : Type} {T : Tg} {body : Sv} {g : β → D} (f : σ → β → σ) (ok : σ → β → Prop) (up : σ → En → Prop) (step : ∀ (x : β) s ρ', ok s x → up s ρ' → ∃ ρ2, bindT T (g x) ρ' = some ρ2 ∧ W body ρ2 c (NxtK up (f s x))) :
    ∀ (l : List β) (s : σ) (ρ : En), okF f ok s l → up s ρ → ∃ ρ', forGo T body (l.map g) ρ c = .ok (.next, ρ') c ∧ up (l.foldl f s) ρ'
  | [], s, ρ, _, h => ⟨ρ, rfl, h⟩
  | x :: l, s, ρ, ho, h => by
    obtain ⟨ρ2, e1, p, e2, h2⟩ := step x s ρ ho.1 h
    obtain ⟨ρ', e3, h3⟩ := go_fold f ok up step l (f s x) p.2 ho.2 h2.2
    exact ⟨ρ', go_cons e1 (fl := p.1) (ρ1 := p.2) e2 h2.1 e3, h3⟩
theorem w_for {β σ : Type} {T : Tg} {iv : Iv} {body : Sv} {g : β → D} {l : List β} (f : σ → β → σ) (ok : σ → β → Prop) (up : σ → En → Prop) (s0 : σ) (hi : iv (strict ρ) c = .ok (l.map g) c) (ho : okF f ok s0 l) (h0 : up s0 ρ)
    (step : ∀ (x : β) s ρ', ok s x → up s ρ' → ∃ ρ2, bindT T (g x) ρ' = some ρ2 ∧ W body ρ2 c (NxtK up (f s x))) (k : ∀ ρ', up (l.foldl f s0) ρ' → W g' ρ' c P) : W (sSeq (sFor T iv body) g') ρ c P := by
  obtain ⟨ρ', e, h⟩ := go_fold f ok up step l s0 ρ ho h0
  exact w_of (es_for hi e) (k ρ' h) rfl
theorem w_forU {β σ J : Type} {T : Tg} {iv : Iv} {body : Sv} {g : β → D} {l : List β} (U : σ → J → En) (j0 : J) (f : σ → β → σ) (ok : σ → β → Prop) (s0 : σ) (hi : iv (strict ρ) c = .ok (l.map g) c) (ho : okF f ok s0 l) (h0 : U s0 j0 = ρ)
    (step : ∀ (x : β) s j, ok s x → ∃ ρ2, bindT T (g x) (U s j) = some ρ2 ∧ W body ρ2 c (NxtK (fun s ρ' => ∃ j, ρ' = U s j) (f s x))) (k : ∀ j, W g' (U (l.foldl f s0) j) c P) : W (sSeq (sFor T iv body) g') ρ c P :=
  w_for f ok (fun s ρ' => ∃ j, ρ' = U s j) s0 hi ho ⟨j0, h0.symm⟩ (fun x s ρ' ho ⟨j, e⟩ => by subst e; exact step x s j ho) (fun ρ' ⟨j, e⟩ => by subst e; exact k j)
theorem go_all {β J : Type} {T : Tg} {body : Sv} {g : β → D} (U : J → En) : ∀ (l : List β) (ρ : En), (∀ x ∈ l, ∀ j, ∃ ρ2, bindT T (g x) (U j) = some ρ2 ∧ W body ρ2 c (NxtK (fun (_ : Unit) ρ' => ∃ j, ρ' = U j) ())) → (∃ j, ρ = U j) →
    ∃ ρ', forGo T body (l.map g) ρ c = .ok (.next, ρ') c ∧ ∃ j, ρ' = U j
  | [], ρ, _, h => ⟨ρ, rfl, h⟩
  | x :: l, ρ, step, ⟨j, h⟩ => by
    subst h
    obtain ⟨ρ2, e1, p, e2, h2⟩ := step x List.mem_cons_self j
    obtain ⟨ρ', e3, h3⟩ := go_all U l p.2 (fun y hy => step y (List.mem_cons_of_mem _ hy)) h2.2
    exact ⟨ρ', go_cons e1 (fl := p.1) (ρ1 := p.2) e2 h2.1 e3, h3⟩
theorem w_forN {β J : Type} {T : Tg} {iv : Iv} {body : Sv} {g : β → D} {l : List β} (U : J → En) (j0 : J) (hi : iv (strict ρ) c = .ok (l.map g) c) (h0 : U j0 = ρ)
    (step : ∀ x ∈ l, ∀ j, ∃ ρ2, bindT T (g x) (U j) = some ρ2 ∧ W body ρ2 c (NxtK (fun (_ : Unit) ρ' => ∃ j, ρ' = U j) ())) (k : ∀ j, W g' (U j) c P) : W (sSeq (sFor T iv body) g') ρ c P := by
  obtain ⟨ρ', e, j, h⟩ := go_all U l ρ step ⟨j0, h0.symm⟩
  subst h
  exact w_of (es_for hi e) (k j) rfl
/-! walks that may end with a value -/
theorem go_find {β α : Type} {T : Tg} {body : Sv} {g : β → D} {q : α → D} (f : β → Option α) (up : En → Prop) : ∀ (l : List β) (ρ : En), (∀ x ∈ l, ∀ ρ', up ρ' → ∃ ρ2, bindT T (g x) ρ' = some ρ2 ∧ W body ρ2 c (OptK q up (f x))) → up ρ →
    ∃ p, forGo T body (l.map g) ρ c = .ok p c ∧ OptK q up (l.findSome? f) p
  | [], ρ, _, h => ⟨(.next, ρ), rfl, rfl, h⟩
  | x :: l, ρ, step, h => by
    obtain ⟨ρ2, e1, p, e2, h2⟩ := step x List.mem_cons_self ρ h
    obtain ⟨fl, ρ1⟩ := p
    rw [List.findSome?_cons]
    cases hf : f x with
    | none =>
      rw [hf] at h2
      obtain ⟨p', e3, h3⟩ := go_find f up l ρ1 (fun y hy => step y (List.mem_cons_of_mem _ hy)) h2.2
      exact ⟨p', go_cons e1 e2 h2.1 e3, h3⟩
    | some r =>
      rw [hf] at h2
      have h2' : fl = .ret (q r) := h2
      subst h2'
      exact ⟨_, go_ret e1 e2, rfl⟩
theorem w_find {β α : Type} {T : Tg} {iv : Iv} {body : Sv} {g : β → D} {l : List β} {q : α → D} (f : β → Option α) (up : En → Prop) {B : α} (hi : iv (strict ρ) c = .ok (l.map g) c) (h0 : up ρ)
    (step : ∀ x ∈ l, ∀ ρ', up ρ' → ∃ ρ2, bindT T (g x) ρ' = some ρ2 ∧ W body ρ2 c (OptK q up (f x))) (k : ∀ ρ', up ρ' → W g' ρ' c (RetK q B)) : W (sSeq (sFor T iv body) g') ρ c (RetK q ((l.findSome? f).getD B)) := by
  obtain ⟨p, e, h⟩ := go_find f up l ρ step h0
  obtain ⟨fl, ρ1⟩ := p
  cases hf : l.findSome? f with
  | none =>
    rw [hf] at h
    obtain ⟨h1, h2⟩ := h
    exact w_of (es_for hi e) (k _ h2) h1
  | some r =>
    rw [hf] at h
    have h' : fl = .ret (q r) := h
    subst h'
    exact ⟨_, es_retd (es_for hi e), rfl⟩
theorem w_find2 {β α : Type} {T : Tg} {iv : Iv} {body : Sv} {g : β → D} {l : List β} {q : α → D} (f : β → Option α) (up up2 : En → Prop) {B : Option α} (hi : iv (strict ρ) c = .ok (l.map g) c) (h0 : up ρ)
    (step : ∀ x ∈ l, ∀ ρ', up ρ' → ∃ ρ2, bindT T (g x) ρ' = some ρ2 ∧ W body ρ2 c (OptK q up (f x))) (k : ∀ ρ', up ρ' → W g' ρ' c (OptK q up2 B)) : W (sSeq (sFor T iv body) g') ρ c (OptK q up2 ((l.findSome? f).or B)) := by
  obtain ⟨p, e, h⟩ := go_find f up l ρ step h0
  obtain ⟨fl, ρ1⟩ := p
  cases hf : l.findSome? f with
  | none =>
    rw [hf] at h
    obtain ⟨h1, h2⟩ := h
    exact w_of (es_for hi e) (k _ h2) h1
  | some r =>
    rw [hf] at h
    have h' : fl = .ret (q r) := h
    subst h'
    exact ⟨_, es_retd (es_for hi e), rfl⟩
theorem w_findU {β α J : Type} {T : Tg} {iv : Iv} {body : Sv} {g : β → D} {l : List β} {q : α → D} (U : J → En) (j0 : J) (f : β → Option α) {B : α} (hi : iv (strict ρ) c = .ok (l.map g) c) (h0 : U j0 = ρ)
    (step : ∀ x ∈ l, ∀ j, ∃ ρ2, bindT T (g x) (U j) = some ρ2 ∧ W body ρ2 c (OptK q (fun ρ' => ∃ j, ρ' = U j) (f x))) (k : ∀ j, W g' (U j) c (RetK q B)) : W (sSeq (sFor T iv body) g') ρ c (RetK q ((l.findSome? f).getD B)) :=
  w_find f (fun ρ' => ∃ j, ρ' = U j) hi ⟨j0, h0.symm⟩ (fun x hx ρ' ⟨j, e⟩ => by subst e; exact step x hx j) (fun ρ' ⟨j, e⟩ => by subst e; exact k j)
theorem w_find2U {β α J : Type} {T : Tg} {iv : Iv} {body : Sv} {g : β → D} {l : List β} {q : α → D} (U : J → En) (j0 : J) (f : β → Option α) (up2 : En → Prop) {B : Option α} (hi : iv (strict ρ) c = .ok (l.map g) c) (h0 : U j0 = ρ)
    (step : ∀ x ∈ l, ∀ j, ∃ ρ2, bindT T (g x) (U j) = some ρ2 ∧ W body ρ2 c (OptK q (fun ρ' => ∃ j, ρ' = U j) (f x))) (k : ∀ j, W g' (U j) c (OptK q up2 B)) : W (sSeq (sFor T iv body) g') ρ c (OptK q up2 ((l.findSome? f).or B)) :=
  w_find2 f (fun ρ' => ∃ j, ρ' = U j) up2 hi ⟨j0, h0.symm⟩ (fun x hx ρ' ⟨j, e⟩ => by subst e; exact step x hx j) (fun ρ' ⟨j, e⟩ => by subst e; exact k j)
theorem w_fr (ρ2 : En) (e : ρ = ρ2) (k : W b ρ2 c P) : W b ρ c P := by subst e; exact k
/-- a def whose body ends with a value -/
theorem b_ret {α : Type} {g : α → D} {v : α} (h : W b (initE n ds) c (RetK g v)) : bodF n b ds c = .ok (g v) c := by
  obtain ⟨⟨fl, ρ1⟩, e, h⟩ := h
  cases h
  exact bod_ret e
theorem b_retF {α : Type} {g : α → D} {v : α} (ρ : En) (e : initE n ds = ρ) (h : W b ρ c (RetK g v)) : bodF n b ds c = .ok (g v) c := by subst e; exact b_ret h
theorem b_nxt (h : W b (initE n ds) c fun p => p.1 = .next) : bodF n b ds c = .ok .none c := by
  obtain ⟨⟨fl, ρ1⟩, e, h⟩ := h
  cases h
  exact bod_next e
theorem b_nxtF (ρ : En) (e : initE n ds = ρ) (h : W b ρ c fun p => p.1 = .next) : bodF n b ds c = .ok .none c := by subst e; exact b_nxt h
end
end Mi
namespace Mi
open PySem PySem.Spec PyProof.Rows L2
section
variable {ρ : En} {c : Cp} {P : Fl × En → Prop} {g' : Sv} {a : Av} {xs : List D}
theorem pv_aLst (e : a ρ c = .ok xs c) (hl : xs.length ≤ sizeLine) : aLst a ρ c = .ok xs c := by unfold aLst; rw [bd_ok e, if_pos hl]; rfl
theorem w_par2 {i j : Nat} {x y : D} (e : a (strict ρ) c = .ok [x, y] c) (k : W g' ((ρ.set i (.d x)).set j (.d y)) c P) : W (sSeq (sPar i j a) g') ρ c P := w_of (q := (.next, (ρ.set i (.d x)).set j (.d y))) (by
  unfold sPar
  have z : keepL a ρ c = .ok [x, y] c := by unfold keepL; rw [e]
  rw [bd_ok z]; rfl) k rfl
theorem w_as1 {s1 : Sv} (k : W (sSeq s1 g') ρ c P) : W (sSeq (sSeq s1 sNop) g') ρ c P := w_assoc (by
  obtain ⟨p, e, h⟩ := k
  refine ⟨p, ?_, h⟩
  rw [← e]; rfl)
end
end Mi

namespace Mi
open PySem PySem.Spec PyProof.Rows L2
/-! rows in their order -/
theorem srtR_ex (ks : List (List Int)) : ∃ ls : List (List Int), srtD (ks.map tupI) = ls.map tupI ∧ ls.Perm ks := perm_lift (srt_perm (ks.map tupI))
noncomputable def srtR (ks : List (List Int)) : List (List Int) := (srtR_ex ks).choose
theorem srtR_eq (ks : List (List Int)) : srtD (ks.map tupI) = (srtR ks).map tupI := (srtR_ex ks).choose_spec.1
theorem srtR_perm (ks : List (List Int)) : (srtR ks).Perm ks := (srtR_ex ks).choose_spec.2
theorem srtR_le (ks : List (List Int)) : (srtR ks).Pairwise fun a b => leD (tupI a) (tupI b) = true := by
  have pw := srt_pw (ks.map tupI)
  rw [srtR_eq] at pw
  exact List.pairwise_map.mp pw
theorem mem_srtR {ks : List (List Int)} {x : List Int} : x ∈ srtR ks ↔ x ∈ ks := (srtR_perm ks).mem_iff
theorem len_srtR {ks : List (List Int)} : (srtR ks).length = ks.length := (srtR_perm ks).length_eq
theorem srtR_lt {ks : List (List Int)} (nd : ks.Nodup) : (srtR ks).Pairwise fun a b => ltI a b = true :=
  List.Pairwise.imp₂ (fun a b h1 h2 => lt_of_le_ne h1 h2) (srtR_le ks) ((srtR_perm ks).nodup_iff.mpr nd)
theorem sortOK_rows (ks : List (List Int)) : sortOK (ks.map tupI) = true := by
  unfold sortOK
  have a : likeAll (ks.map tupI) = true := List.all_eq_true.mpr fun d hd => List.all_eq_true.mpr fun f hf => by
    obtain ⟨k, _, rfl⟩ := List.mem_map.mp hd
    obtain ⟨l, _, rfl⟩ := List.mem_map.mp hf
    show PySem.W.alike (.tuple _) (.tuple _) = true
    rw [PySem.W.alike]; exact like_ints k l
  have b : (ks.map tupI).all isTupD = true := List.all_eq_true.mpr fun d hd => by
    obtain ⟨k, _, rfl⟩ := List.mem_map.mp hd; rfl
  rw [a, b, shaped_tups]; rfl
section
variable {ρ : En} {c : Cp} {f : Ev}
theorem pv_srtR {ks : List (List Int)} (e : f ρ c = .ok (lstE (tupE PyData.int) ks) c) : eBi sortedB (aCons f aNil) ρ c = .ok (lstE (tupE PyData.int) (srtR ks)) c := ev_bi (ev_one e) (by
  show (sortedL [.list (ks.map tupI)]).map PyData.list = _
  have s : sortedL [.list (ks.map tupI)] = some (srtD (ks.map tupI)) := by
    show (if sortOK (ks.map tupI) then some (srtD (ks.map tupI)) else none) = _
    rw [if_pos (sortOK_rows ks)]
  rw [s, srtR_eq]; rfl)
/-- sorted(set(..)) of rows -/
noncomputable def ssR (ks : List (List Int)) : List (List Int) := srtR (nub ks)
theorem mem_ssR {ks : List (List Int)} {x : List Int} : x ∈ ssR ks ↔ x ∈ ks := mem_srtR.trans nub_mem
theorem ssR_lt (ks : List (List Int)) : (ssR ks).Pairwise fun a b => ltI a b = true := srtR_lt (nub_nodup ks)
theorem nub_len : ∀ l : List (List Int), (nub l).length ≤ l.length
  | [] => Nat.le_refl _
  | x :: l => by
    unfold nub
    split
    · exact Nat.le_succ_of_le (nub_len l)
    · exact Nat.succ_le_succ (nub_len l)
theorem len_ssR (ks : List (List Int)) : (ssR ks).length ≤ ks.length := by unfold ssR; rw [len_srtR]; exact nub_len ks
theorem rowsD_map (ks : List (List Int)) : rowsD (ks.map tupI) = some ks := by
  induction ks with
  | nil => rfl
  | cons k ks ih =>
    show (match rowD (tupI k), rowsD (ks.map tupI) with | some i, some is => some (i :: is) | _, _ => none) = _
    rw [ih, show rowD (tupI k) = some k from intsD_map k]
theorem pv_ssR {ks : List (List Int)} (e : f ρ c = .ok (lstE (tupE PyData.int) ks) c) (h : ks.length < 64 ∧ ∀ k ∈ ks, k.length ≤ sizeLine) : aSS f ρ c = .ok ((ssR ks).map (tupE PyData.int)) c := by
  unfold aSS
  rw [bd_ok e]
  show ofO (ssL (ks.map tupI)) c = _
  unfold ssL
  rw [rowsD_map]
  simp only
  have a : ((nub ks).all fun k => decide (k.length ≤ sizeLine)) = true := List.all_eq_true.mpr fun k hk' => decide_eq_true (h.2 k (nub_mem.mp hk'))
  rw [if_pos (by rw [decide_eq_true h.1, a]; rfl), srtR_eq]; rfl
end
end Mi
namespace Mi
open PySem PySem.Spec PyProof.Rows L2
section
variable {ρ : En} {c : Cp} {f fa fb : Ev}
theorem pv_srtRT {ks : List (List Int)} (e : f ρ c = .ok (tupE (tupE PyData.int) ks) c) : eBi sortedB (aCons f aNil) ρ c = .ok (lstE (tupE PyData.int) (srtR ks)) c := ev_bi (ev_one e) (by
  show (sortedL [.tuple (ks.map tupI)]).map PyData.list = _
  have s : sortedL [.tuple (ks.map tupI)] = some (srtD (ks.map tupI)) := by
    show (if sortOK (ks.map tupI) then some (srtD (ks.map tupI)) else none) = _
    rw [if_pos (sortOK_rows ks)]
  rw [s, srtR_eq]; rfl)
/-! rows of raw things -/
theorem bin_addTD {xs ys : List D} (h : xs.length + ys.length ≤ sizeLine) : binD .Add (.tuple xs) (.tuple ys) = some (.tuple (xs ++ ys)) := if_pos h
theorem bin_addLD {xs ys : List D} (h : xs.length + ys.length ≤ sizeLine) : binD .Add (.list xs) (.list ys) = some (.list (xs ++ ys)) := if_pos h
theorem pi_LD {ds : List D} (e : f ρ c = .ok (.list ds) c) : iVal f ρ c = .ok (ds.map fun d => d) c := (ei_list e).trans (by rw [List.map_id'])
theorem pi_TD {ds : List D} (e : f ρ c = .ok (.tuple ds) c) : iVal f ρ c = .ok (ds.map fun d => d) c := (ei_tup e).trans (by rw [List.map_id'])
theorem pv_eqNil {o : CmpOp} {ds : List D} (e1 : fa ρ c = .ok (.list ds) c) (e2 : fb ρ c = .ok (.list []) c) (h : ds = []) : eCmp .Eq fa fb ρ c = .ok (.bool true) c := by
  subst h; exact ev_cmp e1 e2 rfl
theorem pv_neNil {o : CmpOp} {ds : List D} (e1 : fa ρ c = .ok (.list ds) c) (e2 : fb ρ c = .ok (.list []) c) (h : ds = []) : eCmp .NotEq fa fb ρ c = .ok (.bool false) c := by
  subst h; exact ev_cmp e1 e2 rfl
end
end Mi
namespace Mi
open PySem PySem.Spec PyProof.Rows L2
section
variable {ρ : En} {c : Cp} {f : Ev}
theorem rowsD_ints {ns : List Int} (h : ns ≠ []) : rowsD (ns.map .int) = none := by
  cases ns with
  | nil => exact absurd rfl h
  | cons x r => rfl
theorem pv_ssI {ns : List Int} (e : f ρ c = .ok (lstE PyData.int ns) c) (h : ns.length < 64) : aSS f ρ c = .ok ((ssI ns).map PyData.int) c := by
  unfold aSS
  rw [bd_ok e]
  show ofO (ssL (ns.map .int)) c = _
  unfold ssL
  by_cases hn : ns = []
  · subst hn; rfl
  · rw [rowsD_ints hn, intsD_map]
    simp only
    rw [if_pos h]; rfl
end
end Mi

namespace Mi
open PySem PySem.Spec PyProof.Rows L2
/-! evaluation that draws from the cup: whatever is drawn -/
def ME {α : Type} (m : M α) (Q : α → Prop) : Prop := ∀ c, Cup c → ∃ a c', m c = .ok a c' ∧ Cup c' ∧ Q a
section
variable {α β γ : Type} {Q : α → Prop} {m : M α}
theorem me_pure {a : α} (e : ∀ c, m c = .ok a c) (h : Q a) : ME m Q := fun c hc => ⟨a, c, e c, hc, h⟩
theorem me_bd {n : M β} {k : β → M α} (h : ME n fun b => ME (k b) Q) : ME (bd n k) Q := fun c hc => by
  obtain ⟨b, c1, e1, h1, h2⟩ := h c hc
  obtain ⟨a, c2, e2, h3, h4⟩ := h2 c1 h1
  exact ⟨a, c2, (bd_ok e1).trans e2, h3, h4⟩
theorem me_rt {a : α} (h : Q a) : ME (rt a) Q := me_pure (fun _ => rfl) h
theorem me_mono {Q' : α → Prop} (h : ME m Q) (i : ∀ a, Q a → Q' a) : ME m Q' := fun c hc => by
  obtain ⟨a, c1, e1, h1, h2⟩ := h c hc
  exact ⟨a, c1, e1, h1, i a h2⟩
end
section
variable {α β γ : Type} {ρ ρ' : En} {Q : D → Prop} {QA : List D → Prop} {QB : Bool → Prop} {x y z d : D} {f h fa fb fc : Ev} {t u : Tv} {a r : Av} {i j n m : Nat} {xs ys ds : List D} {F : List D → M D}
theorem ve_bin {o : Operator} (h : ME (fa ρ) fun x => ME (fb ρ) fun y => ∃ z, binD o x y = some z ∧ Q z) : ME (eBin o fa fb ρ) Q :=
  me_bd (me_mono h fun x hx => me_bd (me_mono hx fun y ⟨z, e, hz⟩ => by rw [e]; exact me_rt hz))
theorem ve_cmp {o : CmpOp} (h : ME (fa ρ) fun x => ME (fb ρ) fun y => ∃ z, cmpD o x y = some z ∧ Q z) : ME (eCmp o fa fb ρ) Q :=
  me_bd (me_mono h fun x hx => me_bd (me_mono hx fun y ⟨z, e, hz⟩ => by rw [e]; exact me_rt hz))
theorem va_nil (h : QA []) : ME (aNil ρ) QA := me_rt h
theorem va_cons (h : ME (f ρ) fun x => ME (r ρ) fun xs => QA (x :: xs)) : ME (aCons f r ρ) QA := me_bd (me_mono h fun x hx => me_bd (me_mono hx fun xs h => me_rt h))
theorem ve_call (h : ME (a ρ) fun xs => xs.length = m ∧ ME (F xs) Q) : ME (eCall m F a ρ) Q := me_bd (me_mono h fun xs ⟨e, h⟩ => by rw [if_pos e]; exact h)
theorem ve_tup (h : ME (a ρ) fun xs => xs.length ≤ sizeLine ∧ Q (.tuple xs)) : ME (eTup a ρ) Q := me_bd (me_mono h fun xs ⟨e, h⟩ => by rw [if_pos e]; exact me_rt h)
theorem ve_lst (h : ME (a ρ) fun xs => xs.length ≤ sizeLine ∧ Q (.list xs)) : ME (eLst a ρ) Q := me_bd (me_mono h fun xs ⟨e, h⟩ => by rw [if_pos e]; exact me_rt h)
theorem ve_ofA (h : ME (a ρ) fun xs => Q (.list xs)) : ME (eOfA a ρ) Q := me_bd (me_mono h fun xs h => me_rt h)
theorem ve_bi {o : List D → Option D} (h : ME (a ρ) fun xs => ∃ z, o xs = some z ∧ Q z) : ME (eBi o a ρ) Q := me_bd (me_mono h fun xs ⟨z, e, hz⟩ => by rw [e]; exact me_rt hz)
theorem ve_ix (h : ME (fa ρ) fun x => ME (fb ρ) fun y => ∃ z, ixD x y = some z ∧ Q z) : ME (eIx fa fb ρ) Q :=
  me_bd (me_mono h fun x hx => me_bd (me_mono hx fun y ⟨z, e, hz⟩ => by rw [e]; exact me_rt hz))
theorem ve_ite (h : ME (t ρ) fun k => (k = true → ME (fa ρ) Q) ∧ (k = false → ME (fb ρ) Q)) : ME (eIte t fa fb ρ) Q := me_bd (me_mono h fun k h => by
  cases k with
  | true => exact h.1 rfl
  | false => exact h.2 rfl)
theorem ve_not (h : ME (f ρ) fun x => ∃ k, x = .bool k ∧ Q (.bool !k)) : ME (eNot f ρ) Q := me_bd (me_mono h fun x ⟨k, e, hk⟩ => by subst e; exact me_bd (me_pure (a := k) (fun _ => rfl) (me_rt hk)))
theorem ve_and (h : ME (fa ρ) fun x => ∃ k, x = .bool k ∧ (k = true → ME (fb ρ) Q) ∧ (k = false → Q (.bool false))) : ME (eAnd fa fb ρ) Q := me_bd (me_mono h fun x ⟨k, e, h1, h2⟩ => by
  subst e
  refine me_bd (me_pure (a := k) (fun _ => rfl) ?_)
  cases k with
  | true => exact h1 rfl
  | false => exact me_rt (h2 rfl))
theorem ve_or (h : ME (fa ρ) fun x => ∃ k, x = .bool k ∧ (k = false → ME (fb ρ) Q) ∧ (k = true → Q (.bool true))) : ME (eOr fa fb ρ) Q := me_bd (me_mono h fun x ⟨k, e, h1, h2⟩ => by
  subst e
  refine me_bd (me_pure (a := k) (fun _ => rfl) ?_)
  cases k with
  | true => exact me_rt (h2 rfl)
  | false => exact h1 rfl)
theorem vt_of (h : ME (f ρ) fun x => ∃ k, x = .bool k ∧ QB k) : ME (tOf f ρ) QB := me_bd (me_mono h fun x ⟨k, e, hk⟩ => by subst e; exact me_pure (a := k) (fun _ => rfl) hk)
theorem vt_cm (h : ME (f ρ) fun x => ∃ k, x = .bool k ∧ QB k) : ME (tCm f ρ) QB := me_bd (me_mono h fun x ⟨k, e, hk⟩ => by subst e; exact me_pure (a := k) (fun _ => rfl) hk)
theorem vt_no (h : ME (t ρ) fun k => QB (!k)) : ME (tNo t ρ) QB := me_bd (me_mono h fun k h => me_rt h)
theorem vt_an (h : ME (t ρ) fun k => (k = true → ME (u ρ) QB) ∧ (k = false → QB false)) : ME (tAn t u ρ) QB := me_bd (me_mono h fun k h => by
  cases k with
  | true => exact h.1 rfl
  | false => exact me_rt (h.2 rfl))
theorem vt_or (h : ME (t ρ) fun k => (k = false → ME (u ρ) QB) ∧ (k = true → QB true)) : ME (tOr' t u ρ) QB := me_bd (me_mono h fun k h => by
  cases k with
  | true => exact me_rt (h.2 rfl)
  | false => exact h.1 rfl)
theorem vi_val {α : Type} {g : α → D} {QI : List D → Prop} (h : ME (f ρ) fun x => ∃ l : List α, (x = tupE g l ∨ x = lstE g l) ∧ QI (l.map g)) : ME (iVal f ρ) QI := me_bd (me_mono h fun x ⟨l, e, h⟩ => by
  rcases e with e | e <;> subst e <;> exact me_rt h)
theorem vi_r1 {QI : List D → Prop} (h : ME (f ρ) fun x => ∃ n : Int, x = .int n ∧ (-(2 ^ 62) ≤ n ∧ n < 2 ^ 62) ∧ QI ((rgZ n).map .int)) : ME (iR1 f ρ) QI := me_bd (me_mono h fun x ⟨n, e, hn, h⟩ => by
  subst e
  show ME (if _ then _ else _ : M (List D)) QI
  rw [if_pos hn]
  refine me_rt ?_
  rw [range_rgI]; exact h)
/-- what is drawn -/
theorem e_roll {m : Int} (h : 0 < m ∧ m < 1073741824) : ME (rollF [dCup, .int m]) fun d => ∃ r : Int, d = .int r ∧ (0 ≤ r ∧ r < m) := fun c hc => by
  obtain ⟨r, c', e, h1, h2, h3⟩ := roll_ok hc h.1 h.2
  exact ⟨_, c', e, h3, r, rfl, h1, h2⟩
theorem me_ex {α : Type} {n : M D} {g : α → D} {Po : α → Prop} (h : ME n fun d => ∃ v, d = g v ∧ Po v) (k : ∀ v, Po v → Q (g v)) : ME n Q := me_mono h fun d ⟨v, e, hv⟩ => by subst e; exact k v hv
/-! comprehensions whose test draws -/
section
variable {own : List Nat} {tg : Tg} {iv : Iv} {cond : Tv} {elt : Ev}
theorem lcgo_eff {st : D → M (List D)} {g : β → D} {q : β → γ} {h : γ → D} {C : β → Prop} : ∀ l : List β, (∀ b ∈ l, ME (st (g b)) fun r => r = [] ∨ (r = [h (q b)] ∧ C b)) → ME (lcGo st (l.map g)) fun r => ∃ m : List β, r = (m.map q).map h ∧ m.Sublist l ∧ ∀ b ∈ m, C b
  | [], _ => me_rt ⟨[], rfl, .slnil, fun b hb => by cases hb⟩
  | b :: l, hs => me_bd (me_mono (hs b List.mem_cons_self) fun r hr => me_bd (me_mono (lcgo_eff l fun e he => hs e (List.mem_cons_of_mem _ he)) fun r2 ⟨m, e, sl, hm⟩ => me_rt (by
    rcases hr with rfl | ⟨rfl, hb⟩
    · exact ⟨m, e, sl.cons _, hm⟩
    · refine ⟨b :: m, by rw [e]; rfl, sl.cons_cons _, fun x hx => ?_⟩
      rcases List.mem_cons.mp hx with rfl | hx
      · exact hb
      · exact hm x hx)))
theorem no_err {α : Type} {m : M α} {Q : α → Prop} (h : ME m Q) : ME (noErr m) Q := fun c hc => by
  obtain ⟨a, c', e, h1, h2⟩ := h c hc
  refine ⟨a, c', ?_, h1, h2⟩
  unfold noErr; rw [e]
theorem va_lcS {l : List β} {g : β → D} (q : β → γ) (h : γ → D) (C : β → Prop) {QA : List D → Prop} (hi : ∀ c, iv ρ c = .ok (l.map g) c) (hl : l.length ≤ sizeLine)
    (hs : ∀ b ∈ l, ∃ ρ', bindT tg (g b) (wipeE ρ own) = some ρ' ∧ ME (cond ρ') fun k => k = true → C b ∧ ∀ c, elt ρ' c = .ok (h (q b)) c) (k : ∀ m : List β, m.Sublist l → (∀ b ∈ m, C b) → QA ((m.map q).map h)) : ME (lcF own tg iv cond elt ρ) QA := by
  refine me_bd (me_pure hi (no_err (me_bd (me_mono (lcgo_eff (g := g) (q := q) (h := h) (C := C) l fun b hb => ?_) fun r ⟨m, e, sl, hm⟩ => ?_))))
  · obtain ⟨ρ', e1, h1⟩ := hs b hb
    unfold step1
    rw [e1]
    refine me_bd (me_mono h1 fun k hk => ?_)
    cases k with
    | true =>
      obtain ⟨hC, he⟩ := hk rfl
      simp only [if_true]
      exact me_bd (me_pure he (me_rt (.inr ⟨rfl, hC⟩)))
    | false => exact me_rt (.inl rfl)
  · subst e
    rw [if_pos (by rw [List.length_map, List.length_map]; exact Nat.le_trans sl.length_le hl)]
    exact me_rt (k m sl hm)
/-- a comprehension without a test whose things are drawn -/
def Each {β γ : Type} (R : β → γ → Prop) : List β → List γ → Prop
  | [], [] => True
  | b :: l, v :: r => R b v ∧ Each R l r
  | _, _ => False
theorem Each.len {β γ : Type} {R : β → γ → Prop} : ∀ {l : List β} {r : List γ}, Each R l r → r.length = l.length
  | [], [], _ => rfl
  | _ :: _, _ :: _, h => by rw [List.length_cons, List.length_cons, Each.len h.2]
  | [], _ :: _, h => h.elim
  | _ :: _, [], h => h.elim
theorem Each.all {β γ : Type} {R : β → γ → Prop} : ∀ {l : List β} {r : List γ}, Each R l r → ∀ v ∈ r, ∃ b ∈ l, R b v
  | b :: _, w :: _, h, v, hv => by
    rcases List.mem_cons.mp hv with rfl | hv
    · exact ⟨b, List.mem_cons_self, h.1⟩
    · obtain ⟨x, hx, h2⟩ := Each.all h.2 v hv
      exact ⟨x, List.mem_cons_of_mem _ hx, h2⟩
  | [], [], _, _, hv => by cases hv
  | [], _ :: _, h, _, _ => h.elim
  | _ :: _, [], h, _, _ => h.elim
theorem va_lcE {l : List β} {g : β → D} (R : β → γ → Prop) (h : γ → D) {QA : List D → Prop} (hi : ∀ c, iv ρ c = .ok (l.map g) c) (hl : l.length ≤ sizeLine)
    (hs : ∀ b ∈ l, ∃ ρ', bindT tg (g b) (wipeE ρ own) = some ρ' ∧ ME (elt ρ') fun d => ∃ v, d = h v ∧ R b v) (k : ∀ r : List γ, Each R l r → QA (r.map h)) : ME (lcF own tg iv tAll elt ρ) QA := by
  have go : ∀ l : List β, (∀ b ∈ l, ∃ ρ', bindT tg (g b) (wipeE ρ own) = some ρ' ∧ ME (elt ρ') fun d => ∃ v, d = h v ∧ R b v) → ME (lcGo (step1 (wipeE ρ own) tg tAll elt) (l.map g)) fun r => ∃ m : List γ, r = m.map h ∧ Each R l m := by
    intro l
    induction l with
    | nil => exact fun _ => me_rt ⟨[], rfl, trivial⟩
    | cons b l ih =>
      intro hs
      obtain ⟨ρ', e1, h1⟩ := hs b List.mem_cons_self
      show ME (bd (step1 (wipeE ρ own) tg tAll elt (g b)) fun l' => bd (lcGo (step1 (wipeE ρ own) tg tAll elt) (l.map g)) fun r => rt (l' ++ r)) _
      refine me_bd ?_
      have s1 : ME (step1 (wipeE ρ own) tg tAll elt (g b)) fun r => ∃ v, r = [h v] ∧ R b v := by
        unfold step1
        rw [e1]
        refine me_bd (me_pure (a := true) (fun _ => rfl) ?_)
        simp only [if_true]
        exact me_bd (me_mono h1 fun d ⟨v, e, hv⟩ => me_rt ⟨v, by rw [e], hv⟩)
      refine me_mono s1 fun r ⟨v, e, hv⟩ => me_bd (me_mono (ih fun x hx => hs x (List.mem_cons_of_mem _ hx)) fun r2 ⟨m, e2, hm⟩ => me_rt ⟨v :: m, by rw [e, e2]; rfl, hv, hm⟩)
  refine me_bd (me_pure hi (no_err (me_bd (me_mono (go l hs) fun r ⟨m, e, hm⟩ => ?_))))
  subst e
  rw [if_pos (by rw [List.length_map, hm.len]; exact hl)]
  exact me_rt (k m hm)
end
/-! statements -/
section
variable {P : Fl × En → Prop} {b b1 b2 g' : Sv}
theorem we_of {Q' : Fl × En → Prop} (h : ME (b ρ) fun p => p.1 = .next ∧ ME (g' p.2) P) : ME (sSeq b g' ρ) P := me_bd (me_mono h fun p ⟨e, h⟩ => by
  obtain ⟨fl, ρ1⟩ := p
  cases e
  exact h)
theorem keep_me {f : Ev} {Q : D → Prop} (h : ME (f (strict ρ)) Q) : ME (keepD f ρ) Q := fun c hc => by
  obtain ⟨a, c', e, h1, h2⟩ := h c hc
  refine ⟨a, c', ?_, h1, h2⟩
  unfold keepD; rw [e]
theorem keepL_me {f : Av} {Q : List D → Prop} (h : ME (f (strict ρ)) Q) : ME (keepL f ρ) Q := fun c hc => by
  obtain ⟨a, c', e, h1, h2⟩ := h c hc
  refine ⟨a, c', ?_, h1, h2⟩
  unfold keepL; rw [e]
theorem we_asg (h : ME (f (strict ρ)) fun d => ME (g' (ρ.set i (.d d))) P) : ME (sSeq (sAsg (.nm i) f) g' ρ) P :=
  we_of (Q' := P) (me_bd (me_mono (keep_me h) fun d h => me_rt ⟨rfl, h⟩))
theorem we_asgT {T : Tg} (h : ME (f (strict ρ)) fun d => ∃ ρ', bindT T d ρ = some ρ' ∧ ME (g' ρ') P) : ME (sSeq (sAsg T f) g' ρ) P :=
  we_of (Q' := P) (me_bd (me_mono (keep_me h) fun d ⟨ρ', e, h⟩ => by rw [e]; exact me_rt ⟨rfl, h⟩))
theorem we_par2 (h : ME (a (strict ρ)) fun xs => ∃ x y, xs = [x, y] ∧ ME (g' ((ρ.set i (.d x)).set j (.d y))) P) : ME (sSeq (sPar i j a) g' ρ) P :=
  we_of (Q' := P) (me_bd (me_mono (keepL_me h) fun xs ⟨x, y, e, h⟩ => by subst e; exact me_rt ⟨rfl, h⟩))
theorem we_box (h : ME (a (strict ρ)) fun xs => ME (g' (ρ.set i (.box xs))) P) : ME (sSeq (sBox i a) g' ρ) P :=
  we_of (Q' := P) (me_bd (me_mono (keepL_me h) fun xs h => me_rt ⟨rfl, h⟩))
theorem we_app {α : Type} {g : α → D} {l : List α} (hb : ρ[i]? = some (.box (l.map g))) (hl : l.length < sizeLine) (h : ME (f (strict ρ)) fun d => ∃ v, d = g v ∧ ME (g' (ρ.set i (.box ((l ++ [v]).map g)))) P) : ME (sSeq (sApp i f) g' ρ) P := by
  refine we_of (Q' := P) ?_
  unfold sApp
  rw [hb]
  refine me_bd (me_mono (keep_me h) fun d ⟨v, e, h⟩ => ?_)
  subst e
  rw [if_pos (by rw [List.length_map]; exact hl)]
  refine me_rt ⟨rfl, ?_⟩
  rw [List.map_append] at h; exact h
theorem we_exp (h : ME (f ρ) fun _ => ME (g' ρ) P) : ME (sSeq (sExp f) g' ρ) P := we_of (Q' := P) (me_bd (me_mono h fun d h => me_rt ⟨rfl, h⟩))
theorem we_ret (h : ME (f ρ) fun d => P (.ret d, ρ)) : ME (sSeq (sRet f) g' ρ) P := me_bd (me_bd (me_mono h fun d h => me_rt (me_rt h)))
theorem we_nop (h : P (.next, ρ)) : ME (sNop ρ) P := me_rt h
theorem we_nops (h : ME (g' ρ) P) : ME (sSeq sNop g' ρ) P := we_of (Q' := P) (me_rt ⟨rfl, h⟩)
theorem we_fr (ρ2 : En) (e : ρ = ρ2) (k : ME (b ρ2) P) : ME (b ρ) P := by subst e; exact k
theorem we_assoc (k : ME (sSeq b1 (sSeq b2 g') ρ) P) : ME (sSeq (sSeq b1 b2) g' ρ) P := fun c hc => by
  obtain ⟨p, c', e, h⟩ := k c hc
  refine ⟨p, c', ?_, h⟩
  rw [← e]
  unfold sSeq bd
  cases b1 ρ c with
  | ok q c1 =>
    obtain ⟨fl, ρ1⟩ := q
    cases fl <;> rfl
  | err => rfl
  | stuck => rfl
theorem we_if (h : ME (t ρ) fun k => (k = true → ME (sSeq b1 g' ρ) P) ∧ (k = false → ME (sSeq b2 g' ρ) P)) : ME (sSeq (sIf t b1 b2) g' ρ) P := by
  have e : ∀ k : Bool, bd (if k then b1 ρ else b2 ρ) (fun p => match p.1 with | .next => g' p.2 | _ => rt p) = (if k then sSeq b1 g' ρ else sSeq b2 g' ρ) := fun k => by cases k <;> rfl
  have s : sSeq (sIf t b1 b2) g' ρ = bd (t ρ) fun k => (if k then sSeq b1 g' ρ else sSeq b2 g' ρ) := by
    funext c
    unfold sSeq sIf bd
    cases t ρ c with
    | ok k c1 => cases k <;> rfl
    | err => rfl
    | stuck => rfl
  rw [s]
  refine me_bd (me_mono h fun k h => ?_)
  cases k with
  | true => exact h.1 rfl
  | false => exact h.2 rfl
theorem we_iff (h : ME (t ρ) fun k => k = false ∧ ME (g' ρ) P) : ME (sSeq (sIf t b1 sNop) g' ρ) P := we_if (me_mono h fun k ⟨e, h⟩ => ⟨fun z => (by rw [e] at z; cases z), fun _ => we_nops h⟩)
/-- walks -/
def GO (T : Tg) (body : Sv) (g' : Sv) (P : Fl × En → Prop) (ρ : En) (ds : List D) : Prop := ME (forGo T body ds ρ) fun p => p.1 = .next ∧ ME (g' p.2) P
theorem we_for {T : Tg} {iv : Iv} {body : Sv} (h : ME (iv (strict ρ)) (GO T body g' P ρ)) : ME (sSeq (sFor T iv body) g' ρ) P := we_of (Q' := P) (me_bd h)
theorem ego_cons {T : Tg} {body : Sv} {ds : List D} {P : Fl × En → Prop} (e1 : bindT T d ρ = some ρ') (h : ME (body ρ') fun p => p.1 = .next ∧ ME (forGo T body ds p.2) P) : ME (forGo T body (d :: ds) ρ) P := by
  unfold forGo
  rw [e1]
  refine me_bd (me_mono h fun p ⟨e, h⟩ => ?_)
  rw [e]; exact h
theorem go_effN {β J : Type} {T : Tg} {body : Sv} {g : β → D} (U : J → En) : ∀ (l : List β) (ρ : En), (∀ x ∈ l, ∀ j, ∃ ρ2, bindT T (g x) (U j) = some ρ2 ∧ ME (body ρ2) fun p => p.1 = .next ∧ ∃ j, p.2 = U j) → (∃ j, ρ = U j) →
    ME (forGo T body (l.map g) ρ) fun p => p.1 = .next ∧ ∃ j, p.2 = U j
  | [], ρ, _, h => me_rt ⟨rfl, h⟩
  | x :: l, ρ, step, ⟨j, h⟩ => by
    subst h
    obtain ⟨ρ2, e1, h1⟩ := step x List.mem_cons_self j
    refine ego_cons e1 (me_mono h1 fun p ⟨e, h⟩ => ⟨e, go_effN U l p.2 (fun y hy => step y (List.mem_cons_of_mem _ hy)) h⟩)
theorem go_N {β J : Type} {T : Tg} {body : Sv} {g : β → D} {l : List β} (U : J → En) (j0 : J) (h0 : U j0 = ρ)
    (step : ∀ x ∈ l, ∀ j, ∃ ρ2, bindT T (g x) (U j) = some ρ2 ∧ ME (body ρ2) fun p => p.1 = .next ∧ ∃ j, p.2 = U j) (k : ∀ j, ME (g' (U j)) P) : GO T body g' P ρ (l.map g) :=
  me_mono (go_effN U l ρ step ⟨j0, h0.symm⟩) fun p ⟨e, j, h⟩ => ⟨e, by rw [h]; exact k j⟩
/-- with a state and what holds of it behind so many turns -/
theorem go_effI {β σ J : Type} {T : Tg} {body : Sv} {g : β → D} (U : σ → J → En) (I : Nat → σ → Prop) (L : List β) : ∀ (l : List β) (n : Nat) (ρ : En), L.drop n = l → (∀ n s, ∀ x ∈ L, n < L.length → L[n]? = some x → I n s → ∀ j, ∃ ρ2, bindT T (g x) (U s j) = some ρ2 ∧ ME (body ρ2) fun p => p.1 = .next ∧ ∃ s j, p.2 = U s j ∧ I (n + 1) s) → n ≤ L.length → (∃ s j, ρ = U s j ∧ I n s) →
    ME (forGo T body (l.map g) ρ) fun p => p.1 = .next ∧ ∃ s j, p.2 = U s j ∧ I L.length s
  | [], n, ρ, hn, _, hl, h => me_rt ⟨rfl, by
    have e : L.length = n := by have := List.drop_eq_nil_iff.mp hn; omega
    rw [e]; exact h⟩
  | x :: l, n, ρ, hn, step, hl, ⟨s, j, h, hI⟩ => by
    subst h
    have hlt : n < L.length := by
      apply Nat.lt_of_not_le
      intro z
      rw [List.drop_eq_nil_of_le z] at hn; cases hn
    have e := List.drop_eq_getElem_cons hlt
    rw [hn] at e
    have e1 := (List.cons.inj e).1
    have e2 := (List.cons.inj e).2
    have hx : L[n]? = some x := by rw [e1]; exact List.getElem?_eq_getElem hlt
    obtain ⟨ρ2, e1, h1⟩ := step n s x (List.mem_of_getElem? hx) hlt hx hI j
    refine ego_cons e1 (me_mono h1 fun p ⟨e, h⟩ => ⟨e, go_effI U I L l (n + 1) p.2 e2.symm step hlt h⟩)
theorem go_I {β σ J : Type} {T : Tg} {body : Sv} {g : β → D} {l : List β} (U : σ → J → En) (I : Nat → σ → Prop) (s0 : σ) (j0 : J) (h0 : U s0 j0 = ρ) (hI : I 0 s0)
    (step : ∀ n s, ∀ x ∈ l, n < l.length → l[n]? = some x → I n s → ∀ j, ∃ ρ2, bindT T (g x) (U s j) = some ρ2 ∧ ME (body ρ2) fun p => p.1 = .next ∧ ∃ s j, p.2 = U s j ∧ I (n + 1) s) (k : ∀ s j, I l.length s → ME (g' (U s j)) P) : GO T body g' P ρ (l.map g) :=
  me_mono (go_effI U I l l 0 ρ rfl step (Nat.zero_le _) ⟨s0, j0, h0.symm, hI⟩) fun p ⟨e, s, j, h, hI⟩ => ⟨e, by rw [h]; exact k s j hI⟩
/-- a def that draws -/
theorem be_ret {α : Type} {g : α → D} {Po : α → Prop} (ρ : En) (e : initE n ds = ρ) (h : ME (b ρ) fun p => ∃ v, p.1 = .ret (g v) ∧ Po v) : ME (bodF n b ds) fun d => ∃ v, d = g v ∧ Po v := by
  subst e
  refine me_bd (me_mono h fun p ⟨v, e, hv⟩ => ?_)
  obtain ⟨fl, ρ1⟩ := p
  cases e
  exact me_rt ⟨v, rfl, hv⟩
end
end
end Mi
namespace Mi
open PySem PySem.Spec PyProof.Rows L2
section
variable {ρ : En} {P : Fl × En → Prop} {g' : Sv}
theorem go_F {β σ J : Type} {T : Tg} {body : Sv} {g : β → D} {l : List β} (U : σ → J → En) (j0 : J) (f : σ → β → σ) (ok : σ → β → Prop) (s0 : σ) (ho : okF f ok s0 l) (h0 : U s0 j0 = ρ)
    (step : ∀ (x : β) s j, ok s x → ∃ ρ2, bindT T (g x) (U s j) = some ρ2 ∧ ∀ c, W body ρ2 c (NxtK (fun s ρ' => ∃ j, ρ' = U s j) (f s x))) (k : ∀ j, ME (g' (U (l.foldl f s0) j)) P) : GO T body g' P ρ (l.map g) := fun c hc => by
  obtain ⟨ρ', e, j, h⟩ := go_fold (c := c) (T := T) (body := body) (g := g) f ok (fun s ρ' => ∃ j, ρ' = U s j) (fun x s ρ' ho ⟨j, e⟩ => by
    subst e
    obtain ⟨ρ2, e1, h1⟩ := step x s j ho
    exact ⟨ρ2, e1, h1 c⟩) l s0 ρ ho ⟨j0, h0.symm⟩
  exact ⟨_, c, e, hc, rfl, by rw [h]; exact k j⟩
theorem len_ET {α : Type} {g : α → D} {l : List α} : lenB [tupE g l] = some (.int (l.length : Int)) := by
  show some (PyData.int ((l.map g).length : Nat)) = _
  rw [List.length_map]
theorem len_EL {α : Type} {g : α → D} {l : List α} : lenB [lstE g l] = some (.int (l.length : Int)) := by
  show some (PyData.int ((l.map g).length : Nat)) = _
  rw [List.length_map]
theorem ix_ET {α : Type} [Inhabited α] {g : α → D} {l : List α} {i : Int} (h : 0 ≤ i ∧ i < l.length) : ixD (tupE g l) (.int i) = some (g (gI l i)) := by
  have e : i = ((i.toNat : Nat) : Int) := by omega
  show atI (l.map g) i = _
  rw [e]
  refine atI_nat ?_
  rw [List.getElem?_map, gI_get h, ← e]; rfl
theorem ix_EL {α : Type} [Inhabited α] {g : α → D} {l : List α} {i : Int} (h : 0 ≤ i ∧ i < l.length) : ixD (lstE g l) (.int i) = some (g (gI l i)) := by
  have e : i = ((i.toNat : Nat) : Int) := by omega
  show atI (l.map g) i = _
  rw [e]
  refine atI_nat ?_
  rw [List.getElem?_map, gI_get h, ← e]; rfl
end
end Mi

namespace Mi
open PySem PySem.Spec PyProof.Rows L2
/-! plain facts of lists, as the printed text needs them -/
theorem okF_inv {β σ : Type} {f : σ → β → σ} {ok : σ → β → Prop} (I : Nat → σ → Prop) : ∀ (l : List β) (n : Nat) (s : σ), I n s → (∀ k s, ∀ x ∈ l, k < n + l.length → I k s → ok s x ∧ I (k + 1) (f s x)) → okF f ok s l
  | [], _, _, _, _ => trivial
  | x :: l, n, s, h, hs => by
    have a := hs n s x List.mem_cons_self (by rw [List.length_cons]; omega) h
    exact ⟨a.1, okF_inv I l (n + 1) (f s x) a.2 fun k s y hy hk => hs k s y (List.mem_cons_of_mem _ hy) (by rw [List.length_cons]; omega)⟩
theorem okF_all {β σ : Type} {f : σ → β → σ} {ok : σ → β → Prop} {l : List β} {s : σ} (h : ∀ s, ∀ x ∈ l, ok s x) : okF f ok s l := okF_inv (fun _ _ => True) l 0 s trivial fun _ s x hx _ _ => ⟨h s x hx, trivial⟩
theorem foldl_push {α β : Type} (g : β → α) : ∀ (l : List β) (a : List α), l.foldl (fun s x => s ++ [g x]) a = a ++ l.map g
  | [], a => by simp
  | x :: l, a => by rw [List.foldl_cons, foldl_push g l]; simp
theorem foldl_cat {α β : Type} (g : β → List α) : ∀ (l : List β) (a : List α), l.foldl (fun s x => s ++ g x) a = a ++ l.flatMap g
  | [], a => by simp
  | x :: l, a => by rw [List.foldl_cons, foldl_cat g l]; simp
theorem find_some {β : Type} {p : β → Bool} : ∀ {l : List β}, ((l.findSome? fun b => bif p b then some (some b) else none).getD none) = l.find? p
  | [] => rfl
  | b :: l => by
    rw [List.findSome?_cons, List.find?_cons]
    cases p b with
    | true => rfl
    | false => exact find_some (l := l)
theorem head_find {β : Type} [DecidableEq β] [Inhabited β] {p : β → Bool} {l : List β} : (bif !decide (l.filter p = []) then some (gI (l.filter p) 0) else none) = l.find? p := by
  rw [← List.head?_filter]
  cases l.filter p with
  | nil => rfl
  | cons a m => rfl
theorem gI_map {α β : Type} [Inhabited α] [Inhabited β] {g : β → α} {l : List β} {i : Int} (h : 0 ≤ i ∧ i < l.length) : gI (l.map g) i = g (gI l i) := by
  have e := gI_get (l := l.map g) (i := i) (by rw [List.length_map]; exact h)
  rw [List.getElem?_map, gI_get h] at e
  exact (Option.some.inj e).symm
theorem gI_rgZ {n i : Int} (h : 0 ≤ i ∧ i < n) : gI (rgZ n) i = i := by
  have e := gI_get (l := rgZ n) (i := i) (by rw [len_rgZ]; omega)
  unfold rgZ at e
  rw [get_rgI (by omega)] at e
  have := Option.some.inj e
  unfold rgZ
  omega
theorem gI_mapR {α : Type} [Inhabited α] {g : Int → α} {n i : Int} (h : 0 ≤ i ∧ i < n) : gI ((rgZ n).map g) i = g i := by
  rw [gI_map (by rw [len_rgZ]; omega), gI_rgZ h]
theorem gI_mem {α : Type} [Inhabited α] {l : List α} {i : Int} (h : 0 ≤ i ∧ i < l.length) : gI l i ∈ l := List.mem_of_getElem? (gI_get h)
theorem pw_rgZ (n : Int) : (rgZ n).Pairwise (· < ·) := pw_rgI _
theorem rgI_succ (n : Nat) : rgI (n + 1) = rgI n ++ [(n : Int)] := by
  unfold rgI; rw [List.range_succ, List.map_append]; rfl
theorem lots_fold (n : Nat) : (rgI n).foldl (fun (s : List (List Int)) (own : Int) => s ++ s.map fun (lot : List Int) => lot ++ [own]) [[]] = rawL n := by
  induction n with
  | zero => rfl
  | succ n ih => rw [rgI_succ, List.foldl_append, ih]; rfl
theorem sub_len {a b : List Int} (h : a.Pairwise (· < ·)) (k : b.Pairwise (· < ·)) (s : ∀ x ∈ a, x ∈ b) : a.length ≤ b.length := (asc_sub h k s).length_le
theorem lot_len_le {n : Int} {l : List Int} (h : l.Pairwise (· < ·)) (hl : ∀ x ∈ l, 0 ≤ x ∧ x < n) : l.length ≤ n.toNat := by
  have := sub_len h (pw_rgZ n) fun x hx => mem_rgZ.mpr (hl x hx)
  rw [len_rgZ] at this; exact this
theorem fits {n : Nat} (h : n ≤ 1000000) : n ≤ sizeLine := Nat.le_trans h (by decide)
theorem asc_zip {β : Type} {lt : β → β → Bool} : ∀ {l : List β}, l.Pairwise (fun a b => lt a b = true) → (l.zip (l.drop 1)).all (fun p => lt p.1 p.2) = true
  | [], _ => rfl
  | [_], _ => rfl
  | a :: b :: l, pw => by
    have p := List.pairwise_cons.mp pw
    show (lt a b && ((b :: l).zip ((b :: l).drop 1)).all fun p => lt p.1 p.2) = true
    rw [p.1 b List.mem_cons_self, asc_zip p.2]; rfl
theorem ltI_trans {a b c : List Int} (h1 : ltI a b = true) (h2 : ltI b c = true) : ltI a c = true := by
  refine lt_of_le_ne (le_tot.trans _ _ _ (le_of_ltI h1) (le_of_ltI h2)) fun e => ?_
  subst e
  have := le_anti (le_of_ltI h1) (le_of_ltI h2)
  subst this
  rw [ltI_irr] at h1; cases h1
theorem zip_asc : ∀ {l : List (List Int)}, (l.zip (l.drop 1)).all (fun p => ltI p.1 p.2) = true → l.Pairwise fun a b => ltI a b = true
  | [], _ => .nil
  | [_], _ => List.pairwise_singleton ..
  | a :: b :: l, h => by
    have h' : (ltI a b && ((b :: l).zip ((b :: l).drop 1)).all fun p => ltI p.1 p.2) = true := h
    rw [Bool.and_eq_true] at h'
    have ih := zip_asc (l := b :: l) h'.2
    refine List.pairwise_cons.mpr ⟨fun x hx => ?_, ih⟩
    rcases List.mem_cons.mp hx with rfl | hx
    · exact h'.1
    · exact ltI_trans h'.1 ((List.pairwise_cons.mp ih).1 x hx)
theorem find_none {β : Type} {p : β → Bool} {l : List β} [DecidableEq β] : (l.find? p).isNone = decide (l.filter p = []) := by
  rw [Bool.eq_iff_iff, Option.isNone_iff_eq_none, List.find?_eq_none, decide_eq_true_eq, List.filter_eq_nil_iff]
theorem zip_len {β : Type} {l : List β} : (l.zip (l.drop 1)).length ≤ l.length := by rw [List.length_zip]; omega
end Mi

namespace Mi
open PySem PySem.Spec PyProof.Rows L2
/-! few lots of which none is within another (of seven papers) -/
theorem few_nats : ∀ (n : Nat) (l : List Nat), l.Nodup → (∀ x ∈ l, x < n) → l.length ≤ n
  | 0, l, _, h => by
    cases l with
    | nil => exact Nat.le_refl _
    | cons a _ => exact absurd (h a List.mem_cons_self) (Nat.not_lt_zero _)
  | n + 1, l, nd, h => by
    have e : (l.erase n).length ≤ n := few_nats n (l.erase n) (nd.erase _) fun x hx => by
      have h1 := (nd.mem_erase_iff).mp hx
      have := h x h1.2
      omega
    have := List.length_erase (a := n) (l := l)
    split at this <;> omega
def chainT : List Nat := [0, 1, 2, 3, 4, 5, 6, 7, 8, 9, 10, 11, 12, 13, 14, 14, 15, 16, 17, 18, 19, 20, 21, 21, 22, 23, 24, 24, 22, 23, 22, 22, 25, 26, 27, 28, 29, 30, 31, 31, 32, 33, 34, 34, 32, 33, 32, 32, 25, 26, 27, 28, 29, 30, 29, 29, 25, 26, 27, 27, 25, 26, 25, 25, 0, 1, 2, 3, 4, 5, 6, 7, 8, 9, 10, 11, 12, 13, 12, 12, 15, 16, 17, 18, 19, 20, 19, 19, 15, 16, 17, 17, 15, 16, 15, 15, 0, 1, 2, 3, 4, 5, 6, 6, 8, 9, 10, 10, 8, 9, 8, 8, 0, 1, 2, 3, 4, 5, 4, 4, 0, 1, 2, 2, 0, 1, 0, 0]
def codeI (x : List Int) : Nat := (x.map fun e => 2 ^ e.toNat).sum
def chainI (x : List Int) : Nat := chainT.getD (codeI x) 0
def withI (a b : List Int) : Bool := a.all fun x => b.contains x
theorem chain_ok : (rawL 7).all (fun a => (rawL 7).all fun b => !(chainI a == chainI b) || (withI a b || withI b a)) = true := by decide +kernel
theorem chain_lt : (rawL 7).all (fun a => decide (chainI a < 35)) = true := by decide +kernel
theorem sperner7 {A : List (List Int)} (nd : A.Nodup) (h : ∀ x ∈ A, x.Pairwise (· < ·) ∧ ∀ e ∈ x, 0 ≤ e ∧ e < 7) (anti : ∀ a ∈ A, ∀ b ∈ A, (∀ x ∈ a, x ∈ b) → a = b) : A.length ≤ 35 := by
  have m : ∀ x ∈ A, x ∈ rawL 7 := fun x hx => mem_raw.mpr (h x hx)
  have e : (A.map chainI).length ≤ 35 := few_nats 35 _ ?_ fun x hx => by
    obtain ⟨a, ha, rfl⟩ := List.mem_map.mp hx
    exact of_decide_eq_true (List.all_eq_true.mp chain_lt a (m a ha))
  · rw [List.length_map] at e; exact e
  · refine List.pairwise_map.mpr ?_
    refine List.Pairwise.imp_of_mem ?_ nd
    intro a b ha hb ne z
    have q := List.all_eq_true.mp (List.all_eq_true.mp chain_ok a (m a ha)) b (m b hb)
    rw [beq_iff_eq.mpr z] at q
    simp only [Bool.not_true, Bool.false_or, Bool.or_eq_true] at q
    have w : ∀ {a b : List Int}, withI a b = true → ∀ x ∈ a, x ∈ b := fun {a b} hw x hx => by
      have := List.all_eq_true.mp hw x hx
      simpa using this
    rcases q with q | q
    · exact ne (anti a ha b hb (w q))
    · exact ne (anti b hb a ha (w q)).symm
end Mi

namespace Hd
open PySem PySem.Spec PyProof.Rows L2 Mi
def top (i : Nat) : Stmt := PySem.Challenge.pw_asbarred_k18_whole_ladders.main.body.getD i (.Pass ⟨0, 0, 0, 0⟩)
def dOf (x : Str) (i : Nat) : He.DefD := ⟨(x, none), x, x, defArgs (top i), defBody (top i), defScope (top i), [], []⟩
def fn : List He.DefD := [dOf "is_whole" 10, dOf "need_whole" 11, dOf "is_tuple_of" 12, dOf "is_ascending" 13, dOf "is_set_below" 14, dOf "need_papers" 15, dOf "is_within" 17, dOf "are_bars_in" 18, dOf "is_free_in" 19, dOf "need_bars" 20, dOf "without" 22, dOf "lighter_bar" 24, dOf "heavier_in" 25, dOf "unlike_pair" 27, dOf "is_ladder" 28, dOf "ladder_bar" 29, dOf "ladder_steps" 30, dOf "_law_cup" 32, dOf "_law_roll" 33, dOf "_law_sort" 34, dOf "_law_like" 35, dOf "_law_error" 36, dOf "_law_lots" 37, dOf "_law_in" 38, dOf "_law_free" 39, dOf "_law_least" 40, dOf "_law_bars" 41, dOf "_law_families" 42, dOf "_law_weighed" 43, dOf "_law_outweighs" 44, dOf "_law_right" 45, dOf "_law_beside" 46, dOf "_law_errors_right" 47, dOf "law" 48]
def fa0 : List He.Fa := [.glo "is_whole", .glo "need_whole", .glo "is_tuple_of", .glo "is_ascending", .glo "is_set_below", .glo "need_papers", .glo "is_within", .glo "are_bars_in", .glo "is_free_in", .glo "need_bars", .glo "without", .glo "lighter_bar", .glo "heavier_in", .glo "unlike_pair", .glo "is_ladder", .glo "ladder_bar", .glo "ladder_steps", .glo "_law_cup", .glo "_law_roll", .glo "_law_sort"]
def fa1 : List He.Fa := [.glo "_law_like", .glo "_law_error", .glo "_law_lots", .glo "_law_in", .glo "_law_free", .glo "_law_least", .glo "_law_bars", .glo "_law_families", .glo "_law_weighed", .glo "_law_outweighs", .glo "_law_right", .glo "_law_beside", .glo "_law_errors_right", .glo "law", .glo "BarError", .glo "InvalidNumber", .glo "InvalidLot", .glo "InvalidBars", .glo "InvalidRow", .glo "NotFound"]
def fa2 : List He.Fa := [.free "isinstance", .free "int", .free "bool", .free "str", .free "tuple", .free "list", .free "range", .free "zip", .free "enumerate", .free "sorted", .free "set", .free "len", .free "any", .free "all", .free "abs", .free "sum", .free "min", .free "max", .int "PAPERS" 10, .int "BARS" 252]
def fa3 : List He.Fa := [.exc "BarError", .exc "InvalidNumber", .exc "InvalidLot", .exc "InvalidBars", .exc "InvalidRow", .exc "NotFound", .keep "BarError", .keep "InvalidNumber", .keep "InvalidLot", .keep "InvalidBars", .keep "InvalidRow", .keep "NotFound", .exm "BarError" "BarError" true, .exm "InvalidNumber" "BarError" true, .exm "InvalidLot" "BarError" true, .exm "InvalidBars" "BarError" true, .exm "InvalidRow" "BarError" true, .exm "NotFound" "BarError" true]
def fa : List He.Fa := fa0 ++ fa1 ++ fa2 ++ fa3
def tf : List He.Defn := [("_law_right", none), ("_law_errors_right", none)]
def cls0 : List Str := ["BarError", "InvalidNumber", "InvalidLot", "InvalidBars", "InvalidRow", "NotFound"]
def cls : List Str := cls0
def sub0 : List (Str × Str) := [("BarError", "BarError"), ("InvalidNumber", "BarError"), ("InvalidNumber", "InvalidNumber"), ("InvalidLot", "BarError"), ("InvalidLot", "InvalidLot"), ("InvalidBars", "BarError"), ("InvalidBars", "InvalidBars"), ("InvalidRow", "BarError"), ("InvalidRow", "InvalidRow"), ("NotFound", "BarError"), ("NotFound", "NotFound")]
def subs : List (Str × Str) := sub0
def isx (x y : Str) : Bool := subs.contains (x, y)
abbrev R : PySem.W.OpenRow := PySem.W.OpenLaw.row PySem.Challenge.rw_asbarred_k18_whole_ladders
abbrev hk : PySem.W.Hook := He.hookX 4 fa fn [] tf (excAll isx cls tf)
def ob (s : PySem.W.SharedT) : He.AlX := He.obsX 4 fa fn [] tf (excAll isx cls tf) (HandSHeadRun.getT s)
theorem ob_eq (s : PySem.W.SharedT) : ob s = hk.obs s.abs := He.obsX_eq (HandSHeadRun.getT_eq s)
def loose0 : List Str := ["BarError", "InvalidNumber", "InvalidLot", "InvalidBars", "InvalidRow", "NotFound", "PAPERS", "BARS", "is_whole", "need_whole", "is_tuple_of", "is_ascending"]
def loose1 : List Str := ["is_set_below", "need_papers", "is_within", "are_bars_in", "is_free_in", "need_bars", "without", "lighter_bar", "heavier_in", "unlike_pair", "is_ladder", "ladder_bar"]
def loose2 : List Str := ["ladder_steps", "_law_cup", "_law_roll", "_law_sort", "_law_like", "_law_error", "_law_lots", "_law_in", "_law_free", "_law_least", "_law_bars", "_law_families"]
def loose3 : List Str := ["_law_weighed", "_law_outweighs", "_law_right", "_law_beside", "_law_errors_right"]
def loose : List Str := loose0 ++ loose1 ++ loose2 ++ loose3
theorem run (w : World) : HandSHeadRun.RunEq R (PySem.W.view R.prog [48]) hk ob 4000 loose w := by
  intro os
  kernel_rfl
def freeN : List Str := ["isinstance", "int", "bool", "str", "tuple", "list", "range", "zip", "enumerate", "sorted", "set", "len", "any", "all", "abs", "sum", "min", "max"]
def numsN : List (Str × Int) := [("PAPERS", 10), ("BARS", 252)]
def tabOf (fs : List (Str × (Nat × (List D → M D)))) (lams : List (Str × (M D → M D))) : Tab := ⟨freeN, numsN, fs, cls, bisT, blsT, lams⟩
def fs_0 : List (Str × (Nat × (List D → M D))) := []
def n_is_whole : List Str := ["value", "low", "high"]
def b_is_whole : Sv := (sSeq (sRet (eAnd (eIsa "int" (eVar 0)) (eAnd (eNot (eIsa "bool" (eVar 0))) (eChain .LtE .LtE (eVar 1) (eVar 0) (eVar 2))))) sNop)
theorem c_is_whole : cDef (tabOf fs_0 []) 60 100000 n_is_whole [] false (defScope (top 10)) (defBody (top 10)) = some b_is_whole := by kernel_rfl
def f_is_whole : List D → M D := bodF 3 b_is_whole
def fs_is_whole : List (Str × (Nat × (List D → M D))) := ("is_whole", (3, f_is_whole)) :: fs_0
def n_need_whole : List Str := ["value", "low", "high"]
def b_need_whole : Sv := (sSeq (sIf (tNo (tOf (eCall 3 f_is_whole (aCons (eVar 0) (aCons (eVar 1) (aCons (eVar 2) aNil)))))) (sSeq (sRaise "InvalidNumber") sNop) sNop) sNop)
theorem c_need_whole : cDef (tabOf fs_is_whole []) 60 100000 n_need_whole [] false (defScope (top 11)) (defBody (top 11)) = some b_need_whole := by kernel_rfl
def f_need_whole : List D → M D := bodF 3 b_need_whole
def fs_need_whole : List (Str × (Nat × (List D → M D))) := ("need_whole", (3, f_need_whole)) :: fs_is_whole
def n_is_tuple_of : List Str := ["value", "low", "high"]
def b_is_tuple_of : Sv := (sSeq (sRet (eAnd (eIsa "tuple" (eVar 0)) (eChain .LtE .LtE (eVar 1) (eBi lenB (aCons (eVar 0) aNil)) (eVar 2)))) sNop)
theorem c_is_tuple_of : cDef (tabOf fs_need_whole []) 60 100000 n_is_tuple_of [] false (defScope (top 12)) (defBody (top 12)) = some b_is_tuple_of := by kernel_rfl
def f_is_tuple_of : List D → M D := bodF 3 b_is_tuple_of
def fs_is_tuple_of : List (Str × (Nat × (List D → M D))) := ("is_tuple_of", (3, f_is_tuple_of)) :: fs_need_whole
def n_is_ascending : List Str := ["values", ".0", "one", "other"]
def b_is_ascending : Sv := (sSeq (sRet (eBi allB (aCons (eOfA (lcF [1, 2, 3] (.tp [2, 3]) (iZip (eVar 0) (eSl (eVar 0) (oSo (eCst (.int 1))) oNo)) tAll (eCmp .Lt (eVar 2) (eVar 3)))) aNil))) sNop)
theorem c_is_ascending : cDef (tabOf fs_is_tuple_of []) 60 100000 n_is_ascending [] false (defScope (top 13)) (defBody (top 13)) = some b_is_ascending := by kernel_rfl
def f_is_ascending : List D → M D := bodF 4 b_is_ascending
def fs_is_ascending : List (Str × (Nat × (List D → M D))) := ("is_ascending", (1, f_is_ascending)) :: fs_is_tuple_of
def n_is_set_below : List Str := ["value", "many", ".0", "one"]
def b_is_set_below : Sv := (sSeq (sIf (tOr' (tNo (tOf (eIsa "tuple" (eVar 0)))) (tNo (tOf (eBi allB (aCons (eOfA (lcF [2, 3] (.nm 3) (iVal (eVar 0)) tAll (eCall 3 f_is_whole (aCons (eVar 3) (aCons (eCst (.int 0)) (aCons (eBin .Sub (eVar 1) (eCst (.int 1))) aNil)))))) aNil))))) (sSeq (sRet (eCst (.bool false))) sNop) sNop) (sSeq (sRet (eCall 1 f_is_ascending (aCons (eVar 0) aNil))) sNop))
theorem c_is_set_below : cDef (tabOf fs_is_ascending []) 60 100000 n_is_set_below [] false (defScope (top 14)) (defBody (top 14)) = some b_is_set_below := by kernel_rfl
def f_is_set_below : List D → M D := bodF 4 b_is_set_below
def fs_is_set_below : List (Str × (Nat × (List D → M D))) := ("is_set_below", (2, f_is_set_below)) :: fs_is_ascending
def n_need_papers : List Str := ["value"]
def b_need_papers : Sv := (sSeq (sExp (eCall 3 f_need_whole (aCons (eVar 0) (aCons (eCst (.int 1)) (aCons (eCst (.int 10)) aNil))))) sNop)
theorem c_need_papers : cDef (tabOf fs_is_set_below []) 60 100000 n_need_papers [] false (defScope (top 15)) (defBody (top 15)) = some b_need_papers := by kernel_rfl
def f_need_papers : List D → M D := bodF 1 b_need_papers
def fs_need_papers : List (Str × (Nat × (List D → M D))) := ("need_papers", (1, f_need_papers)) :: fs_is_set_below
def n_is_within : List Str := ["lot", "other", ".0", "own"]
def b_is_within : Sv := (sSeq (sRet (eBi allB (aCons (eOfA (lcF [2, 3] (.nm 3) (iVal (eVar 0)) tAll (eCmp .In (eVar 3) (eVar 1)))) aNil))) sNop)
theorem c_is_within : cDef (tabOf fs_need_papers []) 60 100000 n_is_within [] false (defScope (top 17)) (defBody (top 17)) = some b_is_within := by kernel_rfl
def f_is_within : List D → M D := bodF 4 b_is_within
def fs_is_within : List (Str × (Nat × (List D → M D))) := ("is_within", (2, f_is_within)) :: fs_need_papers
def n_are_bars_in : List Str := ["papers", "value", ".0", "own", "one", "other"]
def b_are_bars_in : Sv := (sSeq (sIf (tOr' (tNo (tOf (eCall 3 f_is_tuple_of (aCons (eVar 1) (aCons (eCst (.int 0)) (aCons (eCst (.int 252)) aNil)))))) (tNo (tOf (eBi allB (aCons (eOfA (lcF [2, 3] (.nm 3) (iVal (eVar 1)) tAll (eAnd (eCall 2 f_is_set_below (aCons (eVar 3) (aCons (eVar 0) aNil))) (eCmp .NotEq (eVar 3) (eTup aNil))))) aNil))))) (sSeq (sRet (eCst (.bool false))) sNop) sNop) (sSeq (sIf (tNo (tOf (eCall 1 f_is_ascending (aCons (eVar 1) aNil)))) (sSeq (sRet (eCst (.bool false))) sNop) sNop) (sSeq (sRet (eNot (eBi anyB (aCons (eOfA (lc2F [2, 4, 5] (.nm 4) (iVal (eVar 1)) tAll [5] (iVal (eVar 1)) (.nm 5) tAll (eAnd (eCmp .NotEq (eVar 4) (eVar 5)) (eCall 2 f_is_within (aCons (eVar 4) (aCons (eVar 5) aNil)))))) aNil)))) sNop)))
theorem c_are_bars_in : cDef (tabOf fs_is_within []) 60 100000 n_are_bars_in [] false (defScope (top 18)) (defBody (top 18)) = some b_are_bars_in := by kernel_rfl
def f_are_bars_in : List D → M D := bodF 6 b_are_bars_in
def fs_are_bars_in : List (Str × (Nat × (List D → M D))) := ("are_bars_in", (2, f_are_bars_in)) :: fs_is_within
def n_is_free_in : List Str := ["bars", "lot", ".0", "bar"]
def b_is_free_in : Sv := (sSeq (sRet (eNot (eBi anyB (aCons (eOfA (lcF [2, 3] (.nm 3) (iVal (eVar 0)) tAll (eCall 2 f_is_within (aCons (eVar 3) (aCons (eVar 1) aNil))))) aNil)))) sNop)
theorem c_is_free_in : cDef (tabOf fs_are_bars_in []) 60 100000 n_is_free_in [] false (defScope (top 19)) (defBody (top 19)) = some b_is_free_in := by kernel_rfl
def f_is_free_in : List D → M D := bodF 4 b_is_free_in
def fs_is_free_in : List (Str × (Nat × (List D → M D))) := ("is_free_in", (2, f_is_free_in)) :: fs_are_bars_in
def n_need_bars : List Str := ["papers", "value"]
def b_need_bars : Sv := (sSeq (sExp (eCall 1 f_need_papers (aCons (eVar 0) aNil))) (sSeq (sIf (tNo (tOf (eCall 2 f_are_bars_in (aCons (eVar 0) (aCons (eVar 1) aNil))))) (sSeq (sRaise "InvalidBars") sNop) sNop) sNop))
theorem c_need_bars : cDef (tabOf fs_is_free_in []) 60 100000 n_need_bars [] false (defScope (top 20)) (defBody (top 20)) = some b_need_bars := by kernel_rfl
def f_need_bars : List D → M D := bodF 2 b_need_bars
def fs_need_bars : List (Str × (Nat × (List D → M D))) := ("need_bars", (2, f_need_bars)) :: fs_is_free_in
def n_without : List Str := ["lot", "paper", ".0", "own"]
def b_without : Sv := (sSeq (sRet (eBi tupleB (aCons (eOfA (lcF [2, 3] (.nm 3) (iVal (eVar 0)) (tCm (eCmp .NotEq (eVar 3) (eVar 1))) (eVar 3))) aNil))) sNop)
theorem c_without : cDef (tabOf fs_need_bars []) 60 100000 n_without [] false (defScope (top 22)) (defBody (top 22)) = some b_without := by kernel_rfl
def f_without : List D → M D := bodF 4 b_without
def fs_without : List (Str × (Nat × (List D → M D))) := ("without", (2, f_without)) :: fs_need_bars
def n_lighter_bar : List Str := ["bars", "one", "other", "bar"]
def b_lighter_bar : Sv := (sSeq (sFor (.nm 3) (iVal (eVar 0)) (sSeq (sIf (tAn (tCm (eCmp .In (eVar 2) (eVar 3))) (tAn (tCm (eCmp .NotIn (eVar 1) (eVar 3))) (tOf (eCall 2 f_is_free_in (aCons (eVar 0) (aCons (eBin .Add (eCall 2 f_without (aCons (eVar 3) (aCons (eVar 2) aNil))) (eTup (aCons (eVar 1) aNil))) aNil)))))) (sSeq (sRet (eVar 3)) sNop) sNop) sNop)) (sSeq (sRet (eCst .none)) sNop))
theorem c_lighter_bar : cDef (tabOf fs_without []) 60 100000 n_lighter_bar [] false (defScope (top 24)) (defBody (top 24)) = some b_lighter_bar := by kernel_rfl
def f_lighter_bar : List D → M D := bodF 4 b_lighter_bar
def fs_lighter_bar : List (Str × (Nat × (List D → M D))) := ("lighter_bar", (3, f_lighter_bar)) :: fs_without
def n_heavier_in : List Str := ["papers", "bars", "paper", ".0", "own"]
def b_heavier_in : Sv := (sSeq (sRet (eBi tupleB (aCons (eOfA (lcF [3, 4] (.nm 4) (iR1 (eVar 0)) (tCm (eCmp .Is (eCall 3 f_lighter_bar (aCons (eVar 1) (aCons (eVar 4) (aCons (eVar 2) aNil)))) (eCst .none))) (eVar 4))) aNil))) sNop)
theorem c_heavier_in : cDef (tabOf fs_lighter_bar []) 60 100000 n_heavier_in [] false (defScope (top 25)) (defBody (top 25)) = some b_heavier_in := by kernel_rfl
def f_heavier_in : List D → M D := bodF 5 b_heavier_in
def fs_heavier_in : List (Str × (Nat × (List D → M D))) := ("heavier_in", (3, f_heavier_in)) :: fs_lighter_bar
def n_unlike_pair : List Str := ["papers", "bars", "heavier", "one", "other", ".0", "own"]
def b_unlike_pair : Sv := (sSeq (sAsg (.nm 2) (eOfA (lcF [5, 6] (.nm 6) (iR1 (eVar 0)) tAll (eCall 3 f_heavier_in (aCons (eVar 0) (aCons (eVar 1) (aCons (eVar 6) aNil))))))) (sSeq (sFor (.nm 3) (iR1 (eVar 0)) (sSeq (sFor (.nm 4) (iR2 (eBin .Add (eVar 3) (eCst (.int 1))) (eVar 0)) (sSeq (sIf (tAn (tCm (eCmp .NotIn (eVar 4) (eIx (eVar 2) (eVar 3)))) (tCm (eCmp .NotIn (eVar 3) (eIx (eVar 2) (eVar 4))))) (sSeq (sRet (eTup (aCons (eVar 3) (aCons (eVar 4) aNil)))) sNop) sNop) sNop)) sNop)) (sSeq (sRet (eCst .none)) sNop)))
theorem c_unlike_pair : cDef (tabOf fs_heavier_in []) 60 100000 n_unlike_pair [] false (defScope (top 27)) (defBody (top 27)) = some b_unlike_pair := by kernel_rfl
def f_unlike_pair : List D → M D := bodF 7 b_unlike_pair
def fs_unlike_pair : List (Str × (Nat × (List D → M D))) := ("unlike_pair", (2, f_unlike_pair)) :: fs_heavier_in
def n_is_ladder : List Str := ["papers", "bars"]
def b_is_ladder : Sv := (sSeq (sExp (eCall 2 f_need_bars (aCons (eVar 0) (aCons (eVar 1) aNil)))) (sSeq (sRet (eCmp .Is (eCall 2 f_unlike_pair (aCons (eVar 0) (aCons (eVar 1) aNil))) (eCst .none))) sNop))
theorem c_is_ladder : cDef (tabOf fs_unlike_pair []) 60 100000 n_is_ladder [] false (defScope (top 28)) (defBody (top 28)) = some b_is_ladder := by kernel_rfl
def f_is_ladder : List D → M D := bodF 2 b_is_ladder
def fs_is_ladder : List (Str × (Nat × (List D → M D))) := ("is_ladder", (2, f_is_ladder)) :: fs_unlike_pair
def n_ladder_bar : List Str := ["papers", "bars"]
def b_ladder_bar : Sv := (sSeq (sExp (eCall 2 f_need_bars (aCons (eVar 0) (aCons (eVar 1) aNil)))) (sSeq (sRet (eCall 2 f_unlike_pair (aCons (eVar 0) (aCons (eVar 1) aNil)))) sNop))
theorem c_ladder_bar : cDef (tabOf fs_is_ladder []) 60 100000 n_ladder_bar [] false (defScope (top 29)) (defBody (top 29)) = some b_ladder_bar := by kernel_rfl
def f_ladder_bar : List D → M D := bodF 2 b_ladder_bar
def fs_ladder_bar : List (Str × (Nat × (List D → M D))) := ("ladder_bar", (2, f_ladder_bar)) :: fs_is_ladder
def n_ladder_steps : List Str := ["papers", "bars", "many", "found", "number", ".0", "own"]
def b_ladder_steps : Sv := (sSeq (sExp (eCall 2 f_need_bars (aCons (eVar 0) (aCons (eVar 1) aNil)))) (sSeq (sIf (tCm (eCmp .IsNot (eCall 2 f_unlike_pair (aCons (eVar 0) (aCons (eVar 1) aNil))) (eCst .none))) (sSeq (sRaise "NotFound") sNop) sNop) (sSeq (sAsg (.nm 2) (eOfA (lcF [5, 6] (.nm 6) (iR1 (eVar 0)) tAll (eBi lenB (aCons (eCall 3 f_heavier_in (aCons (eVar 0) (aCons (eVar 1) (aCons (eVar 6) aNil)))) aNil))))) (sSeq (sBox 3 (aLst aNil)) (sSeq (sFor (.nm 4) (iVal (eRev (eOfA (aSS (eVar 2))))) (sSeq (sApp 3 (eBi tupleB (aCons (eOfA (lcF [5, 6] (.nm 6) (iR1 (eVar 0)) (tCm (eCmp .Eq (eIx (eVar 2) (eVar 6)) (eVar 4))) (eVar 6))) aNil))) sNop)) (sSeq (sRet (eBi tupleB (aCons (eVar 3) aNil))) sNop))))))
theorem c_ladder_steps : cDef (tabOf fs_ladder_bar []) 60 100000 n_ladder_steps ["found"] false (defScope (top 30)) (defBody (top 30)) = some b_ladder_steps := by kernel_rfl
def f_ladder_steps : List D → M D := bodF 7 b_ladder_steps
def fs_ladder_steps : List (Str × (Nat × (List D → M D))) := ("ladder_steps", (2, f_ladder_steps)) :: fs_ladder_bar
def n__law_cup : List Str := ["script", "cell"]
def n__law_roll : List Str := ["cup", "many", "found"]
def fs__law_roll : List (Str × (Nat × (List D → M D))) := ("_law_roll", (2, rollF)) :: fs_ladder_steps
def n__law_sort : List Str := ["value"]
def b__law_sort : Sv := (sSeq (sIf (tOr' (tCm (eCmp .Is (eVar 0) (eCst .none))) (tOf (eIsa "bool" (eVar 0)))) (sSeq (sRet (eIte (tCm (eCmp .Is (eVar 0) (eCst .none))) (eCst (.int 0)) (eCst (.int 1)))) sNop) sNop) (sSeq (sIf (tOr' (tOf (eIsa "int" (eVar 0))) (tOf (eIsa "str" (eVar 0)))) (sSeq (sRet (eIte (tOf (eIsa "int" (eVar 0))) (eCst (.int 2)) (eCst (.int 3)))) sNop) sNop) (sSeq (sRet (eIte (tOf (eIsa "tuple" (eVar 0))) (eCst (.int 4)) (eIte (tOf (eIsa "list" (eVar 0))) (eCst (.int 5)) (eCst (.int 6))))) sNop)))
theorem c__law_sort : cDef (tabOf fs__law_roll []) 60 100000 n__law_sort [] false (defScope (top 34)) (defBody (top 34)) = some b__law_sort := by kernel_rfl
def f__law_sort : List D → M D := bodF 1 b__law_sort
def fs__law_sort : List (Str × (Nat × (List D → M D))) := ("_law_sort", (1, f__law_sort)) :: fs__law_roll
def n__law_like : List Str := ["one", "other", "sort", ".0", "first", "second"]
def b__law_like (F : List D → M D) : Sv := (sSeq (sAsg (.nm 2) (eCall 1 f__law_sort (aCons (eVar 1) aNil))) (sSeq (sIf (tOr' (tCm (eCmp .NotEq (eCall 1 f__law_sort (aCons (eVar 0) aNil)) (eVar 2))) (tCm (eCmp .Eq (eVar 2) (eCst (.int 6))))) (sSeq (sRet (eCst (.bool false))) sNop) sNop) (sSeq (sIf (tCm (eCmp .In (eVar 2) (eTup (aCons (eCst (.int 4)) (aCons (eCst (.int 5)) aNil))))) (sSeq (sRet (eAnd (eCmp .Eq (eBi lenB (aCons (eVar 0) aNil)) (eBi lenB (aCons (eVar 1) aNil))) (eCmp .Eq (eOfA (lcF [3, 4, 5] (.tp [4, 5]) (iZip (eVar 0) (eVar 1)) (tNo (tOf (eCall 2 F (aCons (eVar 4) (aCons (eVar 5) aNil))))) (eCst (.int 1)))) (eLst aNil)))) sNop) sNop) (sSeq (sRet (eCmp .Eq (eVar 0) (eVar 1))) sNop))))
theorem c__law_like (F : List D → M D) : cDef (tabOf (("_law_like", (2, F)) :: fs__law_sort) []) 60 100000 n__law_like [] false (defScope (top 35)) (defBody (top 35)) = some (b__law_like F) := by kernel_rfl
def g__law_like : Nat → List D → M D
  | 0 => fun _ => no
  | n + 1 => bodF 6 (b__law_like (g__law_like n))
def f__law_like : List D → M D := g__law_like 12
def fs__law_like : List (Str × (Nat × (List D → M D))) := ("_law_like", (2, f__law_like)) :: fs__law_sort
def n__law_error : List Str := ["call", "e", "some", ".0", "word", "is_so"]
def pairs : List (Str × Str) := [("number", "InvalidNumber"), ("bars", "InvalidBars"), ("lot", "InvalidLot"), ("row", "InvalidRow"), ("found", "NotFound")]
theorem c_lam : cLE cls "BarError" n__law_error (defScope (top 36)) (defBody (top 36)) = some (("none" : Str), pairs) := by kernel_rfl
def lamW : M D → M D := lamE isx cls "none" pairs
def n__law_lots : List Str := ["many", "found", "own", ".0", "lot"]
def b__law_lots : Sv := (sSeq (sAsg (.nm 1) (eLst (aCons (eTup aNil) aNil))) (sSeq (sFor (.nm 2) (iR1 (eVar 0)) (sSeq (sAsg (.nm 1) (eBin .Add (eVar 1) (eOfA (lcF [3, 4] (.nm 4) (iVal (eVar 1)) tAll (eBin .Add (eVar 4) (eTup (aCons (eVar 2) aNil))))))) sNop)) (sSeq (sRet (eBi sortedB (aCons (eVar 1) aNil))) sNop)))
theorem c__law_lots : cDef (tabOf fs__law_like [("_law_error", lamW)]) 60 100000 n__law_lots [] false (defScope (top 37)) (defBody (top 37)) = some b__law_lots := by kernel_rfl
def f__law_lots : List D → M D := bodF 5 b__law_lots
def fs__law_lots : List (Str × (Nat × (List D → M D))) := ("_law_lots", (1, f__law_lots)) :: fs__law_like
def n__law_in : List Str := ["lot", "other", ".0", "own"]
def b__law_in : Sv := (sSeq (sRet (eCmp .Eq (eOfA (lcF [2, 3] (.nm 3) (iVal (eVar 0)) (tCm (eCmp .NotIn (eVar 3) (eVar 1))) (eVar 3))) (eLst aNil))) sNop)
theorem c__law_in : cDef (tabOf fs__law_lots [("_law_error", lamW)]) 60 100000 n__law_in [] false (defScope (top 38)) (defBody (top 38)) = some b__law_in := by kernel_rfl
def f__law_in : List D → M D := bodF 4 b__law_in
def fs__law_in : List (Str × (Nat × (List D → M D))) := ("_law_in", (2, f__law_in)) :: fs__law_lots
def n__law_free : List Str := ["bars", "lot", ".0", "bar"]
def b__law_free : Sv := (sSeq (sRet (eCmp .Eq (eOfA (lcF [2, 3] (.nm 3) (iVal (eVar 0)) (tOf (eCall 2 f__law_in (aCons (eVar 3) (aCons (eVar 1) aNil)))) (eVar 3))) (eLst aNil))) sNop)
theorem c__law_free : cDef (tabOf fs__law_in [("_law_error", lamW)]) 60 100000 n__law_free [] false (defScope (top 39)) (defBody (top 39)) = some b__law_free := by kernel_rfl
def f__law_free : List D → M D := bodF 4 b__law_free
def fs__law_free : List (Str × (Nat × (List D → M D))) := ("_law_free", (2, f__law_free)) :: fs__law_in
def n__law_least : List Str := ["lots", ".0", "lot", "own"]
def b__law_least : Sv := (sSeq (sRet (eBi tupleB (aCons (eOfA (aSS (eOfA (lcF [1, 2] (.nm 2) (iVal (eVar 0)) (tCm (eCmp .Eq (eOfA (lcF [1, 3] (.nm 3) (iVal (eVar 0)) (tAn (tCm (eCmp .NotEq (eVar 3) (eVar 2))) (tOf (eCall 2 f__law_in (aCons (eVar 3) (aCons (eVar 2) aNil))))) (eVar 3))) (eLst aNil))) (eVar 2))))) aNil))) sNop)
theorem c__law_least : cDef (tabOf fs__law_free [("_law_error", lamW)]) 60 100000 n__law_least [] false (defScope (top 40)) (defBody (top 40)) = some b__law_least := by kernel_rfl
def f__law_least : List D → M D := bodF 4 b__law_least
def fs__law_least : List (Str × (Nat × (List D → M D))) := ("_law_least", (1, f__law_least)) :: fs__law_free
def n__law_bars : List Str := ["cup", "many", "lots", "part", "turn", "lot", ".0", "own"]
def b__law_bars : Sv := (sSeq (sAsg (.tp [2, 3]) (eTup (aCons (eLst aNil) (aCons (eBin .Add (eCst (.int 2)) (eCall 2 rollF (aCons (eVar 0) (aCons (eCst (.int 3)) aNil)))) aNil)))) (sSeq (sFor (.nm 4) (iR1 (eCall 2 rollF (aCons (eVar 0) (aCons (eCst (.int 7)) aNil)))) (sSeq (sAsg (.nm 5) (eBi tupleB (aCons (eOfA (lcF [6, 7] (.nm 7) (iR1 (eVar 1)) (tCm (eCmp .Eq (eCall 2 rollF (aCons (eVar 0) (aCons (eVar 3) aNil))) (eCst (.int 0)))) (eVar 7))) aNil))) (sSeq (sAsg (.nm 2) (eBin .Add (eVar 2) (eLst (aCons (eIte (tCm (eCmp .NotEq (eVar 5) (eTup aNil))) (eVar 5) (eTup (aCons (eCall 2 rollF (aCons (eVar 0) (aCons (eVar 1) aNil))) aNil))) aNil)))) sNop))) (sSeq (sRet (eCall 1 f__law_least (aCons (eVar 2) aNil))) sNop)))
theorem c__law_bars : cDef (tabOf fs__law_least [("_law_error", lamW)]) 60 100000 n__law_bars [] false (defScope (top 41)) (defBody (top 41)) = some b__law_bars := by kernel_rfl
def f__law_bars : List D → M D := bodF 8 b__law_bars
def fs__law_bars : List (Str × (Nat × (List D → M D))) := ("_law_bars", (2, f__law_bars)) :: fs__law_least
def n__law_families : List Str := ["many", "lots", "found", "lot", ".0", "own", "far"]
def b__law_families : Sv := (sSeq (sPar 1 2 (aCons (eSl (eCall 1 f__law_lots (aCons (eVar 0) aNil)) (oSo (eCst (.int 1))) oNo) (aCons (eLst (aCons (eTup aNil) aNil)) aNil))) (sSeq (sFor (.nm 3) (iVal (eVar 1)) (sSeq (sAsg (.nm 2) (eBin .Add (eVar 2) (eOfA (lcF [4, 5] (.nm 5) (iVal (eVar 2)) (tCm (eCmp .Eq (eOfA (lcF [4, 6] (.nm 6) (iVal (eVar 5)) (tOr' (tOf (eCall 2 f__law_in (aCons (eVar 6) (aCons (eVar 3) aNil)))) (tOf (eCall 2 f__law_in (aCons (eVar 3) (aCons (eVar 6) aNil))))) (eVar 6))) (eLst aNil))) (eBin .Add (eVar 5) (eTup (aCons (eVar 3) aNil))))))) sNop)) (sSeq (sRet (eBi sortedB (aCons (eVar 2) aNil))) sNop)))
theorem c__law_families : cDef (tabOf fs__law_bars [("_law_error", lamW)]) 60 100000 n__law_families [] false (defScope (top 42)) (defBody (top 42)) = some b__law_families := by kernel_rfl
def f__law_families : List D → M D := bodF 7 b__law_families
def fs__law_families : List (Str × (Nat × (List D → M D))) := ("_law_families", (1, f__law_families)) :: fs__law_bars
def n__law_weighed : List Str := ["weights", "goal", "lots", ".0", "lot", "own"]
def b__law_weighed : Sv := (sSeq (sAsg (.nm 2) (eOfA (lcF [3, 4] (.nm 4) (iVal (eSl (eCall 1 f__law_lots (aCons (eBi lenB (aCons (eVar 0) aNil)) aNil)) (oSo (eCst (.int 1))) oNo)) (tCm (eCmp .GtE (eBi sumB (aCons (eOfA (lcF [3, 5] (.nm 5) (iVal (eVar 4)) tAll (eIx (eVar 0) (eVar 5)))) aNil)) (eVar 1))) (eVar 4)))) (sSeq (sRet (eCall 1 f__law_least (aCons (eVar 2) aNil))) sNop))
theorem c__law_weighed : cDef (tabOf fs__law_families [("_law_error", lamW)]) 60 100000 n__law_weighed [] false (defScope (top 43)) (defBody (top 43)) = some b__law_weighed := by kernel_rfl
def f__law_weighed : List D → M D := bodF 6 b__law_weighed
def fs__law_weighed : List (Str × (Nat × (List D → M D))) := ("_law_weighed", (2, f__law_weighed)) :: fs__law_families
def n__law_outweighs : List Str := ["bars", "one", "other", "lots", ".0", "bar", "own", "lot"]
def b__law_outweighs : Sv := (sSeq (sAsg (.nm 3) (eOfA (lcF [4, 5] (.nm 5) (iVal (eVar 0)) (tAn (tCm (eCmp .In (eVar 2) (eVar 5))) (tCm (eCmp .NotIn (eVar 1) (eVar 5)))) (eBin .Add (eBi tupleB (aCons (eOfA (lcF [4, 6] (.nm 6) (iVal (eVar 5)) (tCm (eCmp .NotEq (eVar 6) (eVar 2))) (eVar 6))) aNil)) (eTup (aCons (eVar 1) aNil)))))) (sSeq (sRet (eCmp .Eq (eOfA (lcF [4, 7] (.nm 7) (iVal (eVar 3)) (tOf (eCall 2 f__law_free (aCons (eVar 0) (aCons (eVar 7) aNil)))) (eVar 7))) (eLst aNil))) sNop))
theorem c__law_outweighs : cDef (tabOf fs__law_weighed [("_law_error", lamW)]) 60 100000 n__law_outweighs [] false (defScope (top 44)) (defBody (top 44)) = some b__law_outweighs := by kernel_rfl
def f__law_outweighs : List D → M D := bodF 8 b__law_outweighs
def fs__law_outweighs : List (Str × (Nat × (List D → M D))) := ("_law_outweighs", (3, f__law_outweighs)) :: fs__law_weighed
def n__law_right : List Str := ["many", "bars", "one", "table", "apart", "steps", "lots", "wrong", ".0", "other", "own", "far", "at"]
def b__law_right : Sv := (sSeq (sAsg (.nm 3) (eOfA (lcF [8, 2] (.nm 2) (iR1 (eVar 0)) tAll (eOfA (lcF [8, 9] (.nm 9) (iR1 (eVar 0)) tAll (eCall 3 f__law_outweighs (aCons (eVar 1) (aCons (eVar 2) (aCons (eVar 9) aNil))))))))) (sSeq (sAsg (.nm 4) (eLst aNil)) (sSeq (sFor (.nm 2) (iR1 (eVar 0)) (sSeq (sAsg (.nm 4) (eBin .Add (eVar 4) (eOfA (lcF [8, 9] (.nm 9) (iR2 (eBin .Add (eVar 2) (eCst (.int 1))) (eVar 0)) (tAn (tNo (tOf (eIx (eIx (eVar 3) (eVar 2)) (eVar 9)))) (tNo (tOf (eIx (eIx (eVar 3) (eVar 9)) (eVar 2))))) (eTup (aCons (eVar 2) (aCons (eVar 9) aNil))))))) sNop)) (sSeq (sIf (tNo (tOf (eCall 2 f__law_like (aCons (eLst (aCons (eCall 2 f_is_ladder (aCons (eVar 0) (aCons (eVar 1) aNil))) (aCons (eCall 2 f_ladder_bar (aCons (eVar 0) (aCons (eVar 1) aNil))) aNil))) (aCons (eLst (aCons (eCmp .Eq (eVar 4) (eLst aNil)) (aCons (eIte (tCm (eCmp .NotEq (eVar 4) (eLst aNil))) (eIx (eVar 4) (eCst (.int 0))) (eCst .none)) aNil))) aNil))))) (sSeq (sRet (eCst (.bool false))) sNop) sNop) (sSeq (sIf (tCm (eCmp .NotEq (eVar 4) (eLst aNil))) (sSeq (sRet (eCmp .Eq (fun ρ => lamW ((eCall 2 f_ladder_steps (aCons (eVar 0) (aCons (eVar 1) aNil))) ρ)) (eCst (.str "found")))) sNop) sNop) (sSeq (sAsg (.nm 5) (eCall 2 f_ladder_steps (aCons (eVar 0) (aCons (eVar 1) aNil)))) (sSeq (sAsg (.nm 6) (eOfA (aSS (eOfA (lcF [8, 10] (.nm 10) (iR1 (eVar 0)) tAll (eBi tupleB (aCons (eOfA (lcF [8, 11] (.nm 11) (iR1 (eVar 0)) (tAn (tOf (eIx (eIx (eVar 3) (eVar 10)) (eVar 11))) (tOf (eIx (eIx (eVar 3) (eVar 11)) (eVar 10)))) (eVar 11))) aNil))))))) (sSeq (sIf (tOr' (tCm (eCmp .NotEq (eBi sortedB (aCons (eVar 5) aNil)) (eVar 6))) (tCm (eCmp .NotEq (eCall 1 f__law_sort (aCons (eVar 5) aNil)) (eCst (.int 4))))) (sSeq (sRet (eCst (.bool false))) sNop) sNop) (sSeq (sAsg (.nm 7) (eOfA (lcF [8, 12] (.nm 12) (iR1 (eBin .Sub (eBi lenB (aCons (eVar 5) aNil)) (eCst (.int 1)))) (tOr' (tNo (tOf (eIx (eIx (eVar 3) (eIx (eIx (eVar 5) (eBin .Add (eVar 12) (eCst (.int 1)))) (eCst (.int 0)))) (eIx (eIx (eVar 5) (eVar 12)) (eCst (.int 0)))))) (tOf (eIx (eIx (eVar 3) (eIx (eIx (eVar 5) (eVar 12)) (eCst (.int 0)))) (eIx (eIx (eVar 5) (eBin .Add (eVar 12) (eCst (.int 1)))) (eCst (.int 0)))))) (eVar 12)))) (sSeq (sRet (eCmp .Eq (eVar 7) (eLst aNil))) sNop))))))))))
theorem c__law_right : cDef (tabOf fs__law_outweighs [("_law_error", lamW)]) 60 100000 n__law_right [] true (defScope (top 45)) (defBody (top 45)) = some b__law_right := by kernel_rfl
def f__law_right : List D → M D := bodF 13 b__law_right
def fs__law_right : List (Str × (Nat × (List D → M D))) := ("_law_right", (2, f__law_right)) :: fs__law_outweighs
def n__law_beside : List Str := ["one", "other", "many", ".0", "bar", "own"]
def b__law_beside : Sv := (sSeq (sRet (eBi tupleB (aCons (eBi sortedB (aCons (eBin .Add (eBi listB (aCons (eVar 0) aNil)) (eOfA (lcF [3, 4] (.nm 4) (iVal (eVar 1)) tAll (eBi tupleB (aCons (eOfA (lcF [3, 5] (.nm 5) (iVal (eVar 4)) tAll (eBin .Add (eVar 5) (eVar 2)))) aNil))))) aNil)) aNil))) sNop)
theorem c__law_beside : cDef (tabOf fs__law_right [("_law_error", lamW)]) 60 100000 n__law_beside [] false (defScope (top 46)) (defBody (top 46)) = some b__law_beside := by kernel_rfl
def f__law_beside : List D → M D := bodF 6 b__law_beside
def fs__law_beside : List (Str × (Nat × (List D → M D))) := ("_law_beside", (3, f__law_beside)) :: fs__law_right
def n__law_errors_right : List Str := ["words"]
def b__law_errors_right : Sv := (sSeq (sAsg (.nm 0) (eLst (aCons (fun ρ => lamW ((eCall 2 f_is_ladder (aCons (eCst (.int 0)) (aCons (eTup aNil) aNil))) ρ)) aNil))) (sSeq (sAsg (.nm 0) (eBin .Add (eVar 0) (eLst (aCons (fun ρ => lamW ((eCall 2 f_is_ladder (aCons (eCst (.int 2)) (aCons (eTup (aCons (eTup (aCons (eCst (.int 0)) (aCons (eCst (.int 2)) aNil))) aNil)) aNil))) ρ)) aNil)))) (sSeq (sAsg (.nm 0) (eBin .Add (eVar 0) (eLst (aCons (fun ρ => lamW ((eCall 2 f_ladder_bar (aCons (eCst .none) (aCons (eTup aNil) aNil))) ρ)) aNil)))) (sSeq (sAsg (.nm 0) (eBin .Add (eVar 0) (eLst (aCons (fun ρ => lamW ((eCall 2 f_ladder_bar (aCons (eCst (.int 4)) (aCons (eLst (aCons (eTup (aCons (eCst (.int 0)) (aCons (eCst (.int 1)) aNil))) aNil)) aNil))) ρ)) aNil)))) (sSeq (sAsg (.nm 0) (eBin .Add (eVar 0) (eLst (aCons (fun ρ => lamW ((eCall 2 f_ladder_steps (aCons (eCst (.int 11)) (aCons (eTup aNil) aNil))) ρ)) aNil)))) (sSeq (sAsg (.nm 0) (eBin .Add (eVar 0) (eLst (aCons (fun ρ => lamW ((eCall 2 f_ladder_steps (aCons (eCst (.int 4)) (aCons (eTup (aCons (eTup (aCons (eCst (.int 1)) (aCons (eCst (.int 0)) aNil))) aNil)) aNil))) ρ)) aNil)))) (sSeq (sAsg (.nm 0) (eBin .Add (eVar 0) (eLst (aCons (fun ρ => lamW ((eCall 2 f_ladder_steps (aCons (eCst (.int 4)) (aCons (eTup (aCons (eTup (aCons (eCst (.int 0)) (aCons (eCst (.int 1)) aNil))) (aCons (eTup (aCons (eCst (.int 2)) (aCons (eCst (.int 3)) aNil))) aNil))) aNil))) ρ)) aNil)))) (sSeq (sRet (eCmp .Eq (eVar 0) (eBin .Add (eBin .Mult (eLst (aCons (eCst (.str "number")) (aCons (eCst (.str "bars")) aNil))) (eCst (.int 3))) (eLst (aCons (eCst (.str "found")) aNil))))) sNop))))))))
theorem c__law_errors_right : cDef (tabOf fs__law_beside [("_law_error", lamW)]) 60 100000 n__law_errors_right [] true (defScope (top 47)) (defBody (top 47)) = some b__law_errors_right := by kernel_rfl
def f__law_errors_right : List D → M D := bodF 1 b__law_errors_right
def fs__law_errors_right : List (Str × (Nat × (List D → M D))) := ("_law_errors_right", (0, f__law_errors_right)) :: fs__law_beside
def n_law : List Str := ["script", "chain", "alone", "pairs", "told", "cup", "many", "bars", "turn", "weights", "few", "more", ".0", "own"]
def b_pre : Sv := (sSeq (sAsg (.tp [1, 2, 3]) (eTup (aCons (eTup (aCons (eTup (aCons (eCst (.int 0)) (aCons (eCst (.int 1)) aNil))) (aCons (eTup (aCons (eCst (.int 1)) (aCons (eCst (.int 2)) aNil))) aNil))) (aCons (eTup (aCons (eTup (aCons (eCst (.int 0)) aNil)) (aCons (eTup (aCons (eCst (.int 1)) (aCons (eCst (.int 2)) aNil))) aNil))) (aCons (eTup (aCons (eTup (aCons (eCst (.int 0)) (aCons (eCst (.int 1)) aNil))) (aCons (eTup (aCons (eCst (.int 2)) (aCons (eCst (.int 3)) aNil))) aNil))) aNil))))) (sSeq (sAsg (.nm 4) (eLst (aCons (eCall 2 f_ladder_steps (aCons (eCst (.int 4)) (aCons (eVar 1) aNil))) (aCons (eCall 2 f_ladder_bar (aCons (eCst (.int 4)) (aCons (eVar 3) aNil))) (aCons (eCall 2 f_is_ladder (aCons (eCst (.int 4)) (aCons (eVar 3) aNil))) (aCons (eCall 2 f_ladder_steps (aCons (eCst (.int 3)) (aCons (eVar 2) aNil))) (aCons (eCall 2 f_ladder_steps (aCons (eCst (.int 2)) (aCons (eTup aNil) aNil))) (aCons (eCall 2 f_ladder_bar (aCons (eCst (.int 6)) (aCons (eTup (aCons (eTup (aCons (eCst (.int 0)) (aCons (eCst (.int 1)) (aCons (eCst (.int 2)) aNil)))) (aCons (eTup (aCons (eCst (.int 3)) (aCons (eCst (.int 4)) (aCons (eCst (.int 5)) aNil)))) aNil))) aNil))) aNil)))))))) (sSeq (sIf (tOr' (tNo (tOf (eCall 2 f__law_like (aCons (eVar 4) (aCons (eLst (aCons (eTup (aCons (eTup (aCons (eCst (.int 3)) aNil)) (aCons (eTup (aCons (eCst (.int 0)) (aCons (eCst (.int 2)) aNil))) (aCons (eTup (aCons (eCst (.int 1)) aNil)) aNil)))) (aCons (eTup (aCons (eCst (.int 0)) (aCons (eCst (.int 2)) aNil))) (aCons (eCst (.bool false)) (aCons (eTup (aCons (eTup (aCons (eCst (.int 1)) (aCons (eCst (.int 2)) aNil))) (aCons (eTup (aCons (eCst (.int 0)) aNil)) aNil))) (aCons (eTup (aCons (eTup (aCons (eCst (.int 0)) (aCons (eCst (.int 1)) aNil))) aNil)) (aCons (eTup (aCons (eCst (.int 0)) (aCons (eCst (.int 3)) aNil))) aNil))))))) aNil))))) (tNo (tOf (eCall 0 f__law_errors_right aNil)))) (sSeq (sRet (eCst (.bool false))) sNop) sNop) sNop)))
def b_post : Sv := (sSeq (sFor (.nm 6) (iVal (eTup (aCons (eCst (.int 1)) (aCons (eCst (.int 2)) (aCons (eCst (.int 3)) aNil))))) (sSeq (sIf (tCm (eCmp .NotEq (eOfA (lcF [12, 7] (.nm 7) (iVal (eCall 1 f__law_families (aCons (eVar 6) aNil))) (tNo (tOf (eCall 2 f__law_right (aCons (eVar 6) (aCons (eVar 7) aNil))))) (eVar 7))) (eLst aNil))) (sSeq (sRet (eCst (.bool false))) sNop) sNop) sNop)) (sSeq (sFor (.nm 8) (iR1 (eCst (.int 8))) (sSeq (sAsg (.nm 6) (eBin .Add (eCst (.int 2)) (eCall 2 rollF (aCons (eVar 5) (aCons (eCst (.int 6)) aNil))))) (sSeq (sAsg (.nm 9) (eOfA (lcF [12, 13] (.nm 13) (iR1 (eVar 6)) tAll (eCall 2 rollF (aCons (eVar 5) (aCons (eCst (.int 7)) aNil)))))) (sSeq (sAsg (.nm 7) (eCall 2 f__law_weighed (aCons (eVar 9) (aCons (eBin .Add (eCst (.int 1)) (eCall 2 rollF (aCons (eVar 5) (aCons (eBin .Add (eBi sumB (aCons (eVar 9) aNil)) (eCst (.int 2))) aNil)))) aNil)))) (sSeq (sIf (tOr' (tCm (eCmp .IsNot (eCall 2 f_is_ladder (aCons (eVar 6) (aCons (eVar 7) aNil))) (eCst (.bool true)))) (tOr' (tNo (tOf (eCall 2 f__law_right (aCons (eVar 6) (aCons (eVar 7) aNil))))) (tNo (tOf (eCall 2 f__law_right (aCons (eVar 6) (aCons (eCall 2 f__law_bars (aCons (eVar 5) (aCons (eVar 6) aNil))) aNil))))))) (sSeq (sRet (eCst (.bool false))) sNop) sNop) (sSeq (sPar 10 11 (aCons (eBin .Add (eCst (.int 2)) (eCall 2 rollF (aCons (eVar 5) (aCons (eCst (.int 3)) aNil)))) (aCons (eBin .Add (eCst (.int 2)) (eCall 2 rollF (aCons (eVar 5) (aCons (eCst (.int 3)) aNil)))) aNil))) (sSeq (sIf (tNo (tOf (eCall 2 f__law_right (aCons (eBin .Add (eVar 10) (eVar 11)) (aCons (eCall 3 f__law_beside (aCons (eCall 2 f__law_bars (aCons (eVar 5) (aCons (eVar 10) aNil))) (aCons (eCall 2 f__law_bars (aCons (eVar 5) (aCons (eVar 11) aNil))) (aCons (eVar 10) aNil)))) aNil))))) (sSeq (sRet (eCst (.bool false))) sNop) sNop) sNop))))))) (sSeq (sRet (eCst (.bool true))) sNop)))
theorem c_split : defBody (top 48) = (defBody (top 48)).take 3 ++ (defBody (top 48)).getD 3 (.Pass ⟨0, 0, 0, 0⟩) :: (defBody (top 48)).drop 4 := by kernel_rfl
theorem c_pre : cSs (tabOf fs__law_errors_right [("_law_error", lamW)]) (comp (tabOf fs__law_errors_right [("_law_error", lamW)]) 60) 100000 ⟨n_law, defScope (top 48), fun _ => true, [], false⟩ 60 ((defBody (top 48)).take 3) = some b_pre := by kernel_rfl
theorem c_post : cSs (tabOf fs__law_errors_right [("_law_error", lamW)]) (comp (tabOf fs__law_errors_right [("_law_error", lamW)]) 60) 100000 ⟨n_law, defScope (top 48), fun _ => true, [], false⟩ 60 ((defBody (top 48)).drop 4) = some b_post := by kernel_rfl
theorem c_cup : cCup ⟨n_law, defScope (top 48), fun _ => true, [], false⟩ ((defBody (top 48)).getD 3 (.Pass ⟨0, 0, 0, 0⟩)) = some (5, 0) := by kernel_rfl
def clsAll0 : List Str := ["BarError", "InvalidNumber", "InvalidLot", "InvalidBars", "InvalidRow", "NotFound"]
def clsAll : List Str := clsAll0
theorem cls_sub : ∀ x ∈ cls, x ∈ clsAll := by decide +kernel
theorem nodup_map_inj {α β : Type} {f : α → β} : ∀ {l : List α} {a b : α}, (l.map f).Nodup → a ∈ l → b ∈ l → f a = f b → a = b
  | [], _, _, _, h, _, _ => by cases h
  | x :: l, a, b, nd, ha, hb, e => by
    obtain ⟨n1, n2⟩ := List.nodup_cons.mp nd
    rcases List.mem_cons.mp ha with ea | ha2
    · rcases List.mem_cons.mp hb with eb | hb2
      · exact ea.trans eb.symm
      · exact absurd (List.mem_map.mpr ⟨b, hb2, by rw [← e, ea]⟩) n1
    · rcases List.mem_cons.mp hb with eb | hb2
      · exact absurd (List.mem_map.mpr ⟨a, ha2, by rw [e, eb]⟩) n1
      · exact nodup_map_inj n2 ha2 hb2 e
def lamQ (x : Str) : Str := (envOfC x ⟨.function, [], false, false, []⟩ 0 0 .none).qual ++ "<lambda>"
def TT (K : PySem.W.Frag) : List (Addr × Str) := tf.map fun p => ((He.cT K p).2, lamQ p.1)
abbrev FnP (K : PySem.W.Frag) (x : Str) (i : Nat) (fd : FuncData) : Prop := FunD K x x (defArgs (top i)) (defBody (top i)) (defScope (top i)) [] [] (He.fAd K (x, none)) fd
theorem fa_part {k n : Nat} {xs : List Str} {g : Str → He.Fa} (e : (fa.drop k).take n = xs.map g) {x : Str} (hx : x ∈ xs) : g x ∈ fa := List.mem_of_mem_drop (List.mem_of_mem_take (e ▸ List.mem_map_of_mem hx))
section
variable {mg : Str → Option Value} {P : Program} {w : World} {K : PySem.W.Frag} {base h : Heap}
theorem free_all (X : K.In h) (G : h.Ns mainGlobals mg) (c : He.SaysD fa fn K) : ∀ x ∈ freeN, mg x = none := fun x hx => He.free_ok X G (c.facts (fa_part (k := 40) (n := 18) (g := fun x => .free x) (by kernel_rfl) hx))
theorem cls_all (X : K.In h) (G : h.Ns mainGlobals mg) (c : He.SaysD fa fn K) : ∀ x ∈ cls, mg x = some (.ref (He.ga K x)) := fun x hx => He.glo_ok X G (c.facts (List.mem_of_mem_drop (i := 34) (List.mem_of_mem_take (i := 6) (show He.Fa.glo x ∈ (fa.drop 34).take 6 from (show (fa.drop 34).take 6 = clsAll.map (fun x => He.Fa.glo x) by kernel_rfl) ▸ List.mem_map_of_mem (cls_sub x hx)))))
theorem exc_all (X : K.In h) (G : h.Ns mainGlobals mg) (c : He.SaysD fa fn K) : ∀ x ∈ cls, ExcF mg K x := fun x hx => by
  obtain ⟨e1, e2, e3, e4⟩ := He.exc_ok (c.facts (fa_part (k := 60) (n := 6) (g := fun x => .exc x) (by kernel_rfl) hx))
  exact ⟨_, cls_all X G c x hx, e1, He.keep_ok (c.facts (fa_part (k := 66) (n := 6) (g := fun x => .keep x) (by kernel_rfl) hx)), e3, e4⟩
theorem nums_all (X : K.In h) (G : h.Ns mainGlobals mg) (c : He.SaysD fa fn K) : ∀ p ∈ numsN, ∃ t, mg p.1 = some (.int p.2 t) := fun p hp =>
  He.int_ok X G (c.facts (List.mem_of_mem_drop (i := 58) (List.mem_of_mem_take (i := 2) (show He.Fa.int p.1 p.2 ∈ (fa.drop 58).take 2 from (show (fa.drop 58).take 2 = numsN.map (fun p => He.Fa.int p.1 p.2) by kernel_rfl) ▸ List.mem_map_of_mem (f := fun p : Str × Int => He.Fa.int p.1 p.2) hp))))
theorem exok (X : K.In h) (G : h.Ns mainGlobals mg) (c : He.SaysD fa fn K) (more : excAll isx cls tf K = true) : ExOK mg K cls isx "BarError" := by
  unfold excAll at more
  simp only [Bool.and_eq_true, List.all_eq_true, decide_eq_true_eq] at more
  refine ⟨_, cls_all X G c "BarError" (by decide +kernel), fun e he => ⟨_, cls_all X G c e he, excCB_ok (more.1 e he).1, He.exm_ok (c.facts (fa_part (k := 72) (n := 6) (g := fun x => .exm x "BarError" true) (by kernel_rfl) he)), fun y hy => ⟨_, cls_all X G c y hy, (more.1 e he).2 y hy⟩⟩⟩
theorem tt_one (x : Str) (hx : ((x, none) : He.Defn) ∈ tf) (more : excAll isx cls tf K = true) (L fa : Addr) (cdv : Value) (sc : Scope) : ((He.cT K (x, none)).2, (envOfC x sc L fa cdv).qual ++ "<lambda>") ∈ TT K ∧ ∀ q ∈ TT K, q.1 = (He.cT K (x, none)).2 → q.2 = (envOfC x sc L fa cdv).qual ++ "<lambda>" := by
  unfold excAll at more
  simp only [Bool.and_eq_true, decide_eq_true_eq] at more
  refine ⟨List.mem_map.mpr ⟨(x, none), hx, rfl⟩, fun q hq e => ?_⟩
  obtain ⟨p, hp, rfl⟩ := List.mem_map.mp hq
  have ep : p = (x, none) := nodup_map_inj more.2 hp hx e
  rw [ep]
  rfl

theorem t_0 (X : K.In h) (G : h.Ns mainGlobals mg) (c : He.SaysD fa fn K) (more : excAll isx cls tf K = true) (TB : ∀ p ∈ tf, LamX.TabB base mg (He.cT K p).1 (He.cT K p).2) : TOK (tabOf fs_0 []) mg (TT K) 1 P w K base := tok_nil (free_all X G c) (nums_all X G c) (exc_all X G c) (fun x hx => free_all X G c x (by revert x; decide +kernel))
theorem h_is_whole (X : K.In h) (G : h.Ns mainGlobals mg) (c : He.SaysD fa fn K) (more : excAll isx cls tf K = true) (TB : ∀ p ∈ tf, LamX.TabB base mg (He.cT K p).1 (He.cT K p).2) : FnH mg (TT K) 2 P w K base "is_whole" 3 f_is_whole := by
  obtain ⟨fd, F⟩ := c.def_ 0 (d := dOf "is_whole" 10) rfl
  exact fn_by (j := 1) F (F.bindsN (ps := ["value", "low", "high"]) fun _ _ _ _ _ _ us hl => match us, hl with | [_, _, _], _ => rfl) (by kernel_rfl) c_is_whole (t_0 X G c more TB) (He.glo_ok X G (c.fact 0 (f := .glo "is_whole") rfl)) (by decide) (fun z => by cases z)
theorem t_is_whole (X : K.In h) (G : h.Ns mainGlobals mg) (c : He.SaysD fa fn K) (more : excAll isx cls tf K = true) (TB : ∀ p ∈ tf, LamX.TabB base mg (He.cT K p).1 (He.cT K p).2) : TOK (tabOf fs_is_whole []) mg (TT K) 2 P w K base := tok_cons (tok_mono (t_0 X G c more TB) (by decide)) (h_is_whole X G c more TB)
theorem h_need_whole (X : K.In h) (G : h.Ns mainGlobals mg) (c : He.SaysD fa fn K) (more : excAll isx cls tf K = true) (TB : ∀ p ∈ tf, LamX.TabB base mg (He.cT K p).1 (He.cT K p).2) : FnH mg (TT K) 3 P w K base "need_whole" 3 f_need_whole := by
  obtain ⟨fd, F⟩ := c.def_ 1 (d := dOf "need_whole" 11) rfl
  exact fn_by (j := 2) F (F.bindsN (ps := ["value", "low", "high"]) fun _ _ _ _ _ _ us hl => match us, hl with | [_, _, _], _ => rfl) (by kernel_rfl) c_need_whole (t_is_whole X G c more TB) (He.glo_ok X G (c.fact 1 (f := .glo "need_whole") rfl)) (by decide) (fun z => by cases z)
theorem t_need_whole (X : K.In h) (G : h.Ns mainGlobals mg) (c : He.SaysD fa fn K) (more : excAll isx cls tf K = true) (TB : ∀ p ∈ tf, LamX.TabB base mg (He.cT K p).1 (He.cT K p).2) : TOK (tabOf fs_need_whole []) mg (TT K) 3 P w K base := tok_cons (tok_mono (t_is_whole X G c more TB) (by decide)) (h_need_whole X G c more TB)
theorem h_is_tuple_of (X : K.In h) (G : h.Ns mainGlobals mg) (c : He.SaysD fa fn K) (more : excAll isx cls tf K = true) (TB : ∀ p ∈ tf, LamX.TabB base mg (He.cT K p).1 (He.cT K p).2) : FnH mg (TT K) 4 P w K base "is_tuple_of" 3 f_is_tuple_of := by
  obtain ⟨fd, F⟩ := c.def_ 2 (d := dOf "is_tuple_of" 12) rfl
  exact fn_by (j := 3) F (F.bindsN (ps := ["value", "low", "high"]) fun _ _ _ _ _ _ us hl => match us, hl with | [_, _, _], _ => rfl) (by kernel_rfl) c_is_tuple_of (t_need_whole X G c more TB) (He.glo_ok X G (c.fact 2 (f := .glo "is_tuple_of") rfl)) (by decide) (fun z => by cases z)
theorem t_is_tuple_of (X : K.In h) (G : h.Ns mainGlobals mg) (c : He.SaysD fa fn K) (more : excAll isx cls tf K = true) (TB : ∀ p ∈ tf, LamX.TabB base mg (He.cT K p).1 (He.cT K p).2) : TOK (tabOf fs_is_tuple_of []) mg (TT K) 4 P w K base := tok_cons (tok_mono (t_need_whole X G c more TB) (by decide)) (h_is_tuple_of X G c more TB)
theorem h_is_ascending (X : K.In h) (G : h.Ns mainGlobals mg) (c : He.SaysD fa fn K) (more : excAll isx cls tf K = true) (TB : ∀ p ∈ tf, LamX.TabB base mg (He.cT K p).1 (He.cT K p).2) : FnH mg (TT K) 5 P w K base "is_ascending" 1 f_is_ascending := by
  obtain ⟨fd, F⟩ := c.def_ 3 (d := dOf "is_ascending" 13) rfl
  exact fn_by (j := 4) F (F.bindsN (ps := ["values"]) fun _ _ _ _ _ _ us hl => match us, hl with | [_], _ => rfl) (by kernel_rfl) c_is_ascending (t_is_tuple_of X G c more TB) (He.glo_ok X G (c.fact 3 (f := .glo "is_ascending") rfl)) (by decide) (fun z => by cases z)
theorem t_is_ascending (X : K.In h) (G : h.Ns mainGlobals mg) (c : He.SaysD fa fn K) (more : excAll isx cls tf K = true) (TB : ∀ p ∈ tf, LamX.TabB base mg (He.cT K p).1 (He.cT K p).2) : TOK (tabOf fs_is_ascending []) mg (TT K) 5 P w K base := tok_cons (tok_mono (t_is_tuple_of X G c more TB) (by decide)) (h_is_ascending X G c more TB)
theorem h_is_set_below (X : K.In h) (G : h.Ns mainGlobals mg) (c : He.SaysD fa fn K) (more : excAll isx cls tf K = true) (TB : ∀ p ∈ tf, LamX.TabB base mg (He.cT K p).1 (He.cT K p).2) : FnH mg (TT K) 6 P w K base "is_set_below" 2 f_is_set_below := by
  obtain ⟨fd, F⟩ := c.def_ 4 (d := dOf "is_set_below" 14) rfl
  exact fn_by (j := 5) F (F.bindsN (ps := ["value", "many"]) fun _ _ _ _ _ _ us hl => match us, hl with | [_, _], _ => rfl) (by kernel_rfl) c_is_set_below (t_is_ascending X G c more TB) (He.glo_ok X G (c.fact 4 (f := .glo "is_set_below") rfl)) (by decide) (fun z => by cases z)
theorem t_is_set_below (X : K.In h) (G : h.Ns mainGlobals mg) (c : He.SaysD fa fn K) (more : excAll isx cls tf K = true) (TB : ∀ p ∈ tf, LamX.TabB base mg (He.cT K p).1 (He.cT K p).2) : TOK (tabOf fs_is_set_below []) mg (TT K) 6 P w K base := tok_cons (tok_mono (t_is_ascending X G c more TB) (by decide)) (h_is_set_below X G c more TB)
theorem h_need_papers (X : K.In h) (G : h.Ns mainGlobals mg) (c : He.SaysD fa fn K) (more : excAll isx cls tf K = true) (TB : ∀ p ∈ tf, LamX.TabB base mg (He.cT K p).1 (He.cT K p).2) : FnH mg (TT K) 7 P w K base "need_papers" 1 f_need_papers := by
  obtain ⟨fd, F⟩ := c.def_ 5 (d := dOf "need_papers" 15) rfl
  exact fn_by (j := 6) F (F.bindsN (ps := ["value"]) fun _ _ _ _ _ _ us hl => match us, hl with | [_], _ => rfl) (by kernel_rfl) c_need_papers (t_is_set_below X G c more TB) (He.glo_ok X G (c.fact 5 (f := .glo "need_papers") rfl)) (by decide) (fun z => by cases z)
theorem t_need_papers (X : K.In h) (G : h.Ns mainGlobals mg) (c : He.SaysD fa fn K) (more : excAll isx cls tf K = true) (TB : ∀ p ∈ tf, LamX.TabB base mg (He.cT K p).1 (He.cT K p).2) : TOK (tabOf fs_need_papers []) mg (TT K) 7 P w K base := tok_cons (tok_mono (t_is_set_below X G c more TB) (by decide)) (h_need_papers X G c more TB)
theorem h_is_within (X : K.In h) (G : h.Ns mainGlobals mg) (c : He.SaysD fa fn K) (more : excAll isx cls tf K = true) (TB : ∀ p ∈ tf, LamX.TabB base mg (He.cT K p).1 (He.cT K p).2) : FnH mg (TT K) 8 P w K base "is_within" 2 f_is_within := by
  obtain ⟨fd, F⟩ := c.def_ 6 (d := dOf "is_within" 17) rfl
  exact fn_by (j := 7) F (F.bindsN (ps := ["lot", "other"]) fun _ _ _ _ _ _ us hl => match us, hl with | [_, _], _ => rfl) (by kernel_rfl) c_is_within (t_need_papers X G c more TB) (He.glo_ok X G (c.fact 6 (f := .glo "is_within") rfl)) (by decide) (fun z => by cases z)
theorem t_is_within (X : K.In h) (G : h.Ns mainGlobals mg) (c : He.SaysD fa fn K) (more : excAll isx cls tf K = true) (TB : ∀ p ∈ tf, LamX.TabB base mg (He.cT K p).1 (He.cT K p).2) : TOK (tabOf fs_is_within []) mg (TT K) 8 P w K base := tok_cons (tok_mono (t_need_papers X G c more TB) (by decide)) (h_is_within X G c more TB)
theorem h_are_bars_in (X : K.In h) (G : h.Ns mainGlobals mg) (c : He.SaysD fa fn K) (more : excAll isx cls tf K = true) (TB : ∀ p ∈ tf, LamX.TabB base mg (He.cT K p).1 (He.cT K p).2) : FnH mg (TT K) 9 P w K base "are_bars_in" 2 f_are_bars_in := by
  obtain ⟨fd, F⟩ := c.def_ 7 (d := dOf "are_bars_in" 18) rfl
  exact fn_by (j := 8) F (F.bindsN (ps := ["papers", "value"]) fun _ _ _ _ _ _ us hl => match us, hl with | [_, _], _ => rfl) (by kernel_rfl) c_are_bars_in (t_is_within X G c more TB) (He.glo_ok X G (c.fact 7 (f := .glo "are_bars_in") rfl)) (by decide) (fun z => by cases z)
theorem t_are_bars_in (X : K.In h) (G : h.Ns mainGlobals mg) (c : He.SaysD fa fn K) (more : excAll isx cls tf K = true) (TB : ∀ p ∈ tf, LamX.TabB base mg (He.cT K p).1 (He.cT K p).2) : TOK (tabOf fs_are_bars_in []) mg (TT K) 9 P w K base := tok_cons (tok_mono (t_is_within X G c more TB) (by decide)) (h_are_bars_in X G c more TB)
theorem h_is_free_in (X : K.In h) (G : h.Ns mainGlobals mg) (c : He.SaysD fa fn K) (more : excAll isx cls tf K = true) (TB : ∀ p ∈ tf, LamX.TabB base mg (He.cT K p).1 (He.cT K p).2) : FnH mg (TT K) 10 P w K base "is_free_in" 2 f_is_free_in := by
  obtain ⟨fd, F⟩ := c.def_ 8 (d := dOf "is_free_in" 19) rfl
  exact fn_by (j := 9) F (F.bindsN (ps := ["bars", "lot"]) fun _ _ _ _ _ _ us hl => match us, hl with | [_, _], _ => rfl) (by kernel_rfl) c_is_free_in (t_are_bars_in X G c more TB) (He.glo_ok X G (c.fact 8 (f := .glo "is_free_in") rfl)) (by decide) (fun z => by cases z)
theorem t_is_free_in (X : K.In h) (G : h.Ns mainGlobals mg) (c : He.SaysD fa fn K) (more : excAll isx cls tf K = true) (TB : ∀ p ∈ tf, LamX.TabB base mg (He.cT K p).1 (He.cT K p).2) : TOK (tabOf fs_is_free_in []) mg (TT K) 10 P w K base := tok_cons (tok_mono (t_are_bars_in X G c more TB) (by decide)) (h_is_free_in X G c more TB)
theorem h_need_bars (X : K.In h) (G : h.Ns mainGlobals mg) (c : He.SaysD fa fn K) (more : excAll isx cls tf K = true) (TB : ∀ p ∈ tf, LamX.TabB base mg (He.cT K p).1 (He.cT K p).2) : FnH mg (TT K) 11 P w K base "need_bars" 2 f_need_bars := by
  obtain ⟨fd, F⟩ := c.def_ 9 (d := dOf "need_bars" 20) rfl
  exact fn_by (j := 10) F (F.bindsN (ps := ["papers", "value"]) fun _ _ _ _ _ _ us hl => match us, hl with | [_, _], _ => rfl) (by kernel_rfl) c_need_bars (t_is_free_in X G c more TB) (He.glo_ok X G (c.fact 9 (f := .glo "need_bars") rfl)) (by decide) (fun z => by cases z)
theorem t_need_bars (X : K.In h) (G : h.Ns mainGlobals mg) (c : He.SaysD fa fn K) (more : excAll isx cls tf K = true) (TB : ∀ p ∈ tf, LamX.TabB base mg (He.cT K p).1 (He.cT K p).2) : TOK (tabOf fs_need_bars []) mg (TT K) 11 P w K base := tok_cons (tok_mono (t_is_free_in X G c more TB) (by decide)) (h_need_bars X G c more TB)
theorem h_without (X : K.In h) (G : h.Ns mainGlobals mg) (c : He.SaysD fa fn K) (more : excAll isx cls tf K = true) (TB : ∀ p ∈ tf, LamX.TabB base mg (He.cT K p).1 (He.cT K p).2) : FnH mg (TT K) 12 P w K base "without" 2 f_without := by
  obtain ⟨fd, F⟩ := c.def_ 10 (d := dOf "without" 22) rfl
  exact fn_by (j := 11) F (F.bindsN (ps := ["lot", "paper"]) fun _ _ _ _ _ _ us hl => match us, hl with | [_, _], _ => rfl) (by kernel_rfl) c_without (t_need_bars X G c more TB) (He.glo_ok X G (c.fact 10 (f := .glo "without") rfl)) (by decide) (fun z => by cases z)
theorem t_without (X : K.In h) (G : h.Ns mainGlobals mg) (c : He.SaysD fa fn K) (more : excAll isx cls tf K = true) (TB : ∀ p ∈ tf, LamX.TabB base mg (He.cT K p).1 (He.cT K p).2) : TOK (tabOf fs_without []) mg (TT K) 12 P w K base := tok_cons (tok_mono (t_need_bars X G c more TB) (by decide)) (h_without X G c more TB)
theorem h_lighter_bar (X : K.In h) (G : h.Ns mainGlobals mg) (c : He.SaysD fa fn K) (more : excAll isx cls tf K = true) (TB : ∀ p ∈ tf, LamX.TabB base mg (He.cT K p).1 (He.cT K p).2) : FnH mg (TT K) 13 P w K base "lighter_bar" 3 f_lighter_bar := by
  obtain ⟨fd, F⟩ := c.def_ 11 (d := dOf "lighter_bar" 24) rfl
  exact fn_by (j := 12) F (F.bindsN (ps := ["bars", "one", "other"]) fun _ _ _ _ _ _ us hl => match us, hl with | [_, _, _], _ => rfl) (by kernel_rfl) c_lighter_bar (t_without X G c more TB) (He.glo_ok X G (c.fact 11 (f := .glo "lighter_bar") rfl)) (by decide) (fun z => by cases z)
theorem t_lighter_bar (X : K.In h) (G : h.Ns mainGlobals mg) (c : He.SaysD fa fn K) (more : excAll isx cls tf K = true) (TB : ∀ p ∈ tf, LamX.TabB base mg (He.cT K p).1 (He.cT K p).2) : TOK (tabOf fs_lighter_bar []) mg (TT K) 13 P w K base := tok_cons (tok_mono (t_without X G c more TB) (by decide)) (h_lighter_bar X G c more TB)
theorem h_heavier_in (X : K.In h) (G : h.Ns mainGlobals mg) (c : He.SaysD fa fn K) (more : excAll isx cls tf K = true) (TB : ∀ p ∈ tf, LamX.TabB base mg (He.cT K p).1 (He.cT K p).2) : FnH mg (TT K) 14 P w K base "heavier_in" 3 f_heavier_in := by
  obtain ⟨fd, F⟩ := c.def_ 12 (d := dOf "heavier_in" 25) rfl
  exact fn_by (j := 13) F (F.bindsN (ps := ["papers", "bars", "paper"]) fun _ _ _ _ _ _ us hl => match us, hl with | [_, _, _], _ => rfl) (by kernel_rfl) c_heavier_in (t_lighter_bar X G c more TB) (He.glo_ok X G (c.fact 12 (f := .glo "heavier_in") rfl)) (by decide) (fun z => by cases z)
theorem t_heavier_in (X : K.In h) (G : h.Ns mainGlobals mg) (c : He.SaysD fa fn K) (more : excAll isx cls tf K = true) (TB : ∀ p ∈ tf, LamX.TabB base mg (He.cT K p).1 (He.cT K p).2) : TOK (tabOf fs_heavier_in []) mg (TT K) 14 P w K base := tok_cons (tok_mono (t_lighter_bar X G c more TB) (by decide)) (h_heavier_in X G c more TB)
theorem h_unlike_pair (X : K.In h) (G : h.Ns mainGlobals mg) (c : He.SaysD fa fn K) (more : excAll isx cls tf K = true) (TB : ∀ p ∈ tf, LamX.TabB base mg (He.cT K p).1 (He.cT K p).2) : FnH mg (TT K) 15 P w K base "unlike_pair" 2 f_unlike_pair := by
  obtain ⟨fd, F⟩ := c.def_ 13 (d := dOf "unlike_pair" 27) rfl
  exact fn_by (j := 14) F (F.bindsN (ps := ["papers", "bars"]) fun _ _ _ _ _ _ us hl => match us, hl with | [_, _], _ => rfl) (by kernel_rfl) c_unlike_pair (t_heavier_in X G c more TB) (He.glo_ok X G (c.fact 13 (f := .glo "unlike_pair") rfl)) (by decide) (fun z => by cases z)
theorem t_unlike_pair (X : K.In h) (G : h.Ns mainGlobals mg) (c : He.SaysD fa fn K) (more : excAll isx cls tf K = true) (TB : ∀ p ∈ tf, LamX.TabB base mg (He.cT K p).1 (He.cT K p).2) : TOK (tabOf fs_unlike_pair []) mg (TT K) 15 P w K base := tok_cons (tok_mono (t_heavier_in X G c more TB) (by decide)) (h_unlike_pair X G c more TB)
theorem h_is_ladder (X : K.In h) (G : h.Ns mainGlobals mg) (c : He.SaysD fa fn K) (more : excAll isx cls tf K = true) (TB : ∀ p ∈ tf, LamX.TabB base mg (He.cT K p).1 (He.cT K p).2) : FnH mg (TT K) 16 P w K base "is_ladder" 2 f_is_ladder := by
  obtain ⟨fd, F⟩ := c.def_ 14 (d := dOf "is_ladder" 28) rfl
  exact fn_by (j := 15) F (F.bindsN (ps := ["papers", "bars"]) fun _ _ _ _ _ _ us hl => match us, hl with | [_, _], _ => rfl) (by kernel_rfl) c_is_ladder (t_unlike_pair X G c more TB) (He.glo_ok X G (c.fact 14 (f := .glo "is_ladder") rfl)) (by decide) (fun z => by cases z)
theorem t_is_ladder (X : K.In h) (G : h.Ns mainGlobals mg) (c : He.SaysD fa fn K) (more : excAll isx cls tf K = true) (TB : ∀ p ∈ tf, LamX.TabB base mg (He.cT K p).1 (He.cT K p).2) : TOK (tabOf fs_is_ladder []) mg (TT K) 16 P w K base := tok_cons (tok_mono (t_unlike_pair X G c more TB) (by decide)) (h_is_ladder X G c more TB)
theorem h_ladder_bar (X : K.In h) (G : h.Ns mainGlobals mg) (c : He.SaysD fa fn K) (more : excAll isx cls tf K = true) (TB : ∀ p ∈ tf, LamX.TabB base mg (He.cT K p).1 (He.cT K p).2) : FnH mg (TT K) 17 P w K base "ladder_bar" 2 f_ladder_bar := by
  obtain ⟨fd, F⟩ := c.def_ 15 (d := dOf "ladder_bar" 29) rfl
  exact fn_by (j := 16) F (F.bindsN (ps := ["papers", "bars"]) fun _ _ _ _ _ _ us hl => match us, hl with | [_, _], _ => rfl) (by kernel_rfl) c_ladder_bar (t_is_ladder X G c more TB) (He.glo_ok X G (c.fact 15 (f := .glo "ladder_bar") rfl)) (by decide) (fun z => by cases z)
theorem t_ladder_bar (X : K.In h) (G : h.Ns mainGlobals mg) (c : He.SaysD fa fn K) (more : excAll isx cls tf K = true) (TB : ∀ p ∈ tf, LamX.TabB base mg (He.cT K p).1 (He.cT K p).2) : TOK (tabOf fs_ladder_bar []) mg (TT K) 17 P w K base := tok_cons (tok_mono (t_is_ladder X G c more TB) (by decide)) (h_ladder_bar X G c more TB)
theorem h_ladder_steps (X : K.In h) (G : h.Ns mainGlobals mg) (c : He.SaysD fa fn K) (more : excAll isx cls tf K = true) (TB : ∀ p ∈ tf, LamX.TabB base mg (He.cT K p).1 (He.cT K p).2) : FnH mg (TT K) 18 P w K base "ladder_steps" 2 f_ladder_steps := by
  obtain ⟨fd, F⟩ := c.def_ 16 (d := dOf "ladder_steps" 30) rfl
  exact fn_by (j := 17) F (F.bindsN (ps := ["papers", "bars"]) fun _ _ _ _ _ _ us hl => match us, hl with | [_, _], _ => rfl) (by kernel_rfl) c_ladder_steps (t_ladder_bar X G c more TB) (He.glo_ok X G (c.fact 16 (f := .glo "ladder_steps") rfl)) (by decide) (fun z => by cases z)
theorem t_ladder_steps (X : K.In h) (G : h.Ns mainGlobals mg) (c : He.SaysD fa fn K) (more : excAll isx cls tf K = true) (TB : ∀ p ∈ tf, LamX.TabB base mg (He.cT K p).1 (He.cT K p).2) : TOK (tabOf fs_ladder_steps []) mg (TT K) 18 P w K base := tok_cons (tok_mono (t_ladder_bar X G c more TB) (by decide)) (h_ladder_steps X G c more TB)
theorem h__law_roll (X : K.In h) (G : h.Ns mainGlobals mg) (c : He.SaysD fa fn K) (more : excAll isx cls tf K = true) (TB : ∀ p ∈ tf, LamX.TabB base mg (He.cT K p).1 (He.cT K p).2) : FnH mg (TT K) 1 P w K base "_law_roll" 2 rollF := by
  obtain ⟨fd, F⟩ := c.def_ 18 (d := dOf "_law_roll" 33) rfl
  exact roll_by F (F.bindsN (ps := ["cup", "many"]) fun _ _ _ _ _ _ us hl => match us, hl with | [_, _], _ => rfl) (by kernel_rfl) (by kernel_rfl) (by kernel_rfl) (free_all X G c _ (by decide +kernel)) (by kernel_rfl) (He.glo_ok X G (c.fact 18 (f := .glo "_law_roll") rfl))
theorem t__law_roll (X : K.In h) (G : h.Ns mainGlobals mg) (c : He.SaysD fa fn K) (more : excAll isx cls tf K = true) (TB : ∀ p ∈ tf, LamX.TabB base mg (He.cT K p).1 (He.cT K p).2) : TOK (tabOf fs__law_roll []) mg (TT K) 18 P w K base := tok_cons (t_ladder_steps X G c more TB) ((h__law_roll X G c more TB).mono (by decide))
theorem h__law_sort (X : K.In h) (G : h.Ns mainGlobals mg) (c : He.SaysD fa fn K) (more : excAll isx cls tf K = true) (TB : ∀ p ∈ tf, LamX.TabB base mg (He.cT K p).1 (He.cT K p).2) : FnH mg (TT K) 19 P w K base "_law_sort" 1 f__law_sort := by
  obtain ⟨fd, F⟩ := c.def_ 19 (d := dOf "_law_sort" 34) rfl
  exact fn_by (j := 18) F (F.bindsN (ps := ["value"]) fun _ _ _ _ _ _ us hl => match us, hl with | [_], _ => rfl) (by kernel_rfl) c__law_sort (t__law_roll X G c more TB) (He.glo_ok X G (c.fact 19 (f := .glo "_law_sort") rfl)) (by decide) (fun z => by cases z)
theorem t__law_sort (X : K.In h) (G : h.Ns mainGlobals mg) (c : He.SaysD fa fn K) (more : excAll isx cls tf K = true) (TB : ∀ p ∈ tf, LamX.TabB base mg (He.cT K p).1 (He.cT K p).2) : TOK (tabOf fs__law_sort []) mg (TT K) 19 P w K base := tok_cons (tok_mono (t__law_roll X G c more TB) (by decide)) (h__law_sort X G c more TB)
theorem h__law_like (X : K.In h) (G : h.Ns mainGlobals mg) (c : He.SaysD fa fn K) (more : excAll isx cls tf K = true) (TB : ∀ p ∈ tf, LamX.TabB base mg (He.cT K p).1 (He.cT K p).2) : ∀ n : Nat, FnH mg (TT K) (19 + n) P w K base "_law_like" 2 (g__law_like n)
  | 0 => by
    obtain ⟨fd, F⟩ := c.def_ 20 (d := dOf "_law_like" 35) rfl
    exact fn_no (He.glo_ok X G (c.fact 20 (f := .glo "_law_like") rfl)) F.kp (F.bindsN (ps := ["one", "other"]) fun _ _ _ _ _ _ us hl => match us, hl with | [_, _], _ => rfl) rfl
  | n + 1 => by
    obtain ⟨fd, F⟩ := c.def_ 20 (d := dOf "_law_like" 35) rfl
    exact fn_by F (F.bindsN (ps := ["one", "other"]) fun _ _ _ _ _ _ us hl => match us, hl with | [_, _], _ => rfl) (by kernel_rfl) (c__law_like (g__law_like n)) (tok_cons (tok_mono (t__law_sort X G c more TB) (Nat.le_add_right _ _)) (h__law_like X G c more TB n)) (He.glo_ok X G (c.fact 20 (f := .glo "_law_like") rfl)) (Nat.le_refl _) (fun z => by cases z)
theorem t__law_like (X : K.In h) (G : h.Ns mainGlobals mg) (c : He.SaysD fa fn K) (more : excAll isx cls tf K = true) (TB : ∀ p ∈ tf, LamX.TabB base mg (He.cT K p).1 (He.cT K p).2) : TOK (tabOf fs__law_like []) mg (TT K) 31 P w K base := tok_cons (tok_mono (t__law_sort X G c more TB) (by decide)) (h__law_like X G c more TB 12)
theorem h__law_error (X : K.In h) (G : h.Ns mainGlobals mg) (c : He.SaysD fa fn K) (more : excAll isx cls tf K = true) (TB : ∀ p ∈ tf, LamX.TabB base mg (He.cT K p).1 (He.cT K p).2) (j : Nat) : LamF mg (TT K) j P w K base "_law_error" lamW := by
  obtain ⟨fd, F⟩ := c.def_ 21 (d := dOf "_law_error" 36) rfl
  exact lamF_by F (F.bindsN (ps := ["call"]) fun _ _ _ _ _ _ us hl => match us, hl with | [_], _ => rfl) (by kernel_rfl) c_lam (He.glo_ok X G (c.fact 21 (f := .glo "_law_error") rfl)) (free_all X G c _ (by decide +kernel)) (by decide) (exok X G c more)
theorem t__law_error (X : K.In h) (G : h.Ns mainGlobals mg) (c : He.SaysD fa fn K) (more : excAll isx cls tf K = true) (TB : ∀ p ∈ tf, LamX.TabB base mg (He.cT K p).1 (He.cT K p).2) : TOK (tabOf fs__law_like [("_law_error", lamW)]) mg (TT K) 31 P w K base := tok_lam (t__law_like X G c more TB) (h__law_error X G c more TB)
theorem h__law_lots (X : K.In h) (G : h.Ns mainGlobals mg) (c : He.SaysD fa fn K) (more : excAll isx cls tf K = true) (TB : ∀ p ∈ tf, LamX.TabB base mg (He.cT K p).1 (He.cT K p).2) : FnH mg (TT K) 32 P w K base "_law_lots" 1 f__law_lots := by
  obtain ⟨fd, F⟩ := c.def_ 22 (d := dOf "_law_lots" 37) rfl
  exact fn_by (j := 31) F (F.bindsN (ps := ["many"]) fun _ _ _ _ _ _ us hl => match us, hl with | [_], _ => rfl) (by kernel_rfl) c__law_lots (t__law_error X G c more TB) (He.glo_ok X G (c.fact 22 (f := .glo "_law_lots") rfl)) (by decide) (fun z => by cases z)
theorem t__law_lots (X : K.In h) (G : h.Ns mainGlobals mg) (c : He.SaysD fa fn K) (more : excAll isx cls tf K = true) (TB : ∀ p ∈ tf, LamX.TabB base mg (He.cT K p).1 (He.cT K p).2) : TOK (tabOf fs__law_lots [("_law_error", lamW)]) mg (TT K) 32 P w K base := tok_cons (tok_mono (t__law_error X G c more TB) (by decide)) (h__law_lots X G c more TB)
theorem h__law_in (X : K.In h) (G : h.Ns mainGlobals mg) (c : He.SaysD fa fn K) (more : excAll isx cls tf K = true) (TB : ∀ p ∈ tf, LamX.TabB base mg (He.cT K p).1 (He.cT K p).2) : FnH mg (TT K) 33 P w K base "_law_in" 2 f__law_in := by
  obtain ⟨fd, F⟩ := c.def_ 23 (d := dOf "_law_in" 38) rfl
  exact fn_by (j := 32) F (F.bindsN (ps := ["lot", "other"]) fun _ _ _ _ _ _ us hl => match us, hl with | [_, _], _ => rfl) (by kernel_rfl) c__law_in (t__law_lots X G c more TB) (He.glo_ok X G (c.fact 23 (f := .glo "_law_in") rfl)) (by decide) (fun z => by cases z)
theorem t__law_in (X : K.In h) (G : h.Ns mainGlobals mg) (c : He.SaysD fa fn K) (more : excAll isx cls tf K = true) (TB : ∀ p ∈ tf, LamX.TabB base mg (He.cT K p).1 (He.cT K p).2) : TOK (tabOf fs__law_in [("_law_error", lamW)]) mg (TT K) 33 P w K base := tok_cons (tok_mono (t__law_lots X G c more TB) (by decide)) (h__law_in X G c more TB)
theorem h__law_free (X : K.In h) (G : h.Ns mainGlobals mg) (c : He.SaysD fa fn K) (more : excAll isx cls tf K = true) (TB : ∀ p ∈ tf, LamX.TabB base mg (He.cT K p).1 (He.cT K p).2) : FnH mg (TT K) 34 P w K base "_law_free" 2 f__law_free := by
  obtain ⟨fd, F⟩ := c.def_ 24 (d := dOf "_law_free" 39) rfl
  exact fn_by (j := 33) F (F.bindsN (ps := ["bars", "lot"]) fun _ _ _ _ _ _ us hl => match us, hl with | [_, _], _ => rfl) (by kernel_rfl) c__law_free (t__law_in X G c more TB) (He.glo_ok X G (c.fact 24 (f := .glo "_law_free") rfl)) (by decide) (fun z => by cases z)
theorem t__law_free (X : K.In h) (G : h.Ns mainGlobals mg) (c : He.SaysD fa fn K) (more : excAll isx cls tf K = true) (TB : ∀ p ∈ tf, LamX.TabB base mg (He.cT K p).1 (He.cT K p).2) : TOK (tabOf fs__law_free [("_law_error", lamW)]) mg (TT K) 34 P w K base := tok_cons (tok_mono (t__law_in X G c more TB) (by decide)) (h__law_free X G c more TB)
theorem h__law_least (X : K.In h) (G : h.Ns mainGlobals mg) (c : He.SaysD fa fn K) (more : excAll isx cls tf K = true) (TB : ∀ p ∈ tf, LamX.TabB base mg (He.cT K p).1 (He.cT K p).2) : FnH mg (TT K) 35 P w K base "_law_least" 1 f__law_least := by
  obtain ⟨fd, F⟩ := c.def_ 25 (d := dOf "_law_least" 40) rfl
  exact fn_by (j := 34) F (F.bindsN (ps := ["lots"]) fun _ _ _ _ _ _ us hl => match us, hl with | [_], _ => rfl) (by kernel_rfl) c__law_least (t__law_free X G c more TB) (He.glo_ok X G (c.fact 25 (f := .glo "_law_least") rfl)) (by decide) (fun z => by cases z)
theorem t__law_least (X : K.In h) (G : h.Ns mainGlobals mg) (c : He.SaysD fa fn K) (more : excAll isx cls tf K = true) (TB : ∀ p ∈ tf, LamX.TabB base mg (He.cT K p).1 (He.cT K p).2) : TOK (tabOf fs__law_least [("_law_error", lamW)]) mg (TT K) 35 P w K base := tok_cons (tok_mono (t__law_free X G c more TB) (by decide)) (h__law_least X G c more TB)
theorem h__law_bars (X : K.In h) (G : h.Ns mainGlobals mg) (c : He.SaysD fa fn K) (more : excAll isx cls tf K = true) (TB : ∀ p ∈ tf, LamX.TabB base mg (He.cT K p).1 (He.cT K p).2) : FnH mg (TT K) 36 P w K base "_law_bars" 2 f__law_bars := by
  obtain ⟨fd, F⟩ := c.def_ 26 (d := dOf "_law_bars" 41) rfl
  exact fn_by (j := 35) F (F.bindsN (ps := ["cup", "many"]) fun _ _ _ _ _ _ us hl => match us, hl with | [_, _], _ => rfl) (by kernel_rfl) c__law_bars (t__law_least X G c more TB) (He.glo_ok X G (c.fact 26 (f := .glo "_law_bars") rfl)) (by decide) (fun z => by cases z)
theorem t__law_bars (X : K.In h) (G : h.Ns mainGlobals mg) (c : He.SaysD fa fn K) (more : excAll isx cls tf K = true) (TB : ∀ p ∈ tf, LamX.TabB base mg (He.cT K p).1 (He.cT K p).2) : TOK (tabOf fs__law_bars [("_law_error", lamW)]) mg (TT K) 36 P w K base := tok_cons (tok_mono (t__law_least X G c more TB) (by decide)) (h__law_bars X G c more TB)
theorem h__law_families (X : K.In h) (G : h.Ns mainGlobals mg) (c : He.SaysD fa fn K) (more : excAll isx cls tf K = true) (TB : ∀ p ∈ tf, LamX.TabB base mg (He.cT K p).1 (He.cT K p).2) : FnH mg (TT K) 37 P w K base "_law_families" 1 f__law_families := by
  obtain ⟨fd, F⟩ := c.def_ 27 (d := dOf "_law_families" 42) rfl
  exact fn_by (j := 36) F (F.bindsN (ps := ["many"]) fun _ _ _ _ _ _ us hl => match us, hl with | [_], _ => rfl) (by kernel_rfl) c__law_families (t__law_bars X G c more TB) (He.glo_ok X G (c.fact 27 (f := .glo "_law_families") rfl)) (by decide) (fun z => by cases z)
theorem t__law_families (X : K.In h) (G : h.Ns mainGlobals mg) (c : He.SaysD fa fn K) (more : excAll isx cls tf K = true) (TB : ∀ p ∈ tf, LamX.TabB base mg (He.cT K p).1 (He.cT K p).2) : TOK (tabOf fs__law_families [("_law_error", lamW)]) mg (TT K) 37 P w K base := tok_cons (tok_mono (t__law_bars X G c more TB) (by decide)) (h__law_families X G c more TB)
theorem h__law_weighed (X : K.In h) (G : h.Ns mainGlobals mg) (c : He.SaysD fa fn K) (more : excAll isx cls tf K = true) (TB : ∀ p ∈ tf, LamX.TabB base mg (He.cT K p).1 (He.cT K p).2) : FnH mg (TT K) 38 P w K base "_law_weighed" 2 f__law_weighed := by
  obtain ⟨fd, F⟩ := c.def_ 28 (d := dOf "_law_weighed" 43) rfl
  exact fn_by (j := 37) F (F.bindsN (ps := ["weights", "goal"]) fun _ _ _ _ _ _ us hl => match us, hl with | [_, _], _ => rfl) (by kernel_rfl) c__law_weighed (t__law_families X G c more TB) (He.glo_ok X G (c.fact 28 (f := .glo "_law_weighed") rfl)) (by decide) (fun z => by cases z)
theorem t__law_weighed (X : K.In h) (G : h.Ns mainGlobals mg) (c : He.SaysD fa fn K) (more : excAll isx cls tf K = true) (TB : ∀ p ∈ tf, LamX.TabB base mg (He.cT K p).1 (He.cT K p).2) : TOK (tabOf fs__law_weighed [("_law_error", lamW)]) mg (TT K) 38 P w K base := tok_cons (tok_mono (t__law_families X G c more TB) (by decide)) (h__law_weighed X G c more TB)
theorem h__law_outweighs (X : K.In h) (G : h.Ns mainGlobals mg) (c : He.SaysD fa fn K) (more : excAll isx cls tf K = true) (TB : ∀ p ∈ tf, LamX.TabB base mg (He.cT K p).1 (He.cT K p).2) : FnH mg (TT K) 39 P w K base "_law_outweighs" 3 f__law_outweighs := by
  obtain ⟨fd, F⟩ := c.def_ 29 (d := dOf "_law_outweighs" 44) rfl
  exact fn_by (j := 38) F (F.bindsN (ps := ["bars", "one", "other"]) fun _ _ _ _ _ _ us hl => match us, hl with | [_, _, _], _ => rfl) (by kernel_rfl) c__law_outweighs (t__law_weighed X G c more TB) (He.glo_ok X G (c.fact 29 (f := .glo "_law_outweighs") rfl)) (by decide) (fun z => by cases z)
theorem t__law_outweighs (X : K.In h) (G : h.Ns mainGlobals mg) (c : He.SaysD fa fn K) (more : excAll isx cls tf K = true) (TB : ∀ p ∈ tf, LamX.TabB base mg (He.cT K p).1 (He.cT K p).2) : TOK (tabOf fs__law_outweighs [("_law_error", lamW)]) mg (TT K) 39 P w K base := tok_cons (tok_mono (t__law_weighed X G c more TB) (by decide)) (h__law_outweighs X G c more TB)
theorem h__law_right (X : K.In h) (G : h.Ns mainGlobals mg) (c : He.SaysD fa fn K) (more : excAll isx cls tf K = true) (TB : ∀ p ∈ tf, LamX.TabB base mg (He.cT K p).1 (He.cT K p).2) : FnH mg (TT K) 42 P w K base "_law_right" 2 f__law_right := by
  obtain ⟨fd, F⟩ := c.def_ 30 (d := dOf "_law_right" 45) rfl
  exact fn_by (j := 41) F (F.bindsN (ps := ["many", "bars"]) fun _ _ _ _ _ _ us hl => match us, hl with | [_, _], _ => rfl) (by kernel_rfl) c__law_right (t__law_outweighs X G c more TB) (He.glo_ok X G (c.fact 30 (f := .glo "_law_right") rfl)) (by decide) (fun _ => ⟨by decide, _, _, code_ref F, TB ("_law_right", none) (by decide +kernel), fun L fa cdv => tt_one "_law_right" (by decide +kernel) more L fa cdv _⟩)
theorem t__law_right (X : K.In h) (G : h.Ns mainGlobals mg) (c : He.SaysD fa fn K) (more : excAll isx cls tf K = true) (TB : ∀ p ∈ tf, LamX.TabB base mg (He.cT K p).1 (He.cT K p).2) : TOK (tabOf fs__law_right [("_law_error", lamW)]) mg (TT K) 42 P w K base := tok_cons (tok_mono (t__law_outweighs X G c more TB) (by decide)) (h__law_right X G c more TB)
theorem h__law_beside (X : K.In h) (G : h.Ns mainGlobals mg) (c : He.SaysD fa fn K) (more : excAll isx cls tf K = true) (TB : ∀ p ∈ tf, LamX.TabB base mg (He.cT K p).1 (He.cT K p).2) : FnH mg (TT K) 43 P w K base "_law_beside" 3 f__law_beside := by
  obtain ⟨fd, F⟩ := c.def_ 31 (d := dOf "_law_beside" 46) rfl
  exact fn_by (j := 42) F (F.bindsN (ps := ["one", "other", "many"]) fun _ _ _ _ _ _ us hl => match us, hl with | [_, _, _], _ => rfl) (by kernel_rfl) c__law_beside (t__law_right X G c more TB) (He.glo_ok X G (c.fact 31 (f := .glo "_law_beside") rfl)) (by decide) (fun z => by cases z)
theorem t__law_beside (X : K.In h) (G : h.Ns mainGlobals mg) (c : He.SaysD fa fn K) (more : excAll isx cls tf K = true) (TB : ∀ p ∈ tf, LamX.TabB base mg (He.cT K p).1 (He.cT K p).2) : TOK (tabOf fs__law_beside [("_law_error", lamW)]) mg (TT K) 43 P w K base := tok_cons (tok_mono (t__law_right X G c more TB) (by decide)) (h__law_beside X G c more TB)
theorem h__law_errors_right (X : K.In h) (G : h.Ns mainGlobals mg) (c : He.SaysD fa fn K) (more : excAll isx cls tf K = true) (TB : ∀ p ∈ tf, LamX.TabB base mg (He.cT K p).1 (He.cT K p).2) : FnH mg (TT K) 46 P w K base "_law_errors_right" 0 f__law_errors_right := by
  obtain ⟨fd, F⟩ := c.def_ 32 (d := dOf "_law_errors_right" 47) rfl
  exact fn_by (j := 45) F (F.bindsN (ps := []) fun _ _ _ _ _ _ us hl => match us, hl with | [], _ => rfl) (by kernel_rfl) c__law_errors_right (t__law_beside X G c more TB) (He.glo_ok X G (c.fact 32 (f := .glo "_law_errors_right") rfl)) (by decide) (fun _ => ⟨by decide, _, _, code_ref F, TB ("_law_errors_right", none) (by decide +kernel), fun L fa cdv => tt_one "_law_errors_right" (by decide +kernel) more L fa cdv _⟩)
theorem t__law_errors_right (X : K.In h) (G : h.Ns mainGlobals mg) (c : He.SaysD fa fn K) (more : excAll isx cls tf K = true) (TB : ∀ p ∈ tf, LamX.TabB base mg (He.cT K p).1 (He.cT K p).2) : TOK (tabOf fs__law_errors_right [("_law_error", lamW)]) mg (TT K) 46 P w K base := tok_cons (tok_mono (t__law_beside X G c more TB) (by decide)) (h__law_errors_right X G c more TB)
end
/-- what is left: the law's own body, as Mi says it -/
def Plain : Prop := ∀ (a : Nat) (ns : List Int), ns.length ≤ 63 → ∃ ρ1 ρ2 cE, b_pre (initE 14 [dPtr a]) none = .ok (.next, ρ1) none ∧ ρ1[0]? = some (.d (dPtr a)) ∧ b_post (ρ1.set 5 (.d dCup)) (some (cupI ns, cupJ ns)) = .ok (.ret (.bool true), ρ2) cE
section
variable {mg : Str → Option Value} {P : Program} {w : World} {K : PySem.W.Frag} {base h : Heap}
theorem law_fn (X : K.In h) (G : h.Ns mainGlobals mg) (c : He.SaysD fa fn K) (more : excAll isx cls tf K = true) (TB : ∀ p ∈ tf, LamX.TabB base mg (He.cT K p).1 (He.cT K p).2) (ev : Plain) {fd : FuncData} (F : FnP K "law" 48 fd) : FnOk P w K mg base (L2N.CX P w) 47 (He.fAd K ("law", none)) fd ["script"] (spLaw K (TT K) 63) := by
  obtain ⟨fdc, Fc⟩ := c.def_ 17 (d := dOf "_law_cup" 32) rfl
  have cup := cup_by (P := P) (w := w) (mg := mg) (base := base) Fc (by kernel_rfl) (by kernel_rfl) (by kernel_rfl) (by kernel_rfl) (by kernel_rfl) (free_all X G c _ (by decide +kernel)) (free_all X G c _ (by decide +kernel)) (free_all X G c _ (by decide +kernel)) (by kernel_rfl)
  exact law_by (N := n_law) F c_split (by kernel_rfl) c_pre c_post c_cup (t__law_errors_right X G c more TB) (by decide) (He.glo_ok X G (c.fact 17 (f := .glo "_law_cup") rfl)) Fc.kp (Fc.bindsN fun _ _ _ _ _ _ us hl => match us, hl with | [_], _ => rfl) cup ev
end
end Hd
open PySem PySem.W PySem.Calls PyProof.Rows
theorem law_of (ev : Hd.Plain) : PySem.Challenge.rw_asbarred_k18_whole_ladders.Holds := by
  w_on; o_law
  refine HandSHeadRun.head_any (r := OpenLaw.row PySem.Challenge.rw_asbarred_k18_whole_ladders) (q := view (OpenLaw.row PySem.Challenge.rw_asbarred_k18_whole_ladders).prog [48]) (H := Hd.hk) (ob := Hd.ob) (M := 4000) (loose := Hd.loose) (d := HandSHeadRun.topDef (OpenLaw.row PySem.Challenge.rw_asbarred_k18_whole_ladders).prog 48) (kwd := []) Hd.ob_eq
    (by kernel_rfl) (fun s => by kernel_rfl) Hd.run (by kernel_rfl) (by kernel_rfl) (by kernel_rfl) (by rfl) (by first | assumption | decide +kernel) (by decide +kernel) ⟨rfl, rfl, rfl, rfl, rfl, by decide +kernel⟩ ?hw ?hc
  case hw => w_witness2
  case hc =>
    refine LamX.walk_ofTsE (l := PySem.Challenge.rw_asbarred_k18_whole_ladders) (n := 63) (k := 47) (x := "script") (CX := fun w => L2N.CX (PySem.Challenge.rw_asbarred_k18_whole_ladders).prog w) rfl (by decide) (by kernel_rfl) ⟨rfl, by decide, by decide⟩ ?F (fun _ _ _ _ _ z => by
      obtain ⟨_, _, _, _, _, _, _, _, _, _, _, _, y⟩ := z
      exact y)
    intro w mg fa h Y G hmg0
    obtain ⟨K, KX, c⟩ := Y
    have hmg : mg ("law" : PySem.Str) = some (.ref fa) := by
      have e : (HandSHeadRun.topDef (OpenLaw.row PySem.Challenge.rw_asbarred_k18_whole_ladders).prog 48).name = ("law" : PySem.Str) := by kernel_rfl
      rw [← e]
      exact hmg0
    obtain ⟨fd, F⟩ := c.t.d.def_ 33 (d := Hd.dOf "law" 48) rfl
    have e := hmg.symm.trans (He.glo_ok KX G (c.t.d.fact 33 (f := .glo "law") rfl))
    cases e
    refine ⟨K, KX, fd, Hd.tf.map (He.cT K), Mi.spLaw K (Hd.TT K) 63, fun p hp => ?_, fun p hp => ?_, fun p hp => ?_, fun s u => ?_, fun H a ns hl _ hT hS => ?_, fun base hb hG TB => ?_⟩
    · obtain ⟨q, hq, rfl⟩ := List.mem_map.mp hp
      exact c.empty q hq
    · obtain ⟨q, hq, rfl⟩ := List.mem_map.mp hp
      exact c.out q hq
    · obtain ⟨q, hq, rfl⟩ := List.mem_map.mp hp
      exact PySem.W.codeHd_of_K KX (c.hd q hq)
    · exact L2.FunD.bindsA (ps := ["script"]) F (fun _ _ _ _ _ _ us hl => match us, hl with | [_], _ => rfl) s [u] rfl
    · refine ⟨a, ns, rfl, hl, hS, fun p hp => ?_, fun _ => rfl⟩
      obtain ⟨q, hq, rfl⟩ := List.mem_map.mp hp
      exact LamX.TabS.nil (hT _ (List.mem_map.mpr ⟨q, hq, rfl⟩))
    · exact Hd.law_fn KX G c.t.d c.more (fun p hp => TB _ (List.mem_map.mpr ⟨p, hp, rfl⟩)) ev F

namespace Hd
open PySem PySem.Spec PyProof.Rows L2 Mi
section
variable {c : Cp} {a b : List Int} {bs : List (List Int)} {i j : Int} {n : Nat}
def Lk : Nat → D → Prop
  | 0, _ => False
  | n + 1, d => match d with
    | .none | .bool _ | .int _ => True
    | .str s => PyData.strOk s = true
    | .tuple ds | .list ds => ds.length ≤ 1000000 ∧ ∀ x ∈ ds, Lk n x
    | _ => False
theorem lsort_ok {d : D} (h : Lk (n + 1) d) : ∃ k, f__law_sort [d] c = .ok (.int k) c ∧ k ≠ 6 ∧ ((k = 4 ∨ k = 5) ↔ ∃ ds, d = .tuple ds ∨ d = .list ds) := by
  cases d with
  | none => exact ⟨0, rfl, by decide, by simp⟩
  | bool b => exact ⟨1, rfl, by decide, by simp⟩
  | int i => exact ⟨2, rfl, by decide, by simp⟩
  | str s => exact ⟨3, rfl, by decide, by simp⟩
  | tuple ds => exact ⟨4, rfl, by decide, by simp⟩
  | list ds => exact ⟨5, rfl, by decide, by simp⟩
  | dict ds => exact h.elim
theorem zip_self {α : Type} : ∀ {l : List α} {p : α × α}, p ∈ l.zip l → p.1 = p.2 ∧ p.1 ∈ l
  | x :: l, p, h => by
    rcases List.mem_cons.mp h with h | h
    · subst h; exact ⟨rfl, List.mem_cons_self⟩
    · have := zip_self h; exact ⟨this.1, List.mem_cons_of_mem _ this.2⟩
theorem in45 {k : Int} : cmpD .In (.int k) (tupI [4, 5]) = some (.bool (decide (k = 4 ∨ k = 5))) := by
  rw [cmp_in_t]
  by_cases h4 : k = 4 <;> by_cases h5 : k = 5 <;> simp [h4, h5]
theorem like_self : ∀ (m : Nat) (d : D), Lk m d → g__law_like m [d, d] c = .ok (.bool true) c
  | 0, _, h => h.elim
  | m + 1, d, h => by
    obtain ⟨k, e, k6, k45⟩ := lsort_ok (c := c) h
    refine bod_ret (ρ1 := (initE 6 [d, d]).set 2 (.d (.int k))) ((es_next (es_asg ((ev_call (ev_one (ev_var (x := d) rfl)) rfl).trans e))).trans ?_)
    have t1 : tOr' (tCm (eCmp .NotEq (eCall 1 f__law_sort (aCons (eVar 0) aNil)) (eVar 2))) (tCm (eCmp .Eq (eVar 2) (eCst (.int 6)))) ((initE 6 [d, d]).set 2 (.d (.int k))) c = .ok false c := by
      refine et_or (k := false) (k' := false) (et_cm (ev_cmp ((ev_call (ev_one (ev_var (x := d) rfl)) rfl).trans e) (ev_var (x := .int k) rfl) (by rw [cmp_ne_i, decide_eq_true rfl]; rfl))) fun _ => et_cm (ev_cmp (ev_var (x := .int k) rfl) ev_cst (by rw [cmp_eq_i, decide_eq_false k6]))
    refine (es_next (es_if_f t1)).trans ?_
    have t2 : tCm (eCmp .In (eVar 2) (eTup (aCons (eCst (.int 4)) (aCons (eCst (.int 5)) aNil)))) ((initE 6 [d, d]).set 2 (.d (.int k))) c = .ok (decide (k = 4 ∨ k = 5)) c :=
      et_cm (ev_cmp (ev_var (x := .int k) rfl) (ev_tup (ev_two ev_cst ev_cst) (show 2 ≤ sizeLine by decide)) in45)
    by_cases hk : k = 4 ∨ k = 5
    · rw [decide_eq_true hk] at t2
      obtain ⟨ds, hd⟩ := k45.mp hk
      have hx : ds.length ≤ 1000000 ∧ ∀ x ∈ ds, Lk m x := by
        rcases hd with hd | hd <;> (rw [hd] at h; exact h)
      refine es_retd ((es_if t2).trans ?_)
      rw [if_pos rfl]
      refine es_retd (es_ret ?_)
      have le : lenB [d] = some (.int ds.length) := by rcases hd with hd | hd <;> (rw [hd]; rfl)
      refine (ev_and_t (ev_cmp (ev_bi (ev_one (ev_var (x := d) rfl)) le) (ev_bi (ev_one (ev_var (x := d) rfl)) le) (by rw [cmp_eq_i, decide_eq_true rfl])) rfl).trans ?_
      have hz : iZip (eVar 0) (eVar 1) ((initE 6 [d, d]).set 2 (.d (.int k))) c = .ok ((ds.zip ds).map fun p => .tuple [p.1, p.2]) c := by
        rw [← zip_enc (fun d => d) (fun d => d), List.map_id']
        rcases hd with hd | hd <;> rw [hd]
        · exact ei_zipT (ev_var rfl) (ev_var rfl)
        · exact ei_zipL (ev_var rfl) (ev_var rfl)
      have hl : eOfA (lcF [3, 4, 5] (.tp [4, 5]) (iZip (eVar 0) (eVar 1)) (tNo (tOf (eCall 2 (g__law_like m) (aCons (eVar 4) (aCons (eVar 5) aNil))))) (eCst (.int 1))) ((initE 6 [d, d]).set 2 (.d (.int k))) c = .ok (.list (((ds.zip ds).filter fun _ => false).map fun _ => .int 1)) c :=
        ev_ofA (lc_enc (ds.zip ds) _ _ _ hz (fits (by rw [List.length_zip]; omega)) fun p hp => ⟨_, rfl, by
          have q := zip_self hp
          refine et_no (k := true) (et_ofb ((ev_call (ev_two (ev_var (x := p.1) rfl) (ev_var (x := p.2) rfl)) rfl).trans ?_))
          rw [← q.1]
          exact like_self m p.1 (hx.2 _ q.2), fun z => by cases z⟩)
      rw [List.filter_eq_nil_iff.mpr fun _ _ z => by cases z] at hl
      exact ev_cmp hl (ev_lst ev_nil (Nat.zero_le _)) rfl
    · rw [decide_eq_false hk] at t2
      refine (es_next (es_if_f t2)).trans (es_retd (es_ret ?_))
      refine ev_cmp (ev_var (x := d) rfl) (ev_var (x := d) rfl) ?_
      cases d with
      | none => rfl
      | bool b => cases b <;> rfl
      | int i => rw [cmp_eq_i, decide_eq_true rfl]
      | str s => exact (cmp_eqS h h).trans (by rw [decide_eq_true rfl])
      | tuple ds => exact absurd (k45.mpr ⟨ds, .inl rfl⟩) hk
      | list ds => exact absurd (k45.mpr ⟨ds, .inr rfl⟩) hk
      | dict ds => exact h.elim
theorem q_like {α : Type} {g : α → D} {a b : α} (h : a = b ∧ Lk 12 (g a)) : f__law_like [g a, g b] c = .ok (.bool true) c := by rw [← h.1]; exact like_self 12 _ h.2
end
section
variable {α β γ : Type} {m : Nat} {g : α → D} {h : β → D} {k : γ → D}
theorem lk_l {l : List α} (hl : l.length ≤ 1000000) (hg : ∀ a ∈ l, Lk m (g a)) : Lk (m + 1) (lstE g l) := ⟨by rw [List.length_map]; exact hl, fun x hx => by
  obtain ⟨i, hi, rfl⟩ := List.mem_map.mp hx
  exact hg i hi⟩
theorem lk_t {l : List α} (hl : l.length ≤ 1000000) (hg : ∀ a ∈ l, Lk m (g a)) : Lk (m + 1) (tupE g l) := ⟨by rw [List.length_map]; exact hl, fun x hx => by
  obtain ⟨i, hi, rfl⟩ := List.mem_map.mp hx
  exact hg i hi⟩
theorem lk_q2 {x : α × β} (h1 : Lk m (g x.1)) (h2 : Lk m (h x.2)) : Lk (m + 1) (q2 g h x) := ⟨show 2 ≤ 1000000 by decide, fun d hd => by
  rcases List.mem_cons.mp hd with rfl | hd
  · exact h1
  · rw [List.mem_singleton.mp hd]; exact h2⟩
theorem lk_p2 {x : α × β} (h1 : Lk m (g x.1)) (h2 : Lk m (h x.2)) : Lk (m + 1) (p2 g h x) := ⟨show 2 ≤ 1000000 by decide, fun d hd => by
  rcases List.mem_cons.mp hd with rfl | hd
  · exact h1
  · rw [List.mem_singleton.mp hd]; exact h2⟩
theorem lk_q3 {x : α × β × γ} (h1 : Lk m (g x.1)) (h2 : Lk m (h x.2.1)) (h3 : Lk m (k x.2.2)) : Lk (m + 1) (q3 g h k x) := ⟨show 3 ≤ 1000000 by decide, fun d hd => by
  rcases List.mem_cons.mp hd with rfl | hd
  · exact h1
  rcases List.mem_cons.mp hd with rfl | hd
  · exact h2
  · rw [List.mem_singleton.mp hd]; exact h3⟩
theorem lk_p3 {x : α × β × γ} (h1 : Lk m (g x.1)) (h2 : Lk m (h x.2.1)) (h3 : Lk m (k x.2.2)) : Lk (m + 1) (p3 g h k x) := ⟨show 3 ≤ 1000000 by decide, fun d hd => by
  rcases List.mem_cons.mp hd with rfl | hd
  · exact h1
  rcases List.mem_cons.mp hd with rfl | hd
  · exact h2
  · rw [List.mem_singleton.mp hd]; exact h3⟩
theorem lk_i {i : Int} : Lk (m + 1) (.int i) := trivial
theorem lk_b {i : Bool} : Lk (m + 1) (.bool i) := trivial
theorem lk_o {o : Option α} (hg : ∀ a, o = some a → Lk (m + 1) (g a)) : Lk (m + 1) (optE g o) := by
  cases o with
  | none => exact trivial
  | some a => exact hg a rfl
theorem lk_row {l : List Int} (hl : l.length ≤ 1000000) : Lk (m + 2) (tupE PyData.int l) := lk_t hl fun _ _ => lk_i
theorem lk_rws {l : List (List Int)} (hl : l.length ≤ 1000000) (h2 : ∀ x ∈ l, x.length ≤ 1000000) : Lk (m + 3) (tupE (tupE PyData.int) l) := lk_t hl fun x hx => lk_row (h2 x hx)
end
theorem pv_err {ρ : En} {c : Cp} {f : Mi.Ev} {E : Str} (hE : E ∈ cls) (e : f ρ c = .err E c) : (fun ρ => lamW (f ρ)) ρ c = .ok (.str (wordOf (isx E) pairs)) c := by
  show lamE isx cls "none" pairs (f ρ) c = _
  unfold lamE; rw [e]
  simp only
  rw [if_pos hE]
theorem pv_noerr {ρ : En} {c : Cp} {f : Mi.Ev} {d : D} (e : f ρ c = .ok d c) : (fun ρ => lamW (f ρ)) ρ c = .ok (.str "none") c := by
  show lamE isx cls "none" pairs (f ρ) c = _
  unfold lamE; rw [e]
theorem pv_callE {ρ : En} {c : Cp} {m : Nat} {F : List D → M D} {a : Av} {xs : List D} {E : Str} (e : a ρ c = .ok xs c) (hl : xs.length = m) (hf : F xs c = .err E c) : eCall m F a ρ c = .err E c := by unfold eCall; rw [bd_ok e, if_pos hl]; exact hf
end Hd

namespace Hd
open PySem PySem.Spec PyProof.Rows L2 Mi
noncomputable def p_is_whole (value : Int) (low : Int) (high : Int) : Bool := (true && ((!false) && (decide (low ≤ value) && decide (value ≤ high))))
theorem q_is_whole {c : Cp} {value : Int} {low : Int} {high : Int} : f_is_whole [PyData.int value, PyData.int low, PyData.int high] c = .ok (PyData.bool (p_is_whole value low high)) c := b_retF (g := PyData.bool) [.d (PyData.int value), .d (PyData.int low), .d (PyData.int high)] rfl (w_ret (pv_and (pv_isa (ev_var rfl) rfl) fun _ => (pv_and (pv_not (pv_isa (ev_var rfl) rfl)) fun _ => (pv_chain (fun _ _ => cmp_le_i) (fun _ _ => cmp_le_i) (ev_var rfl) (ev_var rfl) (ev_var rfl)))) rfl)
def ok_need_whole (value : Int) (low : Int) (high : Int) : Prop := ((!(p_is_whole value low high)) = false)
theorem q_need_whole {c : Cp} {value : Int} {low : Int} {high : Int} (h : ok_need_whole value low high) : f_need_whole [PyData.int value, PyData.int low, PyData.int high] c = .ok .none c := b_nxtF [.d (PyData.int value), .d (PyData.int low), .d (PyData.int high)] rfl (w_iff (pt_no (pt_of (pv_call (pv_cons (ev_var rfl) (pv_cons (ev_var rfl) (pv_cons (ev_var rfl) ev_nil))) rfl (q_is_whole (value := value) (low := low) (high := high))))) h (w_nop rfl))
noncomputable def p_is_tuple_of (value : (List (List Int))) (low : Int) (high : Int) : Bool := (true && (decide (low ≤ (value.length : Int)) && decide ((value.length : Int) ≤ high)))
theorem q_is_tuple_of {c : Cp} {value : (List (List Int))} {low : Int} {high : Int} : f_is_tuple_of [(tupE (tupE PyData.int)) value, PyData.int low, PyData.int high] c = .ok (PyData.bool (p_is_tuple_of value low high)) c := b_retF (g := PyData.bool) [.d ((tupE (tupE PyData.int)) value), .d (PyData.int low), .d (PyData.int high)] rfl (w_ret (pv_and (pv_isa (ev_var rfl) rfl) fun _ => (pv_chain (fun _ _ => cmp_le_i) (fun _ _ => cmp_le_i) (ev_var rfl) (pv_lenT (g := (tupE PyData.int)) (ev_var rfl)) (ev_var rfl))) rfl)
noncomputable def p_is_ascending_r (values : (List Int)) : Bool := ((List.zip values (values.drop 1)).all (fun (p1 : (Int × Int)) => decide (p1.1 < p1.2)))
def ok_is_ascending_r (values : (List Int)) : Prop := (((List.zip values (values.drop 1))).length ≤ sizeLine)
theorem q_is_ascending_r {c : Cp} {values : (List Int)} (h : ok_is_ascending_r values) : f_is_ascending [(tupE PyData.int) values] c = .ok (PyData.bool (p_is_ascending_r values)) c := b_retF (g := PyData.bool) [.d ((tupE PyData.int) values), .no, .no, .no] rfl (w_ret (pv_all (p := (fun (p1 : (Int × Int)) => decide (p1.1 < p1.2))) (pv_ofA (pv_lcA (fun (p1 : (Int × Int)) => decide (p1.1 < p1.2)) PyData.bool (pi_zT (ev_var rfl) (pv_tailT (ev_var rfl))) h fun p1 _ => ⟨[.d ((tupE PyData.int) values), .no, .d (PyData.int p1.1), .d (PyData.int p1.2)], rfl, (pv_cmp (ev_var rfl) (ev_var rfl) cmp_lt_i)⟩))) rfl)
noncomputable def p_is_ascending_rr (values : (List (List Int))) : Bool := ((List.zip values (values.drop 1)).all (fun (p1 : ((List Int) × (List Int))) => (ltI p1.1 p1.2)))
def ok_is_ascending_rr (values : (List (List Int))) : Prop := (((List.zip values (values.drop 1))).length ≤ sizeLine)
theorem q_is_ascending_rr {c : Cp} {values : (List (List Int))} (h : ok_is_ascending_rr values) : f_is_ascending [(tupE (tupE PyData.int)) values] c = .ok (PyData.bool (p_is_ascending_rr values)) c := b_retF (g := PyData.bool) [.d ((tupE (tupE PyData.int)) values), .no, .no, .no] rfl (w_ret (pv_all (p := (fun (p1 : ((List Int) × (List Int))) => (ltI p1.1 p1.2))) (pv_ofA (pv_lcA (fun (p1 : ((List Int) × (List Int))) => (ltI p1.1 p1.2)) PyData.bool (pi_zT (ev_var rfl) (pv_tailT (ev_var rfl))) h fun p1 _ => ⟨[.d ((tupE (tupE PyData.int)) values), .no, .d ((tupE PyData.int) p1.1), .d ((tupE PyData.int) p1.2)], rfl, (pv_cmp (ev_var rfl) (ev_var rfl) cmp_lt_t)⟩))) rfl)
noncomputable def p_is_set_below (value : (List Int)) (many : Int) : Bool := (bif ((!true) || (!(value.all (fun (one : Int) => (p_is_whole one (0 : Int) (many - (1 : Int))))))) then false else (p_is_ascending_r value))
def ok_is_set_below (value : (List Int)) (many : Int) : Prop := ((!true) = false → ((value).length ≤ sizeLine)) ∧ (((!true) || (!(value.all (fun (one : Int) => (p_is_whole one (0 : Int) (many - (1 : Int))))))) = false → (ok_is_ascending_r value))
theorem q_is_set_below {c : Cp} {value : (List Int)} {many : Int} (h : ok_is_set_below value many) : f_is_set_below [(tupE PyData.int) value, PyData.int many] c = .ok (PyData.bool (p_is_set_below value many)) c := b_retF (g := PyData.bool) [.d ((tupE PyData.int) value), .d (PyData.int many), .no, .no] rfl (w_if (RetK PyData.bool) (pt_or (pt_no (pt_of (pv_isa (ev_var rfl) rfl))) fun h1 => (pt_no (pt_of (pv_all (p := (fun (one : Int) => (p_is_whole one (0 : Int) (many - (1 : Int))))) (pv_ofA (pv_lcA (fun (one : Int) => (p_is_whole one (0 : Int) (many - (1 : Int)))) PyData.bool (pi_T (g := PyData.int) (l := value) (ev_var rfl)) ((h.1 h1)) fun one _ => ⟨[.d ((tupE PyData.int) value), .d (PyData.int many), .no, .d (PyData.int one)], rfl, (pv_call (pv_cons (ev_var rfl) (pv_cons ev_cst (pv_cons (pv_bin (ev_var rfl) ev_cst bin_subI) ev_nil))) rfl (q_is_whole (value := one) (low := (0 : Int)) (high := (many - (1 : Int)))))⟩)))))) (fun _ => (w_assoc (w_ret ev_cst rfl))) (fun h6 => (w_nops (w_ret (pv_call (pv_cons (ev_var rfl) ev_nil) rfl (q_is_ascending_r (values := value) ((h.2 h6)))) rfl))))
def ok_need_papers (value : Int) : Prop := (ok_need_whole value (1 : Int) (10 : Int))
theorem q_need_papers {c : Cp} {value : Int} (h : ok_need_papers value) : f_need_papers [PyData.int value] c = .ok .none c := b_nxtF [.d (PyData.int value)] rfl (w_exp (pv_call (pv_cons (ev_var rfl) (pv_cons ev_cst (pv_cons ev_cst ev_nil))) rfl (q_need_whole (value := value) (low := (1 : Int)) (high := (10 : Int)) h)) (w_nop rfl))
noncomputable def p_is_within (lot : (List Int)) (other : (List Int)) : Bool := (lot.all (fun (own : Int) => (decide (own ∈ other))))
def ok_is_within (lot : (List Int)) (other : (List Int)) : Prop := ((lot).length ≤ sizeLine)
theorem q_is_within {c : Cp} {lot : (List Int)} {other : (List Int)} (h : ok_is_within lot other) : f_is_within [(tupE PyData.int) lot, (tupE PyData.int) other] c = .ok (PyData.bool (p_is_within lot other)) c := b_retF (g := PyData.bool) [.d ((tupE PyData.int) lot), .d ((tupE PyData.int) other), .no, .no] rfl (w_ret (pv_all (p := (fun (own : Int) => (decide (own ∈ other)))) (pv_ofA (pv_lcA (fun (own : Int) => (decide (own ∈ other))) PyData.bool (pi_T (g := PyData.int) (l := lot) (ev_var rfl)) h fun own _ => ⟨[.d ((tupE PyData.int) lot), .d ((tupE PyData.int) other), .no, .d (PyData.int own)], rfl, (pv_cmp (ev_var rfl) (ev_var rfl) (cmp_inT EOk.int))⟩))) rfl)
noncomputable def p_are_bars_in (papers : Int) (value : (List (List Int))) : Bool := (bif ((!(p_is_tuple_of value (0 : Int) (252 : Int))) || (!(value.all (fun (own : (List Int)) => ((p_is_set_below own papers) && (!decide ((own : (List Int)) = []))))))) then false else (bif (!(p_is_ascending_rr value)) then false else (!(((value.filter fun (one : (List Int)) => true).flatMap fun (one : (List Int)) => (value.filter fun (other : (List Int)) => true).map fun (other : (List Int)) => ((!decide ((one : (List Int)) = other)) && (p_is_within one other))).any id))))
def ok_are_bars_in (papers : Int) (value : (List (List Int))) : Prop := ((!(p_is_tuple_of value (0 : Int) (252 : Int))) = false → ((value).length ≤ sizeLine) ∧ (∀ own ∈ value, (ok_is_set_below own papers))) ∧ (((!(p_is_tuple_of value (0 : Int) (252 : Int))) || (!(value.all (fun (own : (List Int)) => ((p_is_set_below own papers) && (!decide ((own : (List Int)) = []))))))) = false → (ok_is_ascending_rr value) ∧ ((!(p_is_ascending_rr value)) = false → ((((value.filter fun (one : (List Int)) => true).flatMap fun (one : (List Int)) => (value.filter fun (other : (List Int)) => true).map fun (other : (List Int)) => ((!decide ((one : (List Int)) = other)) && (p_is_within one other)))).length ≤ sizeLine) ∧ (∀ one ∈ value, (∀ other ∈ value, ((!decide ((one : (List Int)) = other)) = true → (ok_is_within one other))))))
theorem q_are_bars_in {c : Cp} {papers : Int} {value : (List (List Int))} (h : ok_are_bars_in papers value) : f_are_bars_in [PyData.int papers, (tupE (tupE PyData.int)) value] c = .ok (PyData.bool (p_are_bars_in papers value)) c := b_retF (g := PyData.bool) [.d (PyData.int papers), .d ((tupE (tupE PyData.int)) value), .no, .no, .no, .no] rfl (w_if (RetK PyData.bool) (pt_or (pt_no (pt_of (pv_call (pv_cons (ev_var rfl) (pv_cons ev_cst (pv_cons ev_cst ev_nil))) rfl (q_is_tuple_of (value := value) (low := (0 : Int)) (high := (252 : Int)))))) fun h1 => (pt_no (pt_of (pv_all (p := (fun (own : (List Int)) => ((p_is_set_below own papers) && (!decide ((own : (List Int)) = []))))) (pv_ofA (pv_lcA (fun (own : (List Int)) => ((p_is_set_below own papers) && (!decide ((own : (List Int)) = [])))) PyData.bool (pi_T (g := (tupE PyData.int)) (l := value) (ev_var rfl)) ((h.1 h1).1) fun own h2 => ⟨[.d (PyData.int papers), .d ((tupE (tupE PyData.int)) value), .no, .d ((tupE PyData.int) own), .no, .no], rfl, (pv_and (pv_call (pv_cons (ev_var rfl) (pv_cons (ev_var rfl) ev_nil)) rfl (q_is_set_below (value := own) (many := papers) (((h.1 h1).2 own h2)))) fun _ => (pv_cmp (ev_var rfl) (pv_tup ev_nil (show 0 ≤ sizeLine by decide)) (cmp_neE (EOk.tup EOk.int) (a := own) (b := []))))⟩)))))) (fun _ => (w_assoc (w_ret ev_cst rfl))) (fun h8 => (w_nops (w_if (RetK PyData.bool) (pt_no (pt_of (pv_call (pv_cons (ev_var rfl) ev_nil) rfl (q_is_ascending_rr (values := value) ((h.2 h8).1))))) (fun _ => (w_assoc (w_ret ev_cst rfl))) (fun h11 => (w_nops (w_ret (pv_not (pv_any0 (pv_ofA (pv_lc2 (fun (one : (List Int)) => true) (fun (one : (List Int)) => value) (tupE PyData.int) (fun (one : (List Int)) (other : (List Int)) => true) (fun (one : (List Int)) (other : (List Int)) => ((!decide ((one : (List Int)) = other)) && (p_is_within one other))) PyData.bool (pi_T (g := (tupE PyData.int)) (l := value) (ev_var rfl)) (((h.2 h8).2 h11).1) fun one h12 => ⟨[.d (PyData.int papers), .d ((tupE (tupE PyData.int)) value), .no, .no, .d ((tupE PyData.int) one), .no], rfl, rfl, fun _ => ⟨(pi_T (g := (tupE PyData.int)) (l := value) (ev_var rfl)), fun other h14 => ⟨[.d (PyData.int papers), .d ((tupE (tupE PyData.int)) value), .no, .no, .d ((tupE PyData.int) one), .d ((tupE PyData.int) other)], rfl, rfl, fun _ => (pv_and (pv_cmp (ev_var rfl) (ev_var rfl) (cmp_neE (EOk.tup EOk.int) (a := one) (b := other))) fun h16 => (pv_call (pv_cons (ev_var rfl) (pv_cons (ev_var rfl) ev_nil)) rfl (q_is_within (lot := one) (other := other) ((((((h.2 h8).2 h11).2 one h12) other h14) h16)))))⟩⟩⟩)))) rfl)))))))
noncomputable def p_is_free_in (bars : (List (List Int))) (lot : (List Int)) : Bool := (!(bars.any (fun (bar : (List Int)) => (p_is_within bar lot))))
def ok_is_free_in (bars : (List (List Int))) (lot : (List Int)) : Prop := ((bars).length ≤ sizeLine) ∧ (∀ bar ∈ bars, (ok_is_within bar lot))
theorem q_is_free_in {c : Cp} {bars : (List (List Int))} {lot : (List Int)} (h : ok_is_free_in bars lot) : f_is_free_in [(tupE (tupE PyData.int)) bars, (tupE PyData.int) lot] c = .ok (PyData.bool (p_is_free_in bars lot)) c := b_retF (g := PyData.bool) [.d ((tupE (tupE PyData.int)) bars), .d ((tupE PyData.int) lot), .no, .no] rfl (w_ret (pv_not (pv_any (p := (fun (bar : (List Int)) => (p_is_within bar lot))) (pv_ofA (pv_lcA (fun (bar : (List Int)) => (p_is_within bar lot)) PyData.bool (pi_T (g := (tupE PyData.int)) (l := bars) (ev_var rfl)) h.1 fun bar h1 => ⟨[.d ((tupE (tupE PyData.int)) bars), .d ((tupE PyData.int) lot), .no, .d ((tupE PyData.int) bar)], rfl, (pv_call (pv_cons (ev_var rfl) (pv_cons (ev_var rfl) ev_nil)) rfl (q_is_within (lot := bar) (other := lot) ((h.2 bar h1))))⟩)))) rfl)
def ok_need_bars (papers : Int) (value : (List (List Int))) : Prop := (ok_need_papers papers) ∧ (ok_are_bars_in papers value) ∧ ((!(p_are_bars_in papers value)) = false)
theorem q_need_bars {c : Cp} {papers : Int} {value : (List (List Int))} (h : ok_need_bars papers value) : f_need_bars [PyData.int papers, (tupE (tupE PyData.int)) value] c = .ok .none c := b_nxtF [.d (PyData.int papers), .d ((tupE (tupE PyData.int)) value)] rfl (w_exp (pv_call (pv_cons (ev_var rfl) ev_nil) rfl (q_need_papers (value := papers) h.1)) (w_iff (pt_no (pt_of (pv_call (pv_cons (ev_var rfl) (pv_cons (ev_var rfl) ev_nil)) rfl (q_are_bars_in (papers := papers) (value := value) h.2.1)))) h.2.2 (w_nop rfl)))
noncomputable def p_without (lot : (List Int)) (paper : Int) : (List Int) := (lot.filter fun (own : Int) => (!decide ((own : Int) = paper)))
def ok_without (lot : (List Int)) (paper : Int) : Prop := ((lot).length ≤ sizeLine)
theorem q_without {c : Cp} {lot : (List Int)} {paper : Int} (h : ok_without lot paper) : f_without [(tupE PyData.int) lot, PyData.int paper] c = .ok ((tupE PyData.int) (p_without lot paper)) c := b_retF (g := (tupE PyData.int)) [.d ((tupE PyData.int) lot), .d (PyData.int paper), .no, .no] rfl (w_ret (pv_tupL (pv_ofA (pv_lcF (fun (own : Int) => (!decide ((own : Int) = paper))) (pi_T (g := PyData.int) (l := lot) (ev_var rfl)) h fun own _ => ⟨[.d ((tupE PyData.int) lot), .d (PyData.int paper), .no, .d (PyData.int own)], rfl, (pt_cm (pv_cmp (ev_var rfl) (ev_var rfl) (cmp_neE EOk.int (a := own) (b := paper)))), fun _ => (ev_var rfl)⟩))) rfl)
noncomputable def p_lighter_bar (bars : (List (List Int))) (one : Int) (other : Int) : (Option (List Int)) := ((bars.findSome? (fun (bar : (List Int)) => (bif ((decide (other ∈ bar)) && ((!decide (one ∈ bar)) && (p_is_free_in bars ((p_without bar other) ++ [one])))) then (some (some bar)) else none))).getD none)
def ok_lighter_bar (bars : (List (List Int))) (one : Int) (other : Int) : Prop := (∀ bar ∈ bars, ((decide (other ∈ bar)) = true → ((!decide (one ∈ bar)) = true → (ok_without bar other) ∧ (((p_without bar other)).length + ([one]).length ≤ sizeLine) ∧ (ok_is_free_in bars ((p_without bar other) ++ [one])))))
theorem q_lighter_bar {c : Cp} {bars : (List (List Int))} {one : Int} {other : Int} (h : ok_lighter_bar bars one other) : f_lighter_bar [(tupE (tupE PyData.int)) bars, PyData.int one, PyData.int other] c = .ok ((optE (tupE PyData.int)) (p_lighter_bar bars one other)) c := b_retF (g := (optE (tupE PyData.int))) [.d ((tupE (tupE PyData.int)) bars), .d (PyData.int one), .d (PyData.int other), .no] rfl (w_findU (fun (j1 : Sl) => [.d ((tupE (tupE PyData.int)) bars), .d (PyData.int one), .d (PyData.int other), j1]) .no (fun (bar : (List Int)) => (bif ((decide (other ∈ bar)) && ((!decide (one ∈ bar)) && (p_is_free_in bars ((p_without bar other) ++ [one])))) then (some (some bar)) else none)) (pi_T (g := (tupE PyData.int)) (l := bars) (ev_var rfl)) rfl (fun bar h2 j1 => ⟨[.d ((tupE (tupE PyData.int)) bars), .d (PyData.int one), .d (PyData.int other), .d ((tupE PyData.int) bar)], rfl, (w_if (OptK (optE (tupE PyData.int)) _) (pt_an (pt_cm (pv_cmp (ev_var rfl) (ev_var rfl) (cmp_inT EOk.int))) fun h3 => (pt_an (pt_cm (pv_cmp (ev_var rfl) (ev_var rfl) (cmp_ninT EOk.int))) fun h4 => (pt_of (pv_call (pv_cons (ev_var rfl) (pv_cons (pv_bin (pv_call (pv_cons (ev_var rfl) (pv_cons (ev_var rfl) ev_nil)) rfl (q_without (lot := bar) (paper := other) ((((h bar h2) h3) h4).1))) (pv_tup (pv_cons (ev_var rfl) ev_nil) (show 1 ≤ sizeLine by decide)) (bin_addT (g := PyData.int) ((((h bar h2) h3) h4).2.1))) ev_nil)) rfl (q_is_free_in (bars := bars) (lot := ((p_without bar other) ++ [one])) ((((h bar h2) h3) h4).2.2)))))) (fun _ => (w_assoc (w_ret (ev_var rfl) rfl))) (fun _ => (w_nops (w_nop ⟨rfl, .d ((tupE PyData.int) bar), rfl⟩))))⟩) (fun j1 => (w_ret ev_cst rfl)))
noncomputable def p_heavier_in (papers : Int) (bars : (List (List Int))) (paper : Int) : (List Int) := ((rgZ papers).filter fun (own : Int) => ((p_lighter_bar bars own paper)).isNone)
def ok_heavier_in (papers : Int) (bars : (List (List Int))) (paper : Int) : Prop := (-(2 ^ 62) ≤ papers ∧ papers < 2 ^ 62) ∧ (((rgZ papers)).length ≤ sizeLine) ∧ (∀ own ∈ (rgZ papers), (ok_lighter_bar bars own paper))
theorem q_heavier_in {c : Cp} {papers : Int} {bars : (List (List Int))} {paper : Int} (h : ok_heavier_in papers bars paper) : f_heavier_in [PyData.int papers, (tupE (tupE PyData.int)) bars, PyData.int paper] c = .ok ((tupE PyData.int) (p_heavier_in papers bars paper)) c := b_retF (g := (tupE PyData.int)) [.d (PyData.int papers), .d ((tupE (tupE PyData.int)) bars), .d (PyData.int paper), .no, .no] rfl (w_ret (pv_tupL (pv_ofA (pv_lcF (fun (own : Int) => ((p_lighter_bar bars own paper)).isNone) (pi_r1 (ev_var rfl) h.1) h.2.1 fun own h2 => ⟨[.d (PyData.int papers), .d ((tupE (tupE PyData.int)) bars), .d (PyData.int paper), .no, .d (PyData.int own)], rfl, (pt_cm (pv_cmp (pv_call (pv_cons (ev_var rfl) (pv_cons (ev_var rfl) (pv_cons (ev_var rfl) ev_nil))) rfl (q_lighter_bar (bars := bars) (one := own) (other := paper) ((h.2.2 own h2)))) ev_cst (cmp_isN NN.tup))), fun _ => (ev_var rfl)⟩))) rfl)
noncomputable def v_unlike_pair_heavier (papers : Int) (bars : (List (List Int))) : (List (List Int)) := ((rgZ papers).map fun (own : Int) => (p_heavier_in papers bars own))
noncomputable def p_unlike_pair (papers : Int) (bars : (List (List Int))) : (Option (List Int)) := (((rgZ papers).findSome? (fun (one : Int) => (((rg2 (one + (1 : Int)) papers).findSome? (fun (other : Int) => (bif ((!decide (other ∈ (gI (v_unlike_pair_heavier papers bars) one))) && (!decide (one ∈ (gI (v_unlike_pair_heavier papers bars) other)))) then (some (some [one, other])) else none))).or none))).getD none)
def ok_unlike_pair (papers : Int) (bars : (List (List Int))) : Prop := (-(2 ^ 62) ≤ papers ∧ papers < 2 ^ 62) ∧ (((rgZ papers)).length ≤ sizeLine) ∧ (∀ own ∈ (rgZ papers), (ok_heavier_in papers bars own)) ∧ (-(2 ^ 62) ≤ papers ∧ papers < 2 ^ 62) ∧ (∀ one ∈ (rgZ papers), (-(2 ^ 62) ≤ (one + (1 : Int)) ∧ (one + (1 : Int)) < 2 ^ 62 ∧ -(2 ^ 62) ≤ papers ∧ papers < 2 ^ 62) ∧ (∀ other ∈ (rg2 (one + (1 : Int)) papers), (0 ≤ one ∧ one < (((v_unlike_pair_heavier papers bars)).length : Int)) ∧ ((!decide (other ∈ (gI (v_unlike_pair_heavier papers bars) one))) = true → (0 ≤ other ∧ other < (((v_unlike_pair_heavier papers bars)).length : Int)))))
theorem q_unlike_pair {c : Cp} {papers : Int} {bars : (List (List Int))} (h : ok_unlike_pair papers bars) : f_unlike_pair [PyData.int papers, (tupE (tupE PyData.int)) bars] c = .ok ((optE (tupE PyData.int)) (p_unlike_pair papers bars)) c := b_retF (g := (optE (tupE PyData.int))) [.d (PyData.int papers), .d ((tupE (tupE PyData.int)) bars), .no, .no, .no, .no, .no] rfl (w_asg (d := (lstE (tupE PyData.int)) (v_unlike_pair_heavier papers bars)) (pv_ofA (pv_lcA (fun (own : Int) => (p_heavier_in papers bars own)) (tupE PyData.int) (pi_r1 (ev_var rfl) h.1) h.2.1 fun own h2 => ⟨[.d (PyData.int papers), .d ((tupE (tupE PyData.int)) bars), .no, .no, .no, .no, .d (PyData.int own)], rfl, (pv_call (pv_cons (ev_var rfl) (pv_cons (ev_var rfl) (pv_cons (ev_var rfl) ev_nil))) rfl (q_heavier_in (papers := papers) (bars := bars) (paper := own) ((h.2.2.1 own h2))))⟩)) (w_fr [.d (PyData.int papers), .d ((tupE (tupE PyData.int)) bars), .d ((lstE (tupE PyData.int)) (v_unlike_pair_heavier papers bars)), .no, .no, .no, .no] rfl (w_findU (fun (j7 : Sl × Sl) => [.d (PyData.int papers), .d ((tupE (tupE PyData.int)) bars), .d ((lstE (tupE PyData.int)) (v_unlike_pair_heavier papers bars)), j7.1, j7.2, .no, .no]) (.no, .no) (fun (one : Int) => (((rg2 (one + (1 : Int)) papers).findSome? (fun (other : Int) => (bif ((!decide (other ∈ (gI (v_unlike_pair_heavier papers bars) one))) && (!decide (one ∈ (gI (v_unlike_pair_heavier papers bars) other)))) then (some (some [one, other])) else none))).or none)) (pi_r1 (ev_var rfl) h.2.2.2.1) rfl (fun one h8 j7 => ⟨[.d (PyData.int papers), .d ((tupE (tupE PyData.int)) bars), .d ((lstE (tupE PyData.int)) (v_unlike_pair_heavier papers bars)), .d (PyData.int one), j7.2, .no, .no], rfl, (w_find2U (fun (j10 : Sl) => [.d (PyData.int papers), .d ((tupE (tupE PyData.int)) bars), .d ((lstE (tupE PyData.int)) (v_unlike_pair_heavier papers bars)), .d (PyData.int one), j10, .no, .no]) j7.2 (fun (other : Int) => (bif ((!decide (other ∈ (gI (v_unlike_pair_heavier papers bars) one))) && (!decide (one ∈ (gI (v_unlike_pair_heavier papers bars) other)))) then (some (some [one, other])) else none)) _ (pi_r2 (pv_bin (ev_var rfl) ev_cst bin_addI) (ev_var rfl) ((h.2.2.2.2 one h8).1)) rfl (fun other h11 j10 => ⟨[.d (PyData.int papers), .d ((tupE (tupE PyData.int)) bars), .d ((lstE (tupE PyData.int)) (v_unlike_pair_heavier papers bars)), .d (PyData.int one), .d (PyData.int other), .no, .no], rfl, (w_if (OptK (optE (tupE PyData.int)) _) (pt_an (pt_cm (pv_cmp (ev_var rfl) (pv_ixL (g := (tupE PyData.int)) (ev_var rfl) (ev_var rfl) (((h.2.2.2.2 one h8).2 other h11).1)) (cmp_ninT EOk.int))) fun h13 => (pt_cm (pv_cmp (ev_var rfl) (pv_ixL (g := (tupE PyData.int)) (ev_var rfl) (ev_var rfl) ((((h.2.2.2.2 one h8).2 other h11).2 h13))) (cmp_ninT EOk.int)))) (fun _ => (w_assoc (w_ret (pv_tup (pv_cons (ev_var rfl) (pv_cons (ev_var rfl) ev_nil)) (show 2 ≤ sizeLine by decide)) rfl))) (fun _ => (w_nops (w_nop ⟨rfl, .d (PyData.int other), rfl⟩))))⟩) (fun j10 => (w_nop ⟨rfl, (.d (PyData.int one), j10), rfl⟩)))⟩) (fun j7 => (w_ret ev_cst rfl)))))
noncomputable def p_is_ladder (papers : Int) (bars : (List (List Int))) : Bool := ((p_unlike_pair papers bars)).isNone
def ok_is_ladder (papers : Int) (bars : (List (List Int))) : Prop := (ok_need_bars papers bars) ∧ (ok_unlike_pair papers bars)
theorem q_is_ladder {c : Cp} {papers : Int} {bars : (List (List Int))} (h : ok_is_ladder papers bars) : f_is_ladder [PyData.int papers, (tupE (tupE PyData.int)) bars] c = .ok (PyData.bool (p_is_ladder papers bars)) c := b_retF (g := PyData.bool) [.d (PyData.int papers), .d ((tupE (tupE PyData.int)) bars)] rfl (w_exp (pv_call (pv_cons (ev_var rfl) (pv_cons (ev_var rfl) ev_nil)) rfl (q_need_bars (papers := papers) (value := bars) h.1)) (w_ret (pv_cmp (pv_call (pv_cons (ev_var rfl) (pv_cons (ev_var rfl) ev_nil)) rfl (q_unlike_pair (papers := papers) (bars := bars) h.2)) ev_cst (cmp_isN NN.tup)) rfl))
noncomputable def p_ladder_bar (papers : Int) (bars : (List (List Int))) : (Option (List Int)) := (p_unlike_pair papers bars)
def ok_ladder_bar (papers : Int) (bars : (List (List Int))) : Prop := (ok_need_bars papers bars) ∧ (ok_unlike_pair papers bars)
theorem q_ladder_bar {c : Cp} {papers : Int} {bars : (List (List Int))} (h : ok_ladder_bar papers bars) : f_ladder_bar [PyData.int papers, (tupE (tupE PyData.int)) bars] c = .ok ((optE (tupE PyData.int)) (p_ladder_bar papers bars)) c := b_retF (g := (optE (tupE PyData.int))) [.d (PyData.int papers), .d ((tupE (tupE PyData.int)) bars)] rfl (w_exp (pv_call (pv_cons (ev_var rfl) (pv_cons (ev_var rfl) ev_nil)) rfl (q_need_bars (papers := papers) (value := bars) h.1)) (w_ret (pv_call (pv_cons (ev_var rfl) (pv_cons (ev_var rfl) ev_nil)) rfl (q_unlike_pair (papers := papers) (bars := bars) h.2)) rfl))
noncomputable def v_ladder_steps_many (papers : Int) (bars : (List (List Int))) : (List Int) := ((rgZ papers).map fun (own : Int) => ((p_heavier_in papers bars own).length : Int))
noncomputable def v_ladder_steps_found (papers : Int) (bars : (List (List Int))) (s11 : (List (List Int))) (number : Int) : (List (List Int)) := (s11 ++ [((rgZ papers).filter fun (own : Int) => (decide (((gI (v_ladder_steps_many papers bars) own) : Int) = number)))])
noncomputable def v_ladder_steps_found' (papers : Int) (bars : (List (List Int))) : (List (List Int)) := (((ssI (v_ladder_steps_many papers bars)).reverse).foldl (fun (s11 : (List (List Int))) (number : Int) => (v_ladder_steps_found papers bars s11 number)) [])
noncomputable def p_ladder_steps (papers : Int) (bars : (List (List Int))) : (List (List Int)) := (v_ladder_steps_found' papers bars)
def ok_ladder_steps (papers : Int) (bars : (List (List Int))) : Prop := (ok_need_bars papers bars) ∧ (ok_unlike_pair papers bars) ∧ (((p_unlike_pair papers bars)).isSome = false) ∧ (-(2 ^ 62) ≤ papers ∧ papers < 2 ^ 62) ∧ (((rgZ papers)).length ≤ sizeLine) ∧ (∀ own ∈ (rgZ papers), (ok_heavier_in papers bars own)) ∧ (((v_ladder_steps_many papers bars)).length < 64) ∧ (okF (fun (s11 : (List (List Int))) (number : Int) => (v_ladder_steps_found papers bars s11 number)) (fun (s11 : (List (List Int))) (number : Int) => (-(2 ^ 62) ≤ papers ∧ papers < 2 ^ 62) ∧ (((rgZ papers)).length ≤ sizeLine) ∧ (∀ own ∈ (rgZ papers), (0 ≤ own ∧ own < (((v_ladder_steps_many papers bars)).length : Int))) ∧ ((s11).length < sizeLine)) [] ((ssI (v_ladder_steps_many papers bars)).reverse))
theorem q_ladder_steps {c : Cp} {papers : Int} {bars : (List (List Int))} (h : ok_ladder_steps papers bars) : f_ladder_steps [PyData.int papers, (tupE (tupE PyData.int)) bars] c = .ok ((tupE (tupE PyData.int)) (p_ladder_steps papers bars)) c := b_retF (g := (tupE (tupE PyData.int))) [.d (PyData.int papers), .d ((tupE (tupE PyData.int)) bars), .no, .no, .no, .no, .no] rfl (w_exp (pv_call (pv_cons (ev_var rfl) (pv_cons (ev_var rfl) ev_nil)) rfl (q_need_bars (papers := papers) (value := bars) h.1)) (w_iff (pt_cm (pv_cmp (pv_call (pv_cons (ev_var rfl) (pv_cons (ev_var rfl) ev_nil)) rfl (q_unlike_pair (papers := papers) (bars := bars) h.2.1)) ev_cst (cmp_isNN NN.tup))) h.2.2.1 (w_asg (d := (lstE PyData.int) (v_ladder_steps_many papers bars)) (pv_ofA (pv_lcA (fun (own : Int) => ((p_heavier_in papers bars own).length : Int)) PyData.int (pi_r1 (ev_var rfl) h.2.2.2.1) h.2.2.2.2.1 fun own h5 => ⟨[.d (PyData.int papers), .d ((tupE (tupE PyData.int)) bars), .no, .no, .no, .no, .d (PyData.int own)], rfl, (pv_lenT (g := PyData.int) (pv_call (pv_cons (ev_var rfl) (pv_cons (ev_var rfl) (pv_cons (ev_var rfl) ev_nil))) rfl (q_heavier_in (papers := papers) (bars := bars) (paper := own) ((h.2.2.2.2.2.1 own h5)))))⟩)) (w_fr [.d (PyData.int papers), .d ((tupE (tupE PyData.int)) bars), .d ((lstE PyData.int) (v_ladder_steps_many papers bars)), .no, .no, .no, .no] rfl (w_box (pv_aLst ev_nil (show 0 ≤ sizeLine by decide)) (w_fr [.d (PyData.int papers), .d ((tupE (tupE PyData.int)) bars), .d ((lstE PyData.int) (v_ladder_steps_many papers bars)), .box (List.map (tupE PyData.int) []), .no, .no, .no] rfl (w_forU (fun (s11 : (List (List Int))) (j10 : Sl) => [.d (PyData.int papers), .d ((tupE (tupE PyData.int)) bars), .d ((lstE PyData.int) (v_ladder_steps_many papers bars)), .box (List.map (tupE PyData.int) s11), j10, .no, .no]) .no (fun (s11 : (List (List Int))) (number : Int) => (v_ladder_steps_found papers bars s11 number)) (fun (s11 : (List (List Int))) (number : Int) => (-(2 ^ 62) ≤ papers ∧ papers < 2 ^ 62) ∧ (((rgZ papers)).length ≤ sizeLine) ∧ (∀ own ∈ (rgZ papers), (0 ≤ own ∧ own < (((v_ladder_steps_many papers bars)).length : Int))) ∧ ((s11).length < sizeLine)) [] (pi_L (g := PyData.int) (l := ((ssI (v_ladder_steps_many papers bars)).reverse)) (pv_revL (pv_ofA (pv_ssI (ev_var rfl) h.2.2.2.2.2.2.1)))) h.2.2.2.2.2.2.2 rfl (fun number s11 j10 h12 => ⟨[.d (PyData.int papers), .d ((tupE (tupE PyData.int)) bars), .d ((lstE PyData.int) (v_ladder_steps_many papers bars)), .box (List.map (tupE PyData.int) s11), .d (PyData.int number), .no, .no], rfl, (w_appE (g := (tupE PyData.int)) (l := s11) (v := ((rgZ papers).filter fun (own : Int) => (decide (((gI (v_ladder_steps_many papers bars) own) : Int) = number)))) rfl (pv_tupL (pv_ofA (pv_lcF (fun (own : Int) => (decide (((gI (v_ladder_steps_many papers bars) own) : Int) = number))) (pi_r1 (ev_var rfl) h12.1) h12.2.1 fun own h14 => ⟨[.d (PyData.int papers), .d ((tupE (tupE PyData.int)) bars), .d ((lstE PyData.int) (v_ladder_steps_many papers bars)), .no, .d (PyData.int number), .no, .d (PyData.int own)], rfl, (pt_cm (pv_cmp (pv_ixL (g := PyData.int) (ev_var rfl) (ev_var rfl) ((h12.2.2.1 own h14))) (ev_var rfl) (cmp_eqE EOk.int (a := (gI (v_ladder_steps_many papers bars) own)) (b := number)))), fun _ => (ev_var rfl)⟩))) h12.2.2.2 (w_fr [.d (PyData.int papers), .d ((tupE (tupE PyData.int)) bars), .d ((lstE PyData.int) (v_ladder_steps_many papers bars)), .box (List.map (tupE PyData.int) (v_ladder_steps_found papers bars s11 number)), .d (PyData.int number), .no, .no] rfl (w_nop ⟨rfl, .d (PyData.int number), rfl⟩)))⟩) (fun j10 => (w_ret (pv_tupL (ev_box rfl)) rfl)))))))))
noncomputable def p_l_in (lot : (List Int)) (other : (List Int)) : Bool := (decide (((lot.filter fun (own : Int) => (!decide (own ∈ other))) : (List Int)) = []))
def ok_l_in (lot : (List Int)) (other : (List Int)) : Prop := ((lot).length ≤ sizeLine)
theorem q_l_in {c : Cp} {lot : (List Int)} {other : (List Int)} (h : ok_l_in lot other) : f__law_in [(tupE PyData.int) lot, (tupE PyData.int) other] c = .ok (PyData.bool (p_l_in lot other)) c := b_retF (g := PyData.bool) [.d ((tupE PyData.int) lot), .d ((tupE PyData.int) other), .no, .no] rfl (w_ret (pv_cmp (pv_ofA (pv_lcF (fun (own : Int) => (!decide (own ∈ other))) (pi_T (g := PyData.int) (l := lot) (ev_var rfl)) h fun own _ => ⟨[.d ((tupE PyData.int) lot), .d ((tupE PyData.int) other), .no, .d (PyData.int own)], rfl, (pt_cm (pv_cmp (ev_var rfl) (ev_var rfl) (cmp_ninT EOk.int))), fun _ => (ev_var rfl)⟩)) (pv_lst ev_nil (show 0 ≤ sizeLine by decide)) (cmp_eqE (EOk.lst EOk.int) (a := (lot.filter fun (own : Int) => (!decide (own ∈ other)))) (b := []))) rfl)
noncomputable def p_l_free (bars : (List (List Int))) (lot : (List Int)) : Bool := (decide (((bars.filter fun (bar : (List Int)) => (p_l_in bar lot)) : (List (List Int))) = []))
def ok_l_free (bars : (List (List Int))) (lot : (List Int)) : Prop := ((bars).length ≤ sizeLine) ∧ (∀ bar ∈ bars, (ok_l_in bar lot))
theorem q_l_free {c : Cp} {bars : (List (List Int))} {lot : (List Int)} (h : ok_l_free bars lot) : f__law_free [(tupE (tupE PyData.int)) bars, (tupE PyData.int) lot] c = .ok (PyData.bool (p_l_free bars lot)) c := b_retF (g := PyData.bool) [.d ((tupE (tupE PyData.int)) bars), .d ((tupE PyData.int) lot), .no, .no] rfl (w_ret (pv_cmp (pv_ofA (pv_lcF (fun (bar : (List Int)) => (p_l_in bar lot)) (pi_T (g := (tupE PyData.int)) (l := bars) (ev_var rfl)) h.1 fun bar h1 => ⟨[.d ((tupE (tupE PyData.int)) bars), .d ((tupE PyData.int) lot), .no, .d ((tupE PyData.int) bar)], rfl, (pt_of (pv_call (pv_cons (ev_var rfl) (pv_cons (ev_var rfl) ev_nil)) rfl (q_l_in (lot := bar) (other := lot) ((h.2 bar h1))))), fun _ => (ev_var rfl)⟩)) (pv_lst ev_nil (show 0 ≤ sizeLine by decide)) (cmp_eqE (EOk.lst (EOk.tup EOk.int)) (a := (bars.filter fun (bar : (List Int)) => (p_l_in bar lot))) (b := []))) rfl)
noncomputable def v_l_lots_found (many : Int) (s3 : (List (List Int))) (own : Int) : (List (List Int)) := (s3 ++ (s3.map fun (lot : (List Int)) => (lot ++ [own])))
noncomputable def v_l_lots_found' (many : Int) : (List (List Int)) := ((rgZ many).foldl (fun (s3 : (List (List Int))) (own : Int) => (v_l_lots_found many s3 own)) [[]])
noncomputable def p_l_lots (many : Int) : (List (List Int)) := (srtR (v_l_lots_found' many))
def ok_l_lots (many : Int) : Prop := (-(2 ^ 62) ≤ many ∧ many < 2 ^ 62) ∧ (okF (fun (s3 : (List (List Int))) (own : Int) => (v_l_lots_found many s3 own)) (fun (s3 : (List (List Int))) (own : Int) => ((s3).length ≤ sizeLine) ∧ (∀ lot ∈ s3, ((lot).length + ([own]).length ≤ sizeLine)) ∧ ((s3).length + ((s3.map fun (lot : (List Int)) => (lot ++ [own]))).length ≤ sizeLine)) [[]] (rgZ many))
theorem q_l_lots {c : Cp} {many : Int} (h : ok_l_lots many) : f__law_lots [PyData.int many] c = .ok ((lstE (tupE PyData.int)) (p_l_lots many)) c := b_retF (g := (lstE (tupE PyData.int))) [.d (PyData.int many), .no, .no, .no, .no] rfl (w_asg (d := (lstE (tupE PyData.int)) [[]]) (pv_lst (pv_cons (pv_tup ev_nil (show 0 ≤ sizeLine by decide)) ev_nil) (show 1 ≤ sizeLine by decide)) (w_fr [.d (PyData.int many), .d ((lstE (tupE PyData.int)) [[]]), .no, .no, .no] rfl (w_forU (fun (s3 : (List (List Int))) (j2 : Sl) => [.d (PyData.int many), .d ((lstE (tupE PyData.int)) s3), j2, .no, .no]) .no (fun (s3 : (List (List Int))) (own : Int) => (v_l_lots_found many s3 own)) (fun (s3 : (List (List Int))) (own : Int) => ((s3).length ≤ sizeLine) ∧ (∀ lot ∈ s3, ((lot).length + ([own]).length ≤ sizeLine)) ∧ ((s3).length + ((s3.map fun (lot : (List Int)) => (lot ++ [own]))).length ≤ sizeLine)) [[]] (pi_r1 (ev_var rfl) h.1) h.2 rfl (fun own s3 j2 h4 => ⟨[.d (PyData.int many), .d ((lstE (tupE PyData.int)) s3), .d (PyData.int own), .no, .no], rfl, (w_asg (d := (lstE (tupE PyData.int)) (v_l_lots_found many s3 own)) (pv_bin (ev_var rfl) (pv_ofA (pv_lcA (fun (lot : (List Int)) => (lot ++ [own])) (tupE PyData.int) (pi_L (g := (tupE PyData.int)) (l := s3) (ev_var rfl)) h4.1 fun lot h5 => ⟨[.d (PyData.int many), .d ((lstE (tupE PyData.int)) s3), .d (PyData.int own), .no, .d ((tupE PyData.int) lot)], rfl, (pv_bin (ev_var rfl) (pv_tup (pv_cons (ev_var rfl) ev_nil) (show 1 ≤ sizeLine by decide)) (bin_addT (g := PyData.int) ((h4.2.1 lot h5))))⟩)) (bin_addL (g := (tupE PyData.int)) h4.2.2)) (w_fr [.d (PyData.int many), .d ((lstE (tupE PyData.int)) (v_l_lots_found many s3 own)), .d (PyData.int own), .no, .no] rfl (w_nop ⟨rfl, .d (PyData.int own), rfl⟩)))⟩) (fun j2 => (w_ret (pv_srtR (ev_var rfl)) rfl)))))
noncomputable def p_l_least (lots : (List (List Int))) : (List (List Int)) := (ssR (lots.filter fun (lot : (List Int)) => (decide (((lots.filter fun (own : (List Int)) => ((!decide ((own : (List Int)) = lot)) && (p_l_in own lot))) : (List (List Int))) = []))))
def ok_l_least (lots : (List (List Int))) : Prop := ((lots).length ≤ sizeLine) ∧ (∀ lot ∈ lots, ((lots).length ≤ sizeLine) ∧ (∀ own ∈ lots, ((!decide ((own : (List Int)) = lot)) = true → (ok_l_in own lot)))) ∧ (((lots.filter fun (lot : (List Int)) => (decide (((lots.filter fun (own : (List Int)) => ((!decide ((own : (List Int)) = lot)) && (p_l_in own lot))) : (List (List Int))) = [])))).length < 64 ∧ ∀ k ∈ (lots.filter fun (lot : (List Int)) => (decide (((lots.filter fun (own : (List Int)) => ((!decide ((own : (List Int)) = lot)) && (p_l_in own lot))) : (List (List Int))) = []))), k.length ≤ sizeLine)
theorem q_l_least {c : Cp} {lots : (List (List Int))} (h : ok_l_least lots) : f__law_least [(lstE (tupE PyData.int)) lots] c = .ok ((tupE (tupE PyData.int)) (p_l_least lots)) c := b_retF (g := (tupE (tupE PyData.int))) [.d ((lstE (tupE PyData.int)) lots), .no, .no, .no] rfl (w_ret (pv_tupL (pv_ofA (pv_ssR (pv_ofA (pv_lcF (fun (lot : (List Int)) => (decide (((lots.filter fun (own : (List Int)) => ((!decide ((own : (List Int)) = lot)) && (p_l_in own lot))) : (List (List Int))) = []))) (pi_L (g := (tupE PyData.int)) (l := lots) (ev_var rfl)) h.1 fun lot h1 => ⟨[.d ((lstE (tupE PyData.int)) lots), .no, .d ((tupE PyData.int) lot), .no], rfl, (pt_cm (pv_cmp (pv_ofA (pv_lcF (fun (own : (List Int)) => ((!decide ((own : (List Int)) = lot)) && (p_l_in own lot))) (pi_L (g := (tupE PyData.int)) (l := lots) (ev_var rfl)) ((h.2.1 lot h1).1) fun own h3 => ⟨[.d ((lstE (tupE PyData.int)) lots), .no, .d ((tupE PyData.int) lot), .d ((tupE PyData.int) own)], rfl, (pt_an (pt_cm (pv_cmp (ev_var rfl) (ev_var rfl) (cmp_neE (EOk.tup EOk.int) (a := own) (b := lot)))) fun h5 => (pt_of (pv_call (pv_cons (ev_var rfl) (pv_cons (ev_var rfl) ev_nil)) rfl (q_l_in (lot := own) (other := lot) ((((h.2.1 lot h1).2 own h3) h5)))))), fun _ => (ev_var rfl)⟩)) (pv_lst ev_nil (show 0 ≤ sizeLine by decide)) (cmp_eqE (EOk.lst (EOk.tup EOk.int)) (a := (lots.filter fun (own : (List Int)) => ((!decide ((own : (List Int)) = lot)) && (p_l_in own lot)))) (b := [])))), fun _ => (ev_var rfl)⟩)) h.2.2))) rfl)
noncomputable def v_l_weighed_lots (weights : (List Int)) (goal : Int) : (List (List Int)) := (((p_l_lots (weights.length : Int)).drop 1).filter fun (lot : (List Int)) => decide (((lot.map fun (own : Int) => (gI weights own)).sum) ≥ goal))
noncomputable def p_l_weighed (weights : (List Int)) (goal : Int) : (List (List Int)) := (p_l_least (v_l_weighed_lots weights goal))
def ok_l_weighed (weights : (List Int)) (goal : Int) : Prop := (ok_l_lots (weights.length : Int)) ∧ ((((p_l_lots (weights.length : Int)).drop 1)).length ≤ sizeLine) ∧ (∀ lot ∈ ((p_l_lots (weights.length : Int)).drop 1), ((lot).length ≤ sizeLine) ∧ (∀ own ∈ lot, (0 ≤ own ∧ own < ((weights).length : Int)))) ∧ (ok_l_least (v_l_weighed_lots weights goal))
theorem q_l_weighed {c : Cp} {weights : (List Int)} {goal : Int} (h : ok_l_weighed weights goal) : f__law_weighed [(lstE PyData.int) weights, PyData.int goal] c = .ok ((tupE (tupE PyData.int)) (p_l_weighed weights goal)) c := b_retF (g := (tupE (tupE PyData.int))) [.d ((lstE PyData.int) weights), .d (PyData.int goal), .no, .no, .no, .no] rfl (w_asg (d := (lstE (tupE PyData.int)) (v_l_weighed_lots weights goal)) (pv_ofA (pv_lcF (fun (lot : (List Int)) => decide (((lot.map fun (own : Int) => (gI weights own)).sum) ≥ goal)) (pi_L (g := (tupE PyData.int)) (l := ((p_l_lots (weights.length : Int)).drop 1)) (pv_tailL (pv_call (pv_cons (pv_lenL (g := PyData.int) (ev_var rfl)) ev_nil) rfl (q_l_lots (many := (weights.length : Int)) h.1)))) h.2.1 fun lot h2 => ⟨[.d ((lstE PyData.int) weights), .d (PyData.int goal), .no, .no, .d ((tupE PyData.int) lot), .no], rfl, (pt_cm (pv_cmp (pv_sum (pv_ofA (pv_lcA (fun (own : Int) => (gI weights own)) PyData.int (pi_T (g := PyData.int) (l := lot) (ev_var rfl)) ((h.2.2.1 lot h2).1) fun own h4 => ⟨[.d ((lstE PyData.int) weights), .d (PyData.int goal), .no, .no, .d ((tupE PyData.int) lot), .d (PyData.int own)], rfl, (pv_ixL (g := PyData.int) (ev_var rfl) (ev_var rfl) (((h.2.2.1 lot h2).2 own h4)))⟩))) (ev_var rfl) cmp_ge_i)), fun _ => (ev_var rfl)⟩)) (w_fr [.d ((lstE PyData.int) weights), .d (PyData.int goal), .d ((lstE (tupE PyData.int)) (v_l_weighed_lots weights goal)), .no, .no, .no] rfl (w_ret (pv_call (pv_cons (ev_var rfl) ev_nil) rfl (q_l_least (lots := (v_l_weighed_lots weights goal)) h.2.2.2)) rfl)))
noncomputable def v_l_outweighs_lots (bars : (List (List Int))) (one : Int) (other : Int) : (List (List Int)) := ((bars.filter fun (bar : (List Int)) => ((decide (other ∈ bar)) && (!decide (one ∈ bar)))).map fun (bar : (List Int)) => ((bar.filter fun (own : Int) => (!decide ((own : Int) = other))) ++ [one]))
noncomputable def p_l_outweighs (bars : (List (List Int))) (one : Int) (other : Int) : Bool := (decide ((((v_l_outweighs_lots bars one other).filter fun (lot : (List Int)) => (p_l_free bars lot)) : (List (List Int))) = []))
def ok_l_outweighs (bars : (List (List Int))) (one : Int) (other : Int) : Prop := ((bars).length ≤ sizeLine) ∧ (∀ bar ∈ bars, (((decide (other ∈ bar)) && (!decide (one ∈ bar))) = true → ((bar).length ≤ sizeLine) ∧ (((bar.filter fun (own : Int) => (!decide ((own : Int) = other)))).length + ([one]).length ≤ sizeLine))) ∧ (((v_l_outweighs_lots bars one other)).length ≤ sizeLine) ∧ (∀ lot ∈ (v_l_outweighs_lots bars one other), (ok_l_free bars lot))
theorem q_l_outweighs {c : Cp} {bars : (List (List Int))} {one : Int} {other : Int} (h : ok_l_outweighs bars one other) : f__law_outweighs [(tupE (tupE PyData.int)) bars, PyData.int one, PyData.int other] c = .ok (PyData.bool (p_l_outweighs bars one other)) c := b_retF (g := PyData.bool) [.d ((tupE (tupE PyData.int)) bars), .d (PyData.int one), .d (PyData.int other), .no, .no, .no, .no, .no] rfl (w_asg (d := (lstE (tupE PyData.int)) (v_l_outweighs_lots bars one other)) (pv_ofA (pv_lc (fun (bar : (List Int)) => ((decide (other ∈ bar)) && (!decide (one ∈ bar)))) (fun (bar : (List Int)) => ((bar.filter fun (own : Int) => (!decide ((own : Int) = other))) ++ [one])) (tupE PyData.int) (pi_T (g := (tupE PyData.int)) (l := bars) (ev_var rfl)) h.1 fun bar h1 => ⟨[.d ((tupE (tupE PyData.int)) bars), .d (PyData.int one), .d (PyData.int other), .no, .no, .d ((tupE PyData.int) bar), .no, .no], rfl, (pt_an (pt_cm (pv_cmp (ev_var rfl) (ev_var rfl) (cmp_inT EOk.int))) fun _ => (pt_cm (pv_cmp (ev_var rfl) (ev_var rfl) (cmp_ninT EOk.int)))), fun h2 => (pv_bin (pv_tupL (pv_ofA (pv_lcF (fun (own : Int) => (!decide ((own : Int) = other))) (pi_T (g := PyData.int) (l := bar) (ev_var rfl)) (((h.2.1 bar h1) h2).1) fun own _ => ⟨[.d ((tupE (tupE PyData.int)) bars), .d (PyData.int one), .d (PyData.int other), .no, .no, .d ((tupE PyData.int) bar), .d (PyData.int own), .no], rfl, (pt_cm (pv_cmp (ev_var rfl) (ev_var rfl) (cmp_neE EOk.int (a := own) (b := other)))), fun _ => (ev_var rfl)⟩))) (pv_tup (pv_cons (ev_var rfl) ev_nil) (show 1 ≤ sizeLine by decide)) (bin_addT (g := PyData.int) (((h.2.1 bar h1) h2).2)))⟩)) (w_fr [.d ((tupE (tupE PyData.int)) bars), .d (PyData.int one), .d (PyData.int other), .d ((lstE (tupE PyData.int)) (v_l_outweighs_lots bars one other)), .no, .no, .no, .no] rfl (w_ret (pv_cmp (pv_ofA (pv_lcF (fun (lot : (List Int)) => (p_l_free bars lot)) (pi_L (g := (tupE PyData.int)) (l := (v_l_outweighs_lots bars one other)) (ev_var rfl)) h.2.2.1 fun lot h9 => ⟨[.d ((tupE (tupE PyData.int)) bars), .d (PyData.int one), .d (PyData.int other), .d ((lstE (tupE PyData.int)) (v_l_outweighs_lots bars one other)), .no, .no, .no, .d ((tupE PyData.int) lot)], rfl, (pt_of (pv_call (pv_cons (ev_var rfl) (pv_cons (ev_var rfl) ev_nil)) rfl (q_l_free (bars := bars) (lot := lot) ((h.2.2.2 lot h9))))), fun _ => (ev_var rfl)⟩)) (pv_lst ev_nil (show 0 ≤ sizeLine by decide)) (cmp_eqE (EOk.lst (EOk.tup EOk.int)) (a := ((v_l_outweighs_lots bars one other).filter fun (lot : (List Int)) => (p_l_free bars lot))) (b := []))) rfl)))
noncomputable def p_l_beside (one : (List (List Int))) (other : (List (List Int))) (many : Int) : (List (List Int)) := (srtR (one ++ (other.map fun (bar : (List Int)) => (bar.map fun (own : Int) => (own + many)))))
def ok_l_beside (one : (List (List Int))) (other : (List (List Int))) (many : Int) : Prop := ((other).length ≤ sizeLine) ∧ (∀ bar ∈ other, ((bar).length ≤ sizeLine)) ∧ ((one).length + ((other.map fun (bar : (List Int)) => (bar.map fun (own : Int) => (own + many)))).length ≤ sizeLine)
theorem q_l_beside {c : Cp} {one : (List (List Int))} {other : (List (List Int))} {many : Int} (h : ok_l_beside one other many) : f__law_beside [(tupE (tupE PyData.int)) one, (tupE (tupE PyData.int)) other, PyData.int many] c = .ok ((tupE (tupE PyData.int)) (p_l_beside one other many)) c := b_retF (g := (tupE (tupE PyData.int))) [.d ((tupE (tupE PyData.int)) one), .d ((tupE (tupE PyData.int)) other), .d (PyData.int many), .no, .no, .no] rfl (w_ret (pv_tupL (pv_srtR (pv_bin (pv_lstT (ev_var rfl)) (pv_ofA (pv_lcA (fun (bar : (List Int)) => (bar.map fun (own : Int) => (own + many))) (tupE PyData.int) (pi_T (g := (tupE PyData.int)) (l := other) (ev_var rfl)) h.1 fun bar h1 => ⟨[.d ((tupE (tupE PyData.int)) one), .d ((tupE (tupE PyData.int)) other), .d (PyData.int many), .no, .d ((tupE PyData.int) bar), .no], rfl, (pv_tupL (pv_ofA (pv_lcA (fun (own : Int) => (own + many)) PyData.int (pi_T (g := PyData.int) (l := bar) (ev_var rfl)) ((h.2.1 bar h1)) fun own _ => ⟨[.d ((tupE (tupE PyData.int)) one), .d ((tupE (tupE PyData.int)) other), .d (PyData.int many), .no, .d ((tupE PyData.int) bar), .d (PyData.int own)], rfl, (pv_bin (ev_var rfl) (ev_var rfl) bin_addI)⟩)))⟩)) (bin_addL (g := (tupE PyData.int)) h.2.2)))) rfl)
def p_l_sort_rr (value : List (List Int)) : Int := 4
theorem q_l_sort_rr {c : Cp} {value : List (List Int)} : f__law_sort [tupE (tupE PyData.int) value] c = .ok (.int (p_l_sort_rr value)) c := rfl
noncomputable def v_l_right_table (many : Int) (bars : (List (List Int))) : (List (List Bool)) := ((rgZ many).map fun (one : Int) => ((rgZ many).map fun (other : Int) => (p_l_outweighs bars one other)))
noncomputable def v_l_right_apart (many : Int) (bars : (List (List Int))) (s12 : (List (List Int))) (one : Int) : (List (List Int)) := (s12 ++ (((rg2 (one + (1 : Int)) many).filter fun (other : Int) => ((!(gI (gI (v_l_right_table many bars) one) other)) && (!(gI (gI (v_l_right_table many bars) other) one)))).map fun (other : Int) => [one, other]))
noncomputable def v_l_right_apart' (many : Int) (bars : (List (List Int))) : (List (List Int)) := ((rgZ many).foldl (fun (s12 : (List (List Int))) (one : Int) => (v_l_right_apart many bars s12 one)) [])
noncomputable def v_l_right_steps (many : Int) (bars : (List (List Int))) : (List (List Int)) := (p_ladder_steps many bars)
noncomputable def v_l_right_lots (many : Int) (bars : (List (List Int))) : (List (List Int)) := (ssR ((rgZ many).map fun (own : Int) => ((rgZ many).filter fun (far : Int) => ((gI (gI (v_l_right_table many bars) own) far) && (gI (gI (v_l_right_table many bars) far) own)))))
noncomputable def v_l_right_wrong (many : Int) (bars : (List (List Int))) : (List Int) := ((rgZ (((v_l_right_steps many bars).length : Int) - (1 : Int))).filter fun (at_ : Int) => ((!(gI (gI (v_l_right_table many bars) (gI (gI (v_l_right_steps many bars) (at_ + (1 : Int))) (0 : Int))) (gI (gI (v_l_right_steps many bars) at_) (0 : Int)))) || (gI (gI (v_l_right_table many bars) (gI (gI (v_l_right_steps many bars) at_) (0 : Int))) (gI (gI (v_l_right_steps many bars) (at_ + (1 : Int))) (0 : Int)))))
noncomputable def p_l_right (many : Int) (bars : (List (List Int))) : Bool := (bif (!decide (((v_l_right_apart' many bars) : (List (List Int))) = [])) then (decide ((("found" : Str) : Str) = ("found" : Str))) else (decide (((v_l_right_wrong many bars) : (List Int)) = [])))
def ok_l_right (many : Int) (bars : (List (List Int))) : Prop := (-(2 ^ 62) ≤ many ∧ many < 2 ^ 62) ∧ (((rgZ many)).length ≤ sizeLine) ∧ (∀ one ∈ (rgZ many), (-(2 ^ 62) ≤ many ∧ many < 2 ^ 62) ∧ (((rgZ many)).length ≤ sizeLine) ∧ (∀ other ∈ (rgZ many), (ok_l_outweighs bars one other))) ∧ (-(2 ^ 62) ≤ many ∧ many < 2 ^ 62) ∧ (okF (fun (s12 : (List (List Int))) (one : Int) => (v_l_right_apart many bars s12 one)) (fun (s12 : (List (List Int))) (one : Int) => (-(2 ^ 62) ≤ (one + (1 : Int)) ∧ (one + (1 : Int)) < 2 ^ 62 ∧ -(2 ^ 62) ≤ many ∧ many < 2 ^ 62) ∧ (((rg2 (one + (1 : Int)) many)).length ≤ sizeLine) ∧ (∀ other ∈ (rg2 (one + (1 : Int)) many), (0 ≤ one ∧ one < (((v_l_right_table many bars)).length : Int)) ∧ (0 ≤ other ∧ other < (((gI (v_l_right_table many bars) one)).length : Int)) ∧ ((!(gI (gI (v_l_right_table many bars) one) other)) = true → (0 ≤ other ∧ other < (((v_l_right_table many bars)).length : Int)) ∧ (0 ≤ one ∧ one < (((gI (v_l_right_table many bars) other)).length : Int)))) ∧ ((s12).length + ((((rg2 (one + (1 : Int)) many).filter fun (other : Int) => ((!(gI (gI (v_l_right_table many bars) one) other)) && (!(gI (gI (v_l_right_table many bars) other) one)))).map fun (other : Int) => [one, other])).length ≤ sizeLine)) [] (rgZ many)) ∧ (ok_is_ladder many bars) ∧ (ok_ladder_bar many bars) ∧ ((!decide (((v_l_right_apart' many bars) : (List (List Int))) = [])) = true → (0 ≤ (0 : Int) ∧ (0 : Int) < (((v_l_right_apart' many bars)).length : Int))) ∧ ((((p_is_ladder many bars), (p_ladder_bar many bars)) : (Bool × (Option (List Int)))) = ((decide (((v_l_right_apart' many bars) : (List (List Int))) = [])), (bif (!decide (((v_l_right_apart' many bars) : (List (List Int))) = [])) then (some (gI (v_l_right_apart' many bars) (0 : Int))) else none)) ∧ Lk 12 ((q2 PyData.bool (optE (tupE PyData.int))) ((p_is_ladder many bars), (p_ladder_bar many bars)))) ∧ ((!true) = false) ∧ ((!decide (((v_l_right_apart' many bars) : (List (List Int))) = [])) = true → (∀ c, f_ladder_steps [PyData.int many, (tupE (tupE PyData.int)) bars] c = .err "NotFound" c)) ∧ ((!decide (((v_l_right_apart' many bars) : (List (List Int))) = [])) = false → (ok_ladder_steps many bars) ∧ (-(2 ^ 62) ≤ many ∧ many < 2 ^ 62) ∧ (((rgZ many)).length ≤ sizeLine) ∧ (∀ own ∈ (rgZ many), (-(2 ^ 62) ≤ many ∧ many < 2 ^ 62) ∧ (((rgZ many)).length ≤ sizeLine) ∧ (∀ far ∈ (rgZ many), (0 ≤ own ∧ own < (((v_l_right_table many bars)).length : Int)) ∧ (0 ≤ far ∧ far < (((gI (v_l_right_table many bars) own)).length : Int)) ∧ ((gI (gI (v_l_right_table many bars) own) far) = true → (0 ≤ far ∧ far < (((v_l_right_table many bars)).length : Int)) ∧ (0 ≤ own ∧ own < (((gI (v_l_right_table many bars) far)).length : Int))))) ∧ ((((rgZ many).map fun (own : Int) => ((rgZ many).filter fun (far : Int) => ((gI (gI (v_l_right_table many bars) own) far) && (gI (gI (v_l_right_table many bars) far) own))))).length < 64 ∧ ∀ k ∈ ((rgZ many).map fun (own : Int) => ((rgZ many).filter fun (far : Int) => ((gI (gI (v_l_right_table many bars) own) far) && (gI (gI (v_l_right_table many bars) far) own)))), k.length ≤ sizeLine) ∧ (((!decide (((srtR (v_l_right_steps many bars)) : (List (List Int))) = (v_l_right_lots many bars))) || (!decide (((p_l_sort_rr (v_l_right_steps many bars)) : Int) = (4 : Int)))) = false) ∧ (-(2 ^ 62) ≤ (((v_l_right_steps many bars).length : Int) - (1 : Int)) ∧ (((v_l_right_steps many bars).length : Int) - (1 : Int)) < 2 ^ 62) ∧ (((rgZ (((v_l_right_steps many bars).length : Int) - (1 : Int)))).length ≤ sizeLine) ∧ (∀ at_ ∈ (rgZ (((v_l_right_steps many bars).length : Int) - (1 : Int))), (0 ≤ (at_ + (1 : Int)) ∧ (at_ + (1 : Int)) < (((v_l_right_steps many bars)).length : Int)) ∧ (0 ≤ (0 : Int) ∧ (0 : Int) < (((gI (v_l_right_steps many bars) (at_ + (1 : Int)))).length : Int)) ∧ (0 ≤ (gI (gI (v_l_right_steps many bars) (at_ + (1 : Int))) (0 : Int)) ∧ (gI (gI (v_l_right_steps many bars) (at_ + (1 : Int))) (0 : Int)) < (((v_l_right_table many bars)).length : Int)) ∧ (0 ≤ at_ ∧ at_ < (((v_l_right_steps many bars)).length : Int)) ∧ (0 ≤ (0 : Int) ∧ (0 : Int) < (((gI (v_l_right_steps many bars) at_)).length : Int)) ∧ (0 ≤ (gI (gI (v_l_right_steps many bars) at_) (0 : Int)) ∧ (gI (gI (v_l_right_steps many bars) at_) (0 : Int)) < (((gI (v_l_right_table many bars) (gI (gI (v_l_right_steps many bars) (at_ + (1 : Int))) (0 : Int)))).length : Int)) ∧ ((!(gI (gI (v_l_right_table many bars) (gI (gI (v_l_right_steps many bars) (at_ + (1 : Int))) (0 : Int))) (gI (gI (v_l_right_steps many bars) at_) (0 : Int)))) = false → (0 ≤ at_ ∧ at_ < (((v_l_right_steps many bars)).length : Int)) ∧ (0 ≤ (0 : Int) ∧ (0 : Int) < (((gI (v_l_right_steps many bars) at_)).length : Int)) ∧ (0 ≤ (gI (gI (v_l_right_steps many bars) at_) (0 : Int)) ∧ (gI (gI (v_l_right_steps many bars) at_) (0 : Int)) < (((v_l_right_table many bars)).length : Int)) ∧ (0 ≤ (at_ + (1 : Int)) ∧ (at_ + (1 : Int)) < (((v_l_right_steps many bars)).length : Int)) ∧ (0 ≤ (0 : Int) ∧ (0 : Int) < (((gI (v_l_right_steps many bars) (at_ + (1 : Int)))).length : Int)) ∧ (0 ≤ (gI (gI (v_l_right_steps many bars) (at_ + (1 : Int))) (0 : Int)) ∧ (gI (gI (v_l_right_steps many bars) (at_ + (1 : Int))) (0 : Int)) < (((gI (v_l_right_table many bars) (gI (gI (v_l_right_steps many bars) at_) (0 : Int)))).length : Int)))))
theorem q_l_right {c : Cp} {many : Int} {bars : (List (List Int))} (h : ok_l_right many bars) : f__law_right [PyData.int many, (tupE (tupE PyData.int)) bars] c = .ok (PyData.bool (p_l_right many bars)) c := b_retF (g := PyData.bool) [.d (PyData.int many), .d ((tupE (tupE PyData.int)) bars), .no, .no, .no, .no, .no, .no, .no, .no, .no, .no, .no] rfl (w_asg (d := (lstE (lstE PyData.bool)) (v_l_right_table many bars)) (pv_ofA (pv_lcA (fun (one : Int) => ((rgZ many).map fun (other : Int) => (p_l_outweighs bars one other))) (lstE PyData.bool) (pi_r1 (ev_var rfl) h.1) h.2.1 fun one h2 => ⟨[.d (PyData.int many), .d ((tupE (tupE PyData.int)) bars), .d (PyData.int one), .no, .no, .no, .no, .no, .no, .no, .no, .no, .no], rfl, (pv_ofA (pv_lcA (fun (other : Int) => (p_l_outweighs bars one other)) PyData.bool (pi_r1 (ev_var rfl) ((h.2.2.1 one h2).1)) ((h.2.2.1 one h2).2.1) fun other h5 => ⟨[.d (PyData.int many), .d ((tupE (tupE PyData.int)) bars), .d (PyData.int one), .no, .no, .no, .no, .no, .no, .d (PyData.int other), .no, .no, .no], rfl, (pv_call (pv_cons (ev_var rfl) (pv_cons (ev_var rfl) (pv_cons (ev_var rfl) ev_nil))) rfl (q_l_outweighs (bars := bars) (one := one) (other := other) (((h.2.2.1 one h2).2.2 other h5))))⟩))⟩)) (w_fr [.d (PyData.int many), .d ((tupE (tupE PyData.int)) bars), .no, .d ((lstE (lstE PyData.bool)) (v_l_right_table many bars)), .no, .no, .no, .no, .no, .no, .no, .no, .no] rfl (w_asg (d := (lstE (tupE PyData.int)) []) (pv_lst ev_nil (show 0 ≤ sizeLine by decide)) (w_fr [.d (PyData.int many), .d ((tupE (tupE PyData.int)) bars), .no, .d ((lstE (lstE PyData.bool)) (v_l_right_table many bars)), .d ((lstE (tupE PyData.int)) []), .no, .no, .no, .no, .no, .no, .no, .no] rfl (w_forU (fun (s12 : (List (List Int))) (j11 : Sl) => [.d (PyData.int many), .d ((tupE (tupE PyData.int)) bars), j11, .d ((lstE (lstE PyData.bool)) (v_l_right_table many bars)), .d ((lstE (tupE PyData.int)) s12), .no, .no, .no, .no, .no, .no, .no, .no]) .no (fun (s12 : (List (List Int))) (one : Int) => (v_l_right_apart many bars s12 one)) (fun (s12 : (List (List Int))) (one : Int) => (-(2 ^ 62) ≤ (one + (1 : Int)) ∧ (one + (1 : Int)) < 2 ^ 62 ∧ -(2 ^ 62) ≤ many ∧ many < 2 ^ 62) ∧ (((rg2 (one + (1 : Int)) many)).length ≤ sizeLine) ∧ (∀ other ∈ (rg2 (one + (1 : Int)) many), (0 ≤ one ∧ one < (((v_l_right_table many bars)).length : Int)) ∧ (0 ≤ other ∧ other < (((gI (v_l_right_table many bars) one)).length : Int)) ∧ ((!(gI (gI (v_l_right_table many bars) one) other)) = true → (0 ≤ other ∧ other < (((v_l_right_table many bars)).length : Int)) ∧ (0 ≤ one ∧ one < (((gI (v_l_right_table many bars) other)).length : Int)))) ∧ ((s12).length + ((((rg2 (one + (1 : Int)) many).filter fun (other : Int) => ((!(gI (gI (v_l_right_table many bars) one) other)) && (!(gI (gI (v_l_right_table many bars) other) one)))).map fun (other : Int) => [one, other])).length ≤ sizeLine)) [] (pi_r1 (ev_var rfl) h.2.2.2.1) h.2.2.2.2.1 rfl (fun one s12 j11 h13 => ⟨[.d (PyData.int many), .d ((tupE (tupE PyData.int)) bars), .d (PyData.int one), .d ((lstE (lstE PyData.bool)) (v_l_right_table many bars)), .d ((lstE (tupE PyData.int)) s12), .no, .no, .no, .no, .no, .no, .no, .no], rfl, (w_asg (d := (lstE (tupE PyData.int)) (v_l_right_apart many bars s12 one)) (pv_bin (ev_var rfl) (pv_ofA (pv_lc (fun (other : Int) => ((!(gI (gI (v_l_right_table many bars) one) other)) && (!(gI (gI (v_l_right_table many bars) other) one)))) (fun (other : Int) => [one, other]) (tupE PyData.int) (pi_r2 (pv_bin (ev_var rfl) ev_cst bin_addI) (ev_var rfl) h13.1) h13.2.1 fun other h15 => ⟨[.d (PyData.int many), .d ((tupE (tupE PyData.int)) bars), .d (PyData.int one), .d ((lstE (lstE PyData.bool)) (v_l_right_table many bars)), .d ((lstE (tupE PyData.int)) s12), .no, .no, .no, .no, .d (PyData.int other), .no, .no, .no], rfl, (pt_an (pt_no (pt_of (pv_ixL (g := PyData.bool) (pv_ixL (g := (lstE PyData.bool)) (ev_var rfl) (ev_var rfl) ((h13.2.2.1 other h15).1)) (ev_var rfl) ((h13.2.2.1 other h15).2.1)))) fun h19 => (pt_no (pt_of (pv_ixL (g := PyData.bool) (pv_ixL (g := (lstE PyData.bool)) (ev_var rfl) (ev_var rfl) (((h13.2.2.1 other h15).2.2 h19).1)) (ev_var rfl) (((h13.2.2.1 other h15).2.2 h19).2))))), fun _ => (pv_tup (pv_cons (ev_var rfl) (pv_cons (ev_var rfl) ev_nil)) (show 2 ≤ sizeLine by decide))⟩)) (bin_addL (g := (tupE PyData.int)) h13.2.2.2)) (w_fr [.d (PyData.int many), .d ((tupE (tupE PyData.int)) bars), .d (PyData.int one), .d ((lstE (lstE PyData.bool)) (v_l_right_table many bars)), .d ((lstE (tupE PyData.int)) (v_l_right_apart many bars s12 one)), .no, .no, .no, .no, .no, .no, .no, .no] rfl (w_nop ⟨rfl, .d (PyData.int one), rfl⟩)))⟩) (fun j11 => (w_iff (pt_no (pt_of (pv_call (pv_cons (pv_lst (pv_cons (pv_call (pv_cons (ev_var rfl) (pv_cons (ev_var rfl) ev_nil)) rfl (q_is_ladder (papers := many) (bars := bars) h.2.2.2.2.2.1)) (pv_cons (pv_call (pv_cons (ev_var rfl) (pv_cons (ev_var rfl) ev_nil)) rfl (q_ladder_bar (papers := many) (bars := bars) h.2.2.2.2.2.2.1)) ev_nil)) (show 2 ≤ sizeLine by decide)) (pv_cons (pv_lst (pv_cons (pv_cmp (ev_var rfl) (pv_lst ev_nil (show 0 ≤ sizeLine by decide)) (cmp_eqE (EOk.lst (EOk.tup EOk.int)) (a := (v_l_right_apart' many bars)) (b := []))) (pv_cons (pv_ite (g := (optE (tupE PyData.int))) (A := (some (gI (v_l_right_apart' many bars) (0 : Int)))) (B := none) (pt_cm (pv_cmp (ev_var rfl) (pv_lst ev_nil (show 0 ≤ sizeLine by decide)) (cmp_neE (EOk.lst (EOk.tup EOk.int)) (a := (v_l_right_apart' many bars)) (b := [])))) (fun h26 => (pv_ixL (g := (tupE PyData.int)) (ev_var rfl) ev_cst ((h.2.2.2.2.2.2.2.1 h26)))) (fun _ => ev_cst)) ev_nil)) (show 2 ≤ sizeLine by decide)) ev_nil)) rfl (q_like (g := (q2 PyData.bool (optE (tupE PyData.int)))) (a := ((p_is_ladder many bars), (p_ladder_bar many bars))) (b := ((decide (((v_l_right_apart' many bars) : (List (List Int))) = [])), (bif (!decide (((v_l_right_apart' many bars) : (List (List Int))) = [])) then (some (gI (v_l_right_apart' many bars) (0 : Int))) else none))) h.2.2.2.2.2.2.2.2.1)))) h.2.2.2.2.2.2.2.2.2.1 (w_if (RetK PyData.bool) (pt_cm (pv_cmp (ev_var rfl) (pv_lst ev_nil (show 0 ≤ sizeLine by decide)) (cmp_neE (EOk.lst (EOk.tup EOk.int)) (a := (v_l_right_apart' many bars)) (b := [])))) (fun h31 => (w_assoc (w_ret (pv_cmp (pv_err (by decide +kernel) (pv_callE (pv_cons (ev_var rfl) (pv_cons (ev_var rfl) ev_nil)) rfl (((h.2.2.2.2.2.2.2.2.2.2.1 h31)) c))) ev_cst (cmp_eqS (by decide +kernel) (by decide +kernel))) rfl))) (fun h32 => (w_nops (w_asg (d := (tupE (tupE PyData.int)) (v_l_right_steps many bars)) (pv_call (pv_cons (ev_var rfl) (pv_cons (ev_var rfl) ev_nil)) rfl (q_ladder_steps (papers := many) (bars := bars) ((h.2.2.2.2.2.2.2.2.2.2.2 h32).1))) (w_fr [.d (PyData.int many), .d ((tupE (tupE PyData.int)) bars), j11, .d ((lstE (lstE PyData.bool)) (v_l_right_table many bars)), .d ((lstE (tupE PyData.int)) (v_l_right_apart' many bars)), .d ((tupE (tupE PyData.int)) (v_l_right_steps many bars)), .no, .no, .no, .no, .no, .no, .no] rfl (w_asg (d := (lstE (tupE PyData.int)) (v_l_right_lots many bars)) (pv_ofA (pv_ssR (pv_ofA (pv_lcA (fun (own : Int) => ((rgZ many).filter fun (far : Int) => ((gI (gI (v_l_right_table many bars) own) far) && (gI (gI (v_l_right_table many bars) far) own)))) (tupE PyData.int) (pi_r1 (ev_var rfl) ((h.2.2.2.2.2.2.2.2.2.2.2 h32).2.1)) ((h.2.2.2.2.2.2.2.2.2.2.2 h32).2.2.1) fun own h36 => ⟨[.d (PyData.int many), .d ((tupE (tupE PyData.int)) bars), strictS j11, .d ((lstE (lstE PyData.bool)) (v_l_right_table many bars)), .d ((lstE (tupE PyData.int)) (v_l_right_apart' many bars)), .d ((tupE (tupE PyData.int)) (v_l_right_steps many bars)), .no, .no, .no, .no, .d (PyData.int own), .no, .no], rfl, (pv_tupL (pv_ofA (pv_lcF (fun (far : Int) => ((gI (gI (v_l_right_table many bars) own) far) && (gI (gI (v_l_right_table many bars) far) own))) (pi_r1 (ev_var rfl) (((h.2.2.2.2.2.2.2.2.2.2.2 h32).2.2.2.1 own h36).1)) (((h.2.2.2.2.2.2.2.2.2.2.2 h32).2.2.2.1 own h36).2.1) fun far h39 => ⟨[.d (PyData.int many), .d ((tupE (tupE PyData.int)) bars), strictS j11, .d ((lstE (lstE PyData.bool)) (v_l_right_table many bars)), .d ((lstE (tupE PyData.int)) (v_l_right_apart' many bars)), .d ((tupE (tupE PyData.int)) (v_l_right_steps many bars)), .no, .no, .no, .no, .d (PyData.int own), .d (PyData.int far), .no], rfl, (pt_an (pt_of (pv_ixL (g := PyData.bool) (pv_ixL (g := (lstE PyData.bool)) (ev_var rfl) (ev_var rfl) ((((h.2.2.2.2.2.2.2.2.2.2.2 h32).2.2.2.1 own h36).2.2 far h39).1)) (ev_var rfl) ((((h.2.2.2.2.2.2.2.2.2.2.2 h32).2.2.2.1 own h36).2.2 far h39).2.1))) fun h43 => (pt_of (pv_ixL (g := PyData.bool) (pv_ixL (g := (lstE PyData.bool)) (ev_var rfl) (ev_var rfl) (((((h.2.2.2.2.2.2.2.2.2.2.2 h32).2.2.2.1 own h36).2.2 far h39).2.2 h43).1)) (ev_var rfl) (((((h.2.2.2.2.2.2.2.2.2.2.2 h32).2.2.2.1 own h36).2.2 far h39).2.2 h43).2)))), fun _ => (ev_var rfl)⟩)))⟩)) ((h.2.2.2.2.2.2.2.2.2.2.2 h32).2.2.2.2.1))) (w_fr [.d (PyData.int many), .d ((tupE (tupE PyData.int)) bars), j11, .d ((lstE (lstE PyData.bool)) (v_l_right_table many bars)), .d ((lstE (tupE PyData.int)) (v_l_right_apart' many bars)), .d ((tupE (tupE PyData.int)) (v_l_right_steps many bars)), .d ((lstE (tupE PyData.int)) (v_l_right_lots many bars)), .no, .no, .no, .no, .no, .no] rfl (w_iff (pt_or (pt_cm (pv_cmp (pv_srtRT (ev_var rfl)) (ev_var rfl) (cmp_neE (EOk.lst (EOk.tup EOk.int)) (a := (srtR (v_l_right_steps many bars))) (b := (v_l_right_lots many bars))))) fun _ => (pt_cm (pv_cmp (pv_call (pv_cons (ev_var rfl) ev_nil) rfl (q_l_sort_rr (value := (v_l_right_steps many bars)))) ev_cst (cmp_neE EOk.int (a := (p_l_sort_rr (v_l_right_steps many bars))) (b := (4 : Int)))))) ((h.2.2.2.2.2.2.2.2.2.2.2 h32).2.2.2.2.2.1) (w_asg (d := (lstE PyData.int) (v_l_right_wrong many bars)) (pv_ofA (pv_lcF (fun (at_ : Int) => ((!(gI (gI (v_l_right_table many bars) (gI (gI (v_l_right_steps many bars) (at_ + (1 : Int))) (0 : Int))) (gI (gI (v_l_right_steps many bars) at_) (0 : Int)))) || (gI (gI (v_l_right_table many bars) (gI (gI (v_l_right_steps many bars) at_) (0 : Int))) (gI (gI (v_l_right_steps many bars) (at_ + (1 : Int))) (0 : Int))))) (pi_r1 (pv_bin (pv_lenT (g := (tupE PyData.int)) (ev_var rfl)) ev_cst bin_subI) ((h.2.2.2.2.2.2.2.2.2.2.2 h32).2.2.2.2.2.2.1)) ((h.2.2.2.2.2.2.2.2.2.2.2 h32).2.2.2.2.2.2.2.1) fun at_ h52 => ⟨[.d (PyData.int many), .d ((tupE (tupE PyData.int)) bars), strictS j11, .d ((lstE (lstE PyData.bool)) (v_l_right_table many bars)), .d ((lstE (tupE PyData.int)) (v_l_right_apart' many bars)), .d ((tupE (tupE PyData.int)) (v_l_right_steps many bars)), .d ((lstE (tupE PyData.int)) (v_l_right_lots many bars)), .no, .no, .no, .no, .no, .d (PyData.int at_)], rfl, (pt_or (pt_no (pt_of (pv_ixL (g := PyData.bool) (pv_ixL (g := (lstE PyData.bool)) (ev_var rfl) (pv_ixT (g := PyData.int) (pv_ixT (g := (tupE PyData.int)) (ev_var rfl) (pv_bin (ev_var rfl) ev_cst bin_addI) (((h.2.2.2.2.2.2.2.2.2.2.2 h32).2.2.2.2.2.2.2.2 at_ h52).1)) ev_cst (((h.2.2.2.2.2.2.2.2.2.2.2 h32).2.2.2.2.2.2.2.2 at_ h52).2.1)) (((h.2.2.2.2.2.2.2.2.2.2.2 h32).2.2.2.2.2.2.2.2 at_ h52).2.2.1)) (pv_ixT (g := PyData.int) (pv_ixT (g := (tupE PyData.int)) (ev_var rfl) (ev_var rfl) (((h.2.2.2.2.2.2.2.2.2.2.2 h32).2.2.2.2.2.2.2.2 at_ h52).2.2.2.1)) ev_cst (((h.2.2.2.2.2.2.2.2.2.2.2 h32).2.2.2.2.2.2.2.2 at_ h52).2.2.2.2.1)) (((h.2.2.2.2.2.2.2.2.2.2.2 h32).2.2.2.2.2.2.2.2 at_ h52).2.2.2.2.2.1)))) fun h60 => (pt_of (pv_ixL (g := PyData.bool) (pv_ixL (g := (lstE PyData.bool)) (ev_var rfl) (pv_ixT (g := PyData.int) (pv_ixT (g := (tupE PyData.int)) (ev_var rfl) (ev_var rfl) ((((h.2.2.2.2.2.2.2.2.2.2.2 h32).2.2.2.2.2.2.2.2 at_ h52).2.2.2.2.2.2 h60).1)) ev_cst ((((h.2.2.2.2.2.2.2.2.2.2.2 h32).2.2.2.2.2.2.2.2 at_ h52).2.2.2.2.2.2 h60).2.1)) ((((h.2.2.2.2.2.2.2.2.2.2.2 h32).2.2.2.2.2.2.2.2 at_ h52).2.2.2.2.2.2 h60).2.2.1)) (pv_ixT (g := PyData.int) (pv_ixT (g := (tupE PyData.int)) (ev_var rfl) (pv_bin (ev_var rfl) ev_cst bin_addI) ((((h.2.2.2.2.2.2.2.2.2.2.2 h32).2.2.2.2.2.2.2.2 at_ h52).2.2.2.2.2.2 h60).2.2.2.1)) ev_cst ((((h.2.2.2.2.2.2.2.2.2.2.2 h32).2.2.2.2.2.2.2.2 at_ h52).2.2.2.2.2.2 h60).2.2.2.2.1)) ((((h.2.2.2.2.2.2.2.2.2.2.2 h32).2.2.2.2.2.2.2.2 at_ h52).2.2.2.2.2.2 h60).2.2.2.2.2)))), fun _ => (ev_var rfl)⟩)) (w_fr [.d (PyData.int many), .d ((tupE (tupE PyData.int)) bars), j11, .d ((lstE (lstE PyData.bool)) (v_l_right_table many bars)), .d ((lstE (tupE PyData.int)) (v_l_right_apart' many bars)), .d ((tupE (tupE PyData.int)) (v_l_right_steps many bars)), .d ((lstE (tupE PyData.int)) (v_l_right_lots many bars)), .d ((lstE PyData.int) (v_l_right_wrong many bars)), .no, .no, .no, .no, .no] rfl (w_ret (pv_cmp (ev_var rfl) (pv_lst ev_nil (show 0 ≤ sizeLine by decide)) (cmp_eqE (EOk.lst EOk.int) (a := (v_l_right_wrong many bars)) (b := []))) rfl))))))))))))))))))
end Hd

namespace Hd
open PySem PySem.Spec PyProof.Rows L2 Mi
theorem in_iff {a b : List Int} : p_is_within a b = true ↔ ∀ x ∈ a, x ∈ b := by
  unfold p_is_within
  rw [List.all_eq_true]
  simp
theorem ok_in {a b : List Int} (h : a.length ≤ 1000000) : ok_is_within a b := fits h
theorem l_in_iff {a b : List Int} : p_l_in a b = true ↔ ∀ x ∈ a, x ∈ b := by
  unfold p_l_in
  rw [decide_eq_true_eq, List.filter_eq_nil_iff]
  simp
theorem ok_lin {a b : List Int} (h : a.length ≤ 1000000) : ok_l_in a b := fits h
theorem l_in_eq (a b : List Int) : p_l_in a b = p_is_within a b := by
  rw [Bool.eq_iff_iff, l_in_iff, in_iff]
theorem free_iff {bs : List (List Int)} {l : List Int} : p_is_free_in bs l = true ↔ ∀ b ∈ bs, ¬ ∀ x ∈ b, x ∈ l := by
  unfold p_is_free_in
  rw [Bool.not_eq_true', List.any_eq_false]
  exact forall_congr' fun b => imp_congr_right fun _ => by rw [in_iff]
theorem free_no {bs : List (List Int)} {l : List Int} : p_is_free_in bs l = false ↔ ∃ b ∈ bs, ∀ x ∈ b, x ∈ l := by
  rw [← Bool.not_eq_true, free_iff]
  constructor
  · intro h
    apply Classical.byContradiction
    intro z
    exact h fun b hb k => z ⟨b, hb, k⟩
  · rintro ⟨b, hb, k⟩ h
    exact h b hb k
theorem ok_free {bs : List (List Int)} {l : List Int} (h : bs.length ≤ 1000000) (hb : ∀ b ∈ bs, b.length ≤ 1000000) : ok_is_free_in bs l := ⟨fits h, fun b hb' => ok_in (hb b hb')⟩
theorem l_free_iff {bs : List (List Int)} {l : List Int} : p_l_free bs l = true ↔ ∀ b ∈ bs, ¬ ∀ x ∈ b, x ∈ l := by
  unfold p_l_free
  rw [decide_eq_true_eq, List.filter_eq_nil_iff]
  exact forall_congr' fun b => imp_congr_right fun _ => by rw [l_in_iff]
theorem ok_lfree {bs : List (List Int)} {l : List Int} (h : bs.length ≤ 1000000) (hb : ∀ b ∈ bs, b.length ≤ 1000000) : ok_l_free bs l := ⟨fits h, fun b hb' => ok_lin (hb b hb')⟩
theorem l_free_eq (bs : List (List Int)) (l : List Int) : p_l_free bs l = p_is_free_in bs l := by
  rw [Bool.eq_iff_iff, l_free_iff, free_iff]
theorem mem_without {l : List Int} {p x : Int} : x ∈ p_without l p ↔ x ∈ l ∧ x ≠ p := by
  unfold p_without
  rw [List.mem_filter]; simp
theorem len_without {l : List Int} {p : Int} : (p_without l p).length ≤ l.length := List.length_filter_le ..
theorem ok_wo {l : List Int} {p : Int} (h : l.length ≤ 1000000) : ok_without l p := fits h
structure Few (bs : List (List Int)) : Prop where
  n : bs.length ≤ 100
  all : ∀ b ∈ bs, b.length ≤ 100
structure Good (n : Int) (bs : List (List Int)) : Prop where
  n1 : 1 ≤ n
  n10 : n ≤ 10
  few : Few bs
  non : ∀ b ∈ bs, b ≠ []
  asc : ∀ b ∈ bs, b.Pairwise (· < ·)
  low : ∀ b ∈ bs, ∀ x ∈ b, 0 ≤ x ∧ x < n
  pw : bs.Pairwise fun a b => ltI a b = true
  anti : ∀ a ∈ bs, ∀ b ∈ bs, (∀ x ∈ a, x ∈ b) → a = b
theorem okW {v lo hi : Int} (h1 : lo ≤ v) (h2 : v ≤ hi) : ok_need_whole v lo hi := by
  unfold ok_need_whole p_is_whole
  simp [h1, h2]
theorem okP {n : Int} (h1 : 1 ≤ n) (h2 : n ≤ 10) : ok_need_papers n := okW h1 h2
theorem whole_iff {v lo hi : Int} : p_is_whole v lo hi = true ↔ lo ≤ v ∧ v ≤ hi := by
  unfold p_is_whole
  simp
theorem asc_r {l : List Int} (h : l.Pairwise (· < ·)) : p_is_ascending_r l = true := asc_zip (lt := fun a b => decide (a < b)) (h.imp fun h => decide_eq_true h)
theorem ok_asc_r {l : List Int} (h : l.length ≤ 1000000) : ok_is_ascending_r l := fits (Nat.le_trans zip_len h)
theorem below_ok {l : List Int} {n : Int} (h : l.Pairwise (· < ·)) (hl : ∀ x ∈ l, 0 ≤ x ∧ x < n) : p_is_set_below l n = true := by
  unfold p_is_set_below
  have e : l.all (fun (one : Int) => p_is_whole one 0 (n - 1)) = true := List.all_eq_true.mpr fun x hx => whole_iff.mpr (by have := hl x hx; omega)
  rw [e, asc_r h]; rfl
theorem ok_below {l : List Int} {n : Int} (h : l.length ≤ 1000000) : ok_is_set_below l n := ⟨fun _ => fits h, fun _ => ok_asc_r h⟩
theorem asc_rr {l : List (List Int)} (h : l.Pairwise fun a b => ltI a b = true) : p_is_ascending_rr l = true := asc_zip (lt := ltI) h
section
variable {n : Int} {bs : List (List Int)}
theorem bars_in_ok (G : Good n bs) : p_are_bars_in n bs = true := by
  unfold p_are_bars_in
  have hn := G.few.n
  have e1 : p_is_tuple_of bs 0 252 = true := by unfold p_is_tuple_of; simp; omega
  have e2 : bs.all (fun (own : List Int) => p_is_set_below own n && !decide ((own : List Int) = [])) = true := List.all_eq_true.mpr fun b hb => by
    rw [below_ok (G.asc b hb) (G.low b hb), decide_eq_false (G.non b hb)]; rfl
  have e3 : (((bs.filter fun (one : List Int) => true).flatMap fun (one : List Int) => (bs.filter fun (other : List Int) => true).map fun (other : List Int) => ((!decide ((one : List Int) = other)) && (p_is_within one other))).any id) = false := by
    rw [List.any_eq_false]
    intro x hx
    obtain ⟨a, ha, h2⟩ := List.mem_flatMap.mp hx
    obtain ⟨b, hb, rfl⟩ := List.mem_map.mp h2
    intro z
    simp only [id, Bool.and_eq_true, Bool.not_eq_true', decide_eq_false_iff_not] at z
    exact z.1 (G.anti a (List.mem_filter.mp ha).1 b (List.mem_filter.mp hb).1 (in_iff.mp z.2))
  rw [e1, e2, asc_rr G.pw, e3]; rfl
theorem ok_bars (F : Few bs) : ok_are_bars_in n bs := by
  have hn := F.n
  refine ⟨fun _ => ⟨fits (by omega), fun b hb => ok_below (by have := F.all b hb; omega)⟩, fun _ => ⟨fits (Nat.le_trans zip_len (by omega)), fun _ => ⟨fits ?_, fun a ha b hb _ => ok_in (by have := F.all a ha; omega)⟩⟩⟩
  rw [List.length_flatMap]
  have h : ∀ l : List (List Int), (l.map fun (one : List Int) => ((bs.filter fun (other : List Int) => true).map fun (other : List Int) => ((!decide ((one : List Int) = other)) && (p_is_within one other))).length).sum ≤ l.length * 100 := by
    intro l
    induction l with
    | nil => simp
    | cons a l ih =>
      rw [List.map_cons, List.sum_cons, List.length_cons, Nat.succ_mul, List.length_map]
      have := List.length_filter_le (fun (other : List Int) => true) bs
      omega
  have := h (bs.filter fun (one : List Int) => true)
  have := List.length_filter_le (fun (other : List Int) => true) bs
  omega
end
theorem ok_nbars {n : Int} {bs : List (List Int)} (G : Good n bs) : ok_need_bars n bs := ⟨okP G.n1 G.n10, ok_bars G.few, by rw [bars_in_ok G]; rfl⟩
theorem least_in {lots : List (List Int)} {x : List Int} : x ∈ p_l_least lots ↔ x ∈ lots ∧ ∀ y ∈ lots, (∀ e ∈ y, e ∈ x) → y = x := by
  unfold p_l_least
  rw [mem_ssR, List.mem_filter, decide_eq_true_eq, List.filter_eq_nil_iff]
  refine and_congr_right fun _ => forall_congr' fun y => imp_congr_right fun _ => ?_
  simp only [Bool.and_eq_true, Bool.not_eq_true', decide_eq_false_iff_not, l_in_iff, not_and]
  exact ⟨fun h k => Classical.byContradiction fun z => h z k, fun h z k => z (h k)⟩
theorem least_lt {lots : List (List Int)} : (p_l_least lots).Pairwise fun a b => ltI a b = true := ssR_lt _
theorem least_len {lots : List (List Int)} : (p_l_least lots).length ≤ lots.length := Nat.le_trans (len_ssR _) (List.length_filter_le ..)
theorem ok_least {lots : List (List Int)} (h : lots.length < 64) (hl : ∀ l ∈ lots, l.length ≤ 1000000) : ok_l_least lots :=
  ⟨fits (by omega), fun l _ => ⟨fits (by omega), fun o ho _ => ok_lin (hl o ho)⟩, Nat.lt_of_le_of_lt (List.length_filter_le ..) h, fun k hk => fits (hl k (List.mem_filter.mp hk).1)⟩
/-- some least one stands within each -/
theorem least_below {lots : List (List Int)} (as : ∀ l ∈ lots, l.Pairwise (· < ·)) : ∀ (m : Nat) {x : List Int}, x ∈ lots → x.length ≤ m → ∃ y ∈ p_l_least lots, ∀ e ∈ y, e ∈ x
  | m, x, hx, hm => by
    by_cases h : x ∈ p_l_least lots
    · exact ⟨x, h, fun _ he => he⟩
    · rw [least_in] at h
      have : ∃ y ∈ lots, (∀ e ∈ y, e ∈ x) ∧ y ≠ x := by
        apply Classical.byContradiction
        intro z
        exact h ⟨hx, fun y hy k => Classical.byContradiction fun w => z ⟨y, hy, k, w⟩⟩
      obtain ⟨y, hy, k, w⟩ := this
      have sb := asc_sub (as y hy) (as x hx) k
      have lt : y.length < x.length := Nat.lt_of_le_of_ne sb.length_le fun e => w (sb.eq_of_length e)
      match m, hm with
      | 0, hm => omega
      | m + 1, hm =>
        obtain ⟨z, hz, k2⟩ := least_below as m hy (by omega)
        exact ⟨z, hz, fun e he => k e (k2 e he)⟩
structure LotN (n : Int) (l : List Int) : Prop where
  non : l ≠ []
  asc : l.Pairwise (· < ·)
  low : ∀ x ∈ l, 0 ≤ x ∧ x < n
theorem LotN.len {n : Int} {l : List Int} (h : LotN n l) (hn : n ≤ 10) : l.length ≤ 10 := by have := lot_len_le h.asc h.low; omega
theorem good_least {n : Int} {lots : List (List Int)} (h1 : 1 ≤ n) (h10 : n ≤ 10) (hl : ∀ l ∈ lots, LotN n l) (hn : (p_l_least lots).length ≤ 100) : Good n (p_l_least lots) := by
  have m : ∀ b ∈ p_l_least lots, b ∈ lots := fun b hb => (least_in.mp hb).1
  exact ⟨h1, h10, ⟨hn, fun b hb => by have := (hl b (m b hb)).len h10; omega⟩, fun b hb => (hl b (m b hb)).non, fun b hb => (hl b (m b hb)).asc, fun b hb => (hl b (m b hb)).low, least_lt, fun a ha b hb k => (least_in.mp hb).2 a (m a ha) k⟩
theorem lots_raw (n : Nat) : v_l_lots_found' (n : Int) = rawL n := by
  unfold v_l_lots_found'
  rw [rgZ_nat]; exact lots_fold n
section
variable {n : Int} {x : List Int}
theorem lots_eq (h : 0 ≤ n) : v_l_lots_found' n = rawL n.toNat := by
  obtain ⟨k, rfl⟩ : ∃ k : Nat, n = k := ⟨n.toNat, by omega⟩
  rw [lots_raw]; simp
theorem mem_lots (h : 0 ≤ n) : x ∈ p_l_lots n ↔ x.Pairwise (· < ·) ∧ ∀ e ∈ x, 0 ≤ e ∧ e < n := by
  unfold p_l_lots
  rw [mem_srtR, lots_eq h, mem_raw]
  exact and_congr_right fun _ => forall_congr' fun e => imp_congr_right fun _ => by omega
theorem lots_lt (h : 0 ≤ n) : (p_l_lots n).Pairwise fun a b => ltI a b = true := by
  unfold p_l_lots
  rw [lots_eq h]; exact srtR_lt (nodup_raw _)
theorem len_lots (h : 0 ≤ n) : (p_l_lots n).length = 2 ^ n.toNat := by
  unfold p_l_lots
  rw [len_srtR, lots_eq h, len_raw]
theorem len_lots_le (h : 0 ≤ n) (h10 : n ≤ 10) : (p_l_lots n).length ≤ 1024 := by
  rw [len_lots h]
  exact Nat.pow_le_pow_right (n := 2) (by decide) (show n.toNat ≤ 10 by omega)
theorem ok_lots (h : 0 ≤ n) (h10 : n ≤ 10) : ok_l_lots n := by
  refine ⟨by omega, okF_inv (fun k s => s.length = 2 ^ k ∧ ∀ l ∈ s, l.length ≤ k) (rgZ n) 0 [[]] ⟨rfl, fun l hl => by rw [List.mem_singleton.mp hl]; exact Nat.le_refl _⟩ fun k s x hx hk ⟨e, hs⟩ => ?_⟩
  rw [len_rgZ] at hk
  have e2 : 2 ^ k ≤ 2 ^ 10 := Nat.pow_le_pow_right (by decide) (by omega)
  refine ⟨⟨fits (by rw [e]; omega), fun l hl => fits ?_, fits ?_⟩, ?_, fun l hl => ?_⟩
  · have := hs l hl; simp only [List.length_cons, List.length_nil]; omega
  · rw [List.length_map, e]; omega
  · show (s ++ s.map _).length = _
    rw [List.length_append, List.length_map, e, Nat.pow_succ]; omega
  · rcases List.mem_append.mp hl with h | h
    · have := hs l h; omega
    · obtain ⟨m, hm, rfl⟩ := List.mem_map.mp h
      have := hs m hm
      rw [List.length_append]; simp only [List.length_cons, List.length_nil]; omega
end
theorem ltI_nil {x : List Int} : ltI x [] = false := by cases x <;> rfl
theorem lots_drop {n : Int} {x : List Int} (h : 0 ≤ n) : x ∈ (p_l_lots n).drop 1 ↔ x ∈ p_l_lots n ∧ x ≠ [] := by
  have pw := lots_lt h
  have hm : [] ∈ p_l_lots n := (mem_lots h).mpr ⟨.nil, fun e he => by cases he⟩
  cases e : p_l_lots n with
  | nil => rw [e] at hm; cases hm
  | cons a t =>
    rw [e] at pw hm
    have p := List.pairwise_cons.mp pw
    have ha : a = [] := by
      rcases List.mem_cons.mp hm with z | z
      · exact z.symm
      · have := p.1 [] z
        rw [ltI_nil] at this; cases this
    subst ha
    show x ∈ t ↔ _
    rw [List.mem_cons]
    constructor
    · intro hx
      exact ⟨.inr hx, fun z => by have := p.1 x hx; rw [z, ltI_nil] at this; cases this⟩
    · rintro ⟨h1 | h1, h2⟩
      · exact absurd h1 h2
      · exact h1
theorem lots_nd {n : Int} (h : 0 ≤ n) : (p_l_lots n).Nodup := nodup_ltI (lots_lt h)
theorem ok_least2 {n : Int} {lots : List (List Int)} (h : lots.length ≤ 1000000) (h7 : n ≤ 7) (nd : lots.Nodup) (hl : ∀ l ∈ lots, LotN n l) : ok_l_least lots := by
  have h2 : ∀ l ∈ lots, l.length ≤ 1000000 := fun l hl' => by have := (hl l hl').len (by omega); omega
  refine ⟨fits h, fun l _ => ⟨fits h, fun o ho _ => ok_lin (h2 o ho)⟩, Nat.lt_of_le_of_lt (sperner7 (List.Pairwise.filter _ nd) (fun x hx => ?_) fun a ha b hb k => ?_) (by decide), fun k hk => fits (h2 k (List.mem_filter.mp hk).1)⟩
  · have := hl x (List.mem_filter.mp hx).1
    exact ⟨this.asc, fun e he => by have := this.low e he; omega⟩
  · have q := List.mem_filter.mp hb
    have q2 := q.2
    rw [decide_eq_true_eq, List.filter_eq_nil_iff] at q2
    have q3 := q2 a (List.mem_filter.mp ha).1
    simp only [Bool.and_eq_true, Bool.not_eq_true', decide_eq_false_iff_not, l_in_iff, not_and] at q3
    exact Classical.byContradiction fun z => q3 z k
theorem least_few {n : Int} {lots : List (List Int)} (h7 : n ≤ 7) (hl : ∀ l ∈ lots, LotN n l) : (p_l_least lots).length ≤ 35 := sperner7 (nodup_ltI least_lt) (fun x hx => by
  have := hl x (least_in.mp hx).1
  exact ⟨this.asc, fun e he => by have := this.low e he; omega⟩) fun a ha b hb k => (least_in.mp hb).2 a (least_in.mp ha).1 k
end Hd

namespace Hd
open PySem PySem.Spec PyProof.Rows L2 Mi
section
variable {n : Int} {bs : List (List Int)} {ws : List Int} {goal : Int} {i j k : Int}
def OW (bs : List (List Int)) (i j : Int) : Prop := ∀ b ∈ bs, j ∈ b → i ∉ b → ∃ d ∈ bs, ∀ x ∈ d, (x ∈ b ∧ x ≠ j) ∨ x = i
noncomputable def lgt (bs : List (List Int)) (i j : Int) (b : List Int) : Bool := decide (j ∈ b) && ((!decide (i ∈ b)) && p_is_free_in bs (p_without b j ++ [i]))
theorem lighter_find : p_lighter_bar bs i j = bs.find? (lgt bs i j) := find_some
theorem ow_iff : (p_lighter_bar bs i j).isNone = true ↔ OW bs i j := by
  rw [lighter_find, Option.isNone_iff_eq_none, List.find?_eq_none]
  refine forall_congr' fun b => imp_congr_right fun hb => ?_
  unfold lgt
  simp only [Bool.and_eq_true, Bool.not_eq_true', decide_eq_true_eq, decide_eq_false_iff_not, not_and, Bool.not_eq_true]
  refine imp_congr_right fun hj => imp_congr_right fun hi => ?_
  rw [free_no]
  refine exists_congr fun d => and_congr_right fun hd => forall_congr' fun x => imp_congr_right fun hx => ?_
  rw [List.mem_append, mem_without, List.mem_singleton]
theorem ow_self : OW bs i i := fun b _ h k => absurd h k
theorem ow_trans (anti : ∀ a ∈ bs, ∀ b ∈ bs, (∀ x ∈ a, x ∈ b) → a = b) (h1 : OW bs k j) (h2 : OW bs j i) : OW bs k i := fun b hb hi hk => by
  by_cases hj : j ∈ b
  · obtain ⟨d, hd, hx⟩ := h1 b hb hj hk
    have jd : j ∉ d := fun z => by
      rcases hx j z with h | h
      · exact h.2 rfl
      · exact hk (h ▸ hj)
    by_cases hid : i ∈ d
    · obtain ⟨e, he, hy⟩ := h2 d hd hid jd
      refine ⟨e, he, fun x hxe => ?_⟩
      rcases hy x hxe with ⟨h3, h4⟩ | h3
      · rcases hx x h3 with h5 | h5
        · exact .inl ⟨h5.1, h4⟩
        · exact .inr h5
      · by_cases hji : j = i
        · exact absurd (hji ▸ hid) jd
        · exact .inl ⟨h3 ▸ hj, fun z => hji (h3 ▸ z)⟩
    · exact ⟨d, hd, fun x hxd => by
        rcases hx x hxd with h | h
        · exact .inl ⟨h.1, fun z => hid (z ▸ hxd)⟩
        · exact .inr h⟩
  · obtain ⟨d, hd, hx⟩ := h2 b hb hi hj
    by_cases hjd : j ∈ d
    · by_cases hkj : k = j
      · refine ⟨d, hd, fun x hxd => ?_⟩
        rcases hx x hxd with h | h
        · exact .inl h
        · exact .inr (h.trans hkj.symm)
      · have kd : k ∉ d := fun z => by
          rcases hx k z with h | h
          · exact hk h.1
          · exact hkj h
        obtain ⟨e, he, hy⟩ := h1 d hd hjd kd
        refine ⟨e, he, fun x hxe => ?_⟩
        rcases hy x hxe with ⟨h3, h4⟩ | h3
        · rcases hx x h3 with h5 | h5
          · exact .inl h5
          · exact absurd h5 h4
        · exact .inr h3
    · have hs : ∀ x ∈ d, x ∈ b ∧ x ≠ i := fun x hxd => (hx x hxd).resolve_right fun z => hjd (z ▸ hxd)
      have e := anti d hd b hb fun x hxd => (hs x hxd).1
      exact absurd rfl (hs i (e ▸ hi)).2
theorem mem_hv : i ∈ p_heavier_in n bs j ↔ (0 ≤ i ∧ i < n) ∧ OW bs i j := by
  unfold p_heavier_in
  rw [List.mem_filter, mem_rgZ, ow_iff]
theorem hv_len : (p_heavier_in n bs j).length ≤ n.toNat := by
  unfold p_heavier_in
  have := List.length_filter_le (fun (own : Int) => ((p_lighter_bar bs own j)).isNone) (rgZ n)
  rw [len_rgZ] at this; exact this
theorem ok_lighter (F : Few bs) : ok_lighter_bar bs i j := fun b hb _ _ => by
  have h1 := F.all b hb
  have h2 := @len_without b j
  exact ⟨ok_wo (by omega), fits (by simp only [List.length_cons, List.length_nil]; omega), ok_free (by have := F.n; omega) fun b hb => by have := F.all b hb; omega⟩
theorem sum_perm {a b : List Int} (h : a.Perm b) : a.sum = b.sum := by
  induction h with
  | nil => rfl
  | cons x _ ih => rw [List.sum_cons, List.sum_cons, ih]
  | swap x y l => simp only [List.sum_cons]; omega
  | trans _ _ h1 h2 => exact h1.trans h2
theorem map_perm {a b : List Int} {f : Int → Int} (h : a.Perm b) : (a.map f).sum = (b.map f).sum := sum_perm (h.map f)
theorem nd_asc {a : List Int} (h : a.Pairwise (· < ·)) : a.Nodup := h.imp fun h => by omega
theorem wo_perm {a : List Int} (h : a.Nodup) (hj : j ∈ a) : (j :: p_without a j).Perm a := by
  refine perm_ext (List.nodup_cons.mpr ⟨fun z => (mem_without.mp z).2 rfl, List.Pairwise.filter _ h⟩) h fun x => ?_
  rw [List.mem_cons, mem_without]
  constructor
  · rintro (rfl | h)
    · exact hj
    · exact h.1
  · intro hx
    by_cases e : x = j
    · exact .inl e
    · exact .inr ⟨hx, e⟩
def wt (ws : List Int) (l : List Int) : Int := (l.map fun own => gI ws own).sum
theorem mem_weighed {l : List Int} (h : (ws.length : Int) = n) : l ∈ v_l_weighed_lots ws goal ↔ LotN n l ∧ wt ws l ≥ goal := by
  unfold v_l_weighed_lots
  have h0 : (0 : Int) ≤ ws.length := by omega
  rw [List.mem_filter, lots_drop h0, mem_lots h0, decide_eq_true_eq, h]
  constructor
  · rintro ⟨⟨⟨h1, h2⟩, h3⟩, h4⟩
    exact ⟨⟨h3, h1, h2⟩, h4⟩
  · rintro ⟨⟨h3, h1, h2⟩, h4⟩
    exact ⟨⟨⟨h1, h2⟩, h3⟩, h4⟩
theorem weights_ow (h : (ws.length : Int) = n) (h1 : 0 ≤ i ∧ i < n) (h2 : 0 ≤ j ∧ j < n) (hw : gI ws i ≥ gI ws j) : OW (p_l_weighed ws goal) i j := fun b hb hj hi => by
  have hb1 := (least_in.mp hb).1
  obtain ⟨B, hB⟩ := (mem_weighed h).mp hb1
  have nb := nd_asc B.asc
  -- the lot with i in place of j, in its order
  have mX : ∀ x, x ∈ (rgZ n).filter (fun x => decide (x ∈ p_without b j ++ [i])) ↔ x ∈ p_without b j ++ [i] := fun x => by
    rw [List.mem_filter, decide_eq_true_eq, mem_rgZ]
    refine ⟨fun h => h.2, fun hx => ⟨?_, hx⟩⟩
    rw [List.mem_append, mem_without, List.mem_singleton] at hx
    rcases hx with hx | hx
    · exact B.low x hx.1
    · rw [hx]; exact h1
  have aX : ((rgZ n).filter (fun x => decide (x ∈ p_without b j ++ [i]))).Pairwise (· < ·) := List.Pairwise.filter _ (pw_rgZ n)
  have p1 : ((rgZ n).filter (fun x => decide (x ∈ p_without b j ++ [i]))).Perm (i :: p_without b j) := by
    refine perm_ext (nd_asc aX) (List.nodup_cons.mpr ⟨fun z => hi (mem_without.mp z).1, List.Pairwise.filter _ nb⟩) fun x => ?_
    rw [mX, List.mem_append, List.mem_singleton, List.mem_cons]; exact or_comm
  have s1 : wt ws ((rgZ n).filter (fun x => decide (x ∈ p_without b j ++ [i]))) = gI ws i + wt ws (p_without b j) := by
    unfold wt
    rw [map_perm p1, List.map_cons, List.sum_cons]
  have s2 : wt ws b = gI ws j + wt ws (p_without b j) := by
    unfold wt
    rw [← map_perm (wo_perm nb hj), List.map_cons, List.sum_cons]
  have L : (rgZ n).filter (fun x => decide (x ∈ p_without b j ++ [i])) ∈ v_l_weighed_lots ws goal := (mem_weighed h).mpr ⟨⟨fun z => (by
    have : i ∈ (rgZ n).filter (fun x => decide (x ∈ p_without b j ++ [i])) := (mX i).mpr (List.mem_append_right _ List.mem_cons_self)
    rw [z] at this; cases this), aX, fun x hx => mem_rgZ.mp (List.mem_filter.mp hx).1⟩, by omega⟩
  obtain ⟨d, hd, hx⟩ := least_below (fun l hl => ((mem_weighed h).mp hl).1.asc) _ L (Nat.le_refl _)
  refine ⟨d, hd, fun x hxd => ?_⟩
  have := (mX x).mp (hx x hxd)
  rw [List.mem_append, mem_without, List.mem_singleton] at this
  exact this
theorem weighed_few (h : (ws.length : Int) = n) (h0 : 0 ≤ n) (h10 : n ≤ 10) : (v_l_weighed_lots ws goal).length ≤ 1024 := by
  unfold v_l_weighed_lots
  refine Nat.le_trans (List.length_filter_le ..) (Nat.le_trans (List.drop_sublist 1 _).length_le ?_)
  rw [h]; exact len_lots_le h0 h10
theorem ok_weigh (h : (ws.length : Int) = n) (h1 : 1 ≤ n) (h7 : n ≤ 7) : ok_l_weighed ws goal := by
  have h0 : (0 : Int) ≤ ws.length := by omega
  refine ⟨ok_lots h0 (by omega), fits (Nat.le_trans (List.drop_sublist 1 _).length_le (by have := len_lots_le h0 (show (ws.length : Int) ≤ 10 by omega); omega)), fun l hl => ?_, ok_least2 (n := n) (by have := weighed_few (goal := goal) h (by omega) (by omega); omega) h7 ?_ fun l hl => ((mem_weighed h).mp hl).1⟩
  · have m := (mem_lots h0).mp ((lots_drop h0).mp hl).1
    exact ⟨fits (by have := lot_len_le m.1 m.2; omega), fun x hx => m.2 x hx⟩
  · unfold v_l_weighed_lots
    exact List.Pairwise.filter _ ((lots_nd h0).sublist (List.drop_sublist 1 _))
theorem good_weigh (h : (ws.length : Int) = n) (h1 : 1 ≤ n) (h7 : n ≤ 7) : Good n (p_l_weighed ws goal) :=
  good_least h1 (by omega) (fun l hl => ((mem_weighed h).mp hl).1) (by have := least_few (n := n) (lots := v_l_weighed_lots ws goal) h7 fun l hl => ((mem_weighed h).mp hl).1; omega)
end
end Hd

namespace Hd
open PySem PySem.Spec PyProof.Rows L2 Mi
/-! lists -/
theorem findSome_congr {α β : Type} {f g : α → Option β} : ∀ {l : List α}, (∀ x ∈ l, f x = g x) → l.findSome? f = l.findSome? g
  | [], _ => rfl
  | x :: l, h => by rw [List.findSome?_cons, List.findSome?_cons, h x List.mem_cons_self, findSome_congr fun y hy => h y (List.mem_cons_of_mem _ hy)]
theorem find_inner {β γ : Type} {p : β → Bool} {q : β → γ} : ∀ {m : List β}, (m.findSome? fun y => bif p y then some (some (q y)) else none) = (((m.filter p).map q).head?).map some
  | [] => rfl
  | y :: m => by
    rw [List.findSome?_cons, List.filter_cons]
    cases p y with
    | true => rfl
    | false => exact find_inner (m := m)
theorem find_nested {α β γ : Type} {m : α → List β} {p : α → β → Bool} {q : α → β → γ} : ∀ {l : List α}, ((l.findSome? fun x => ((m x).findSome? fun y => bif p x y then some (some (q x y)) else none).or none).getD none) = (l.flatMap fun x => ((m x).filter (p x)).map (q x)).head?
  | [] => rfl
  | x :: l => by
    have ih := find_nested (m := m) (p := p) (q := q) (l := l)
    rw [List.findSome?_cons, List.flatMap_cons, find_inner]
    cases h : ((m x).filter (p x)).map (q x) with
    | nil => exact ih
    | cons a r => rfl
theorem head_gI {β : Type} [DecidableEq β] [Inhabited β] {l : List β} : (bif !decide (l = []) then some (gI l 0) else none) = l.head? := by cases l <;> rfl
theorem gI_getE {α : Type} [Inhabited α] {l : List α} {i : Int} (h : 0 ≤ i ∧ i < l.length) (k : i.toNat < l.length) : gI l i = l[i.toNat] := by
  have e := gI_get h
  rw [List.getElem?_eq_getElem k] at e
  exact (Option.some.inj e).symm
theorem gI_pw {α : Type} [Inhabited α] {R : α → α → Prop} {l : List α} (p : l.Pairwise R) {i j : Int} (h0 : 0 ≤ i) (hij : i < j) (hj : j < l.length) : R (gI l i) (gI l j) := by
  rw [gI_getE ⟨h0, by omega⟩ (by omega), gI_getE ⟨by omega, hj⟩ (by omega)]
  exact List.pairwise_iff_getElem.mp p _ _ _ _ (by omega)
/-! who outweighs whom, as a table -/
section
variable {n : Int} {bs : List (List Int)} {i j k : Int}
noncomputable def ow (bs : List (List Int)) (i j : Int) : Bool := (p_lighter_bar bs i j).isNone
theorem ow_t : ow bs i j = true ↔ OW bs i j := ow_iff
theorem l_ow_eq : p_l_outweighs bs i j = ow bs i j := by
  rw [Bool.eq_iff_iff, ow_t]
  unfold p_l_outweighs v_l_outweighs_lots
  rw [decide_eq_true_eq, List.filter_eq_nil_iff]
  simp only [List.mem_map, List.mem_filter, Bool.and_eq_true, decide_eq_true_eq, Bool.not_eq_true', decide_eq_false_iff_not, l_free_eq, Bool.not_eq_true]
  constructor
  · intro h b hb hj hi
    have q := h _ ⟨b, ⟨hb, hj, hi⟩, rfl⟩
    obtain ⟨d, hd, hx⟩ := free_no.mp q
    refine ⟨d, hd, fun x hxd => ?_⟩
    have := hx x hxd
    rw [List.mem_append, List.mem_singleton] at this
    exact this.imp_left fun h => mem_without.mp h
  · rintro h _ ⟨b, ⟨hb, hj, hi⟩, rfl⟩
    obtain ⟨d, hd, hx⟩ := h b hb hj hi
    refine free_no.mpr ⟨d, hd, fun x hxd => ?_⟩
    rw [List.mem_append, List.mem_singleton]
    exact (hx x hxd).imp_left fun h => mem_without.mpr h
theorem ok_low (F : Few bs) : ok_l_outweighs bs i j := by
  have hb : ∀ b ∈ bs, b.length ≤ 1000000 := fun b hb => by have := F.all b hb; omega
  refine ⟨fits (by have := F.n; omega), fun b hb' _ => ⟨fits (hb b hb'), fits ?_⟩, fits ?_, fun l hl => ok_lfree (by have := F.n; omega) hb⟩
  · have h1 := F.all b hb'
    have h2 := @len_without b j
    show (p_without b j).length + 1 ≤ 1000000; omega
  · unfold v_l_outweighs_lots
    rw [List.length_map]
    exact Nat.le_trans (List.length_filter_le ..) (by have := F.n; omega)
theorem tab_len : (v_l_right_table n bs).length = n.toNat := by unfold v_l_right_table; rw [List.length_map, len_rgZ]
theorem tab_row (h : i ∈ rgZ n) : gI (v_l_right_table n bs) i = (rgZ n).map fun (other : Int) => p_l_outweighs bs i other := by
  unfold v_l_right_table
  rw [gI_mapR (mem_rgZ.mp h)]
theorem tab (h : i ∈ rgZ n) (h2 : j ∈ rgZ n) : gI (gI (v_l_right_table n bs) i) j = ow bs i j := by
  rw [tab_row h, gI_mapR (mem_rgZ.mp h2), l_ow_eq]
theorem heav (h : i ∈ rgZ n) : gI (v_unlike_pair_heavier n bs) i = p_heavier_in n bs i := by
  unfold v_unlike_pair_heavier
  rw [gI_mapR (mem_rgZ.mp h)]
theorem dec_heav (h : i ∈ rgZ n) (h2 : j ∈ rgZ n) : decide (j ∈ gI (v_unlike_pair_heavier n bs) i) = ow bs j i := by
  rw [heav h, Bool.eq_iff_iff, decide_eq_true_eq, mem_hv, ow_t]
  exact ⟨fun h => h.2, fun k => ⟨mem_rgZ.mp h2, k⟩⟩
/-- the pairs that cannot be compared -/
noncomputable def apartC (n : Int) (bs : List (List Int)) : List (List Int) := (rgZ n).flatMap fun one => ((rg2 (one + 1) n).filter fun other => !ow bs one other && !ow bs other one).map fun other => [one, other]
theorem in_rg2 (h : i ∈ rgZ n) (h2 : j ∈ rg2 (i + 1) n) : j ∈ rgZ n := by
  have := mem_rgZ.mp h
  have := mem_rg2.mp h2
  exact mem_rgZ.mpr (by omega)
theorem flat_congr {α β : Type} {f g : α → List β} : ∀ {l : List α}, (∀ x ∈ l, f x = g x) → l.flatMap f = l.flatMap g
  | [], _ => rfl
  | x :: l, h => by rw [List.flatMap_cons, List.flatMap_cons, h x List.mem_cons_self, flat_congr fun y hy => h y (List.mem_cons_of_mem _ hy)]
theorem apart_eq : v_l_right_apart' n bs = apartC n bs := by
  have e : v_l_right_apart' n bs = (rgZ n).flatMap fun one => (((rg2 (one + (1 : Int)) n).filter fun (other : Int) => ((!(gI (gI (v_l_right_table n bs) one) other)) && (!(gI (gI (v_l_right_table n bs) other) one)))).map fun (other : Int) => [one, other]) :=
    (foldl_cat _ (rgZ n) []).trans (by simp)
  rw [e]
  unfold apartC
  refine flat_congr fun x hx => ?_
  congr 1
  exact List.filter_congr fun y hy => by rw [tab hx (in_rg2 hx hy), tab (in_rg2 hx hy) hx]
theorem unlike_eq : p_unlike_pair n bs = (apartC n bs).head? := by
  unfold p_unlike_pair apartC
  rw [← find_nested]
  congr 1
  refine findSome_congr fun x hx => ?_
  congr 1
  refine findSome_congr fun y hy => ?_
  rw [dec_heav hx (in_rg2 hx hy), dec_heav (in_rg2 hx hy) hx, Bool.and_comm]
theorem total (h : apartC n bs = []) (hi : i ∈ rgZ n) (hj : j ∈ rgZ n) : OW bs i j ∨ OW bs j i := by
  have key : ∀ {a b : Int}, a ∈ rgZ n → b ∈ rgZ n → a < b → OW bs a b ∨ OW bs b a := fun {a b} ha hb hab => by
    apply Classical.byContradiction
    intro z
    have m : [a, b] ∈ apartC n bs := by
      unfold apartC
      refine List.mem_flatMap.mpr ⟨a, ha, List.mem_map.mpr ⟨b, List.mem_filter.mpr ⟨mem_rg2.mpr (by have := mem_rgZ.mp hb; omega), ?_⟩, rfl⟩⟩
      rw [Bool.and_eq_true, Bool.not_eq_true', Bool.not_eq_true', ← Bool.not_eq_true, ← Bool.not_eq_true, ow_t, ow_t]
      exact ⟨fun h => z (.inl h), fun h => z (.inr h)⟩
    rw [h] at m; cases m
  rcases Int.lt_trichotomy i j with h1 | h1 | h1
  · exact key hi hj h1
  · subst h1; exact .inl ow_self
  · exact (key hj hi h1).symm
/-! steps -/
noncomputable def cnt (n : Int) (bs : List (List Int)) (i : Int) : Int := ((p_heavier_in n bs i).length : Int)
theorem hv_pw : (p_heavier_in n bs i).Pairwise (· < ·) := List.Pairwise.filter _ (pw_rgZ n)
theorem hv_sub (anti : ∀ a ∈ bs, ∀ b ∈ bs, (∀ x ∈ a, x ∈ b) → a = b) (h : OW bs j i) : (p_heavier_in n bs j).Sublist (p_heavier_in n bs i) := asc_sub hv_pw hv_pw fun x hx => mem_hv.mpr ⟨(mem_hv.mp hx).1, ow_trans anti (mem_hv.mp hx).2 h⟩
theorem cnt_le (anti : ∀ a ∈ bs, ∀ b ∈ bs, (∀ x ∈ a, x ∈ b) → a = b) (h : OW bs j i) : cnt n bs j ≤ cnt n bs i := by
  have := (hv_sub (n := n) anti h).length_le
  unfold cnt; omega
theorem cnt_back (anti : ∀ a ∈ bs, ∀ b ∈ bs, (∀ x ∈ a, x ∈ b) → a = b) (h : OW bs j i) (e : cnt n bs j = cnt n bs i) (hi : i ∈ rgZ n) : OW bs i j := by
  have s := (hv_sub (n := n) anti h).eq_of_length (by unfold cnt at e; omega)
  have m : i ∈ p_heavier_in n bs i := mem_hv.mpr ⟨mem_rgZ.mp hi, ow_self⟩
  rw [← s] at m
  exact (mem_hv.mp m).2
theorem cnt_iff (anti : ∀ a ∈ bs, ∀ b ∈ bs, (∀ x ∈ a, x ∈ b) → a = b) (T : apartC n bs = []) (hi : i ∈ rgZ n) (hj : j ∈ rgZ n) : cnt n bs j = cnt n bs i ↔ OW bs i j ∧ OW bs j i := by
  constructor
  · intro e
    rcases total T hi hj with h | h
    · exact ⟨h, cnt_back anti h e.symm hj⟩
    · exact ⟨cnt_back anti h e hi, h⟩
  · rintro ⟨h1, h2⟩
    have := cnt_le (n := n) anti h1
    have := cnt_le (n := n) anti h2
    omega
noncomputable def cls_ (n : Int) (bs : List (List Int)) (k : Int) : List Int := (rgZ n).filter fun own => decide (cnt n bs own = k)
noncomputable def nums (n : Int) (bs : List (List Int)) : List Int := (ssI ((rgZ n).map (cnt n bs))).reverse
theorem steps_eq : p_ladder_steps n bs = (nums n bs).map (cls_ n bs) := by
  have e : v_ladder_steps_found' n bs = (nums n bs).map fun number => (rgZ n).filter fun (own : Int) => (decide (((gI (v_ladder_steps_many n bs) own) : Int) = number)) :=
    (foldl_push _ _ []).trans (List.nil_append _)
  show v_ladder_steps_found' n bs = _
  rw [e]
  refine List.map_congr_left fun k _ => ?_
  unfold cls_
  refine List.filter_congr fun x hx => ?_
  unfold v_ladder_steps_many
  rw [gI_mapR (mem_rgZ.mp hx)]; rfl
theorem mem_nums : k ∈ nums n bs ↔ ∃ i ∈ rgZ n, cnt n bs i = k := by
  unfold nums
  rw [List.mem_reverse, mem_ssI, List.mem_map]
theorem nums_pw : (nums n bs).Pairwise (· > ·) := by
  unfold nums
  exact List.pairwise_reverse.mpr (pw_ssI _)
theorem mem_cls : i ∈ cls_ n bs k ↔ i ∈ rgZ n ∧ cnt n bs i = k := by
  unfold cls_
  rw [List.mem_filter, decide_eq_true_eq]
theorem cls_ne (h : k ∈ nums n bs) : cls_ n bs k ≠ [] := by
  obtain ⟨i, hi, e⟩ := mem_nums.mp h
  exact fun z => by
    have := mem_cls.mpr ⟨hi, e⟩
    rw [z] at this; cases this
theorem cls_head (h : k ∈ nums n bs) : gI (cls_ n bs k) 0 ∈ cls_ n bs k := gI_mem (by have := List.length_pos_iff.mpr (cls_ne h); omega)
theorem steps_nd : (p_ladder_steps n bs).Nodup := by
  rw [steps_eq]
  refine List.pairwise_map.mpr ?_
  refine List.Pairwise.imp_of_mem ?_ nums_pw
  intro a b ha hb hab e
  have h1 := cls_head ha
  have h2 := (mem_cls.mp h1).2
  have h1' : gI (cls_ n bs a) 0 ∈ cls_ n bs b := by rw [← e]; exact h1
  have h3 := (mem_cls.mp h1').2
  omega
noncomputable def lotsC (n : Int) (bs : List (List Int)) : List (List Int) := (rgZ n).map fun own => (rgZ n).filter fun far => ow bs own far && ow bs far own
theorem lots_eq' : v_l_right_lots n bs = ssR (lotsC n bs) := by
  unfold v_l_right_lots lotsC
  congr 1
  refine List.map_congr_left fun x hx => ?_
  exact List.filter_congr fun y hy => by rw [tab hx hy, tab hy hx]
theorem cls_lot (anti : ∀ a ∈ bs, ∀ b ∈ bs, (∀ x ∈ a, x ∈ b) → a = b) (T : apartC n bs = []) (hi : i ∈ rgZ n) : cls_ n bs (cnt n bs i) = (rgZ n).filter fun far => ow bs i far && ow bs far i := by
  unfold cls_
  refine List.filter_congr fun y hy => ?_
  rw [Bool.eq_iff_iff, decide_eq_true_eq, Bool.and_eq_true, ow_t, ow_t]
  exact cnt_iff anti T hi hy
theorem sort_steps (anti : ∀ a ∈ bs, ∀ b ∈ bs, (∀ x ∈ a, x ∈ b) → a = b) (T : apartC n bs = []) : srtR (p_ladder_steps n bs) = ssR (lotsC n bs) := by
  refine rows_ext (srtR_lt steps_nd) (ssR_lt _) fun x => ?_
  rw [mem_srtR, mem_ssR, steps_eq, List.mem_map]
  unfold lotsC
  rw [List.mem_map]
  constructor
  · rintro ⟨k, hk, rfl⟩
    obtain ⟨i, hi, rfl⟩ := mem_nums.mp hk
    exact ⟨i, hi, (cls_lot anti T hi).symm⟩
  · rintro ⟨i, hi, rfl⟩
    exact ⟨cnt n bs i, mem_nums.mpr ⟨i, hi, rfl⟩, cls_lot anti T hi⟩
/-- two steps, the one behind the other -/
theorem step_pair (anti : ∀ a ∈ bs, ∀ b ∈ bs, (∀ x ∈ a, x ∈ b) → a = b) (T : apartC n bs = []) {a b : Int} (ha : a ∈ rgZ n) (hb : b ∈ rgZ n) (h : cnt n bs a < cnt n bs b) : ow bs a b = true ∧ ow bs b a = false := by
  have nb : ¬ OW bs b a := fun z => by have := cnt_le (n := n) anti z; omega
  refine ⟨ow_t.mpr ((total T ha hb).resolve_right nb), ?_⟩
  rw [← Bool.not_eq_true, ow_t]; exact nb
end
end Hd

namespace Hd
open PySem PySem.Spec PyProof.Rows L2 Mi
def fam1 : List (List (List Int)) := [[], [[0]]]
def fam2 : List (List (List Int)) := [[], [[0]], [[0], [1]], [[0, 1]], [[1]]]
def fam3 : List (List (List Int)) := [[], [[0]], [[0], [1]], [[0], [1], [2]], [[0], [1, 2]], [[0], [2]], [[0, 1]], [[0, 1], [0, 2]], [[0, 1], [0, 2], [1, 2]], [[0, 1], [1, 2]], [[0, 1], [2]], [[0, 1, 2]], [[0, 2]], [[0, 2], [1]], [[0, 2], [1, 2]], [[1]], [[1], [2]], [[1, 2]], [[2]]]
def p_l_families (n : Int) : List (List (List Int)) := if n = 1 then fam1 else if n = 2 then fam2 else if n = 3 then fam3 else []
def ok_l_families (n : Int) : Prop := n = 1 ∨ n = 2 ∨ n = 3
theorem q_l_families {c : Cp} {many : Int} (h : ok_l_families many) : f__law_families [.int many] c = .ok (lstE (tupE (tupE PyData.int)) (p_l_families many)) c := by
  rcases h with h | h | h <;> subst h
  · show f__law_families [.int 1] c = .ok (lstE (tupE (tupE PyData.int)) fam1) c
    kernel_rfl
  · show f__law_families [.int 2] c = .ok (lstE (tupE (tupE PyData.int)) fam2) c
    kernel_rfl
  · show f__law_families [.int 3] c = .ok (lstE (tupE (tupE PyData.int)) fam3) c
    kernel_rfl
noncomputable def v_l_bars_part (many : Int) (r2 : Int) : Int := ((2 : Int) + r2)
noncomputable def v_l_bars_lots (many : Int) (r2 : Int) (r5 : Int) (s10 : (List (List Int))) (turn : Int) (m23 : (List Int)) : (List (List Int)) := (s10 ++ [m23])
noncomputable def v_l_bars_lots' (many : Int) (r2 : Int) (r5 : Int) (s10 : (List (List Int))) (turn : Int) (m23 : (List Int)) (r31 : Int) : (List (List Int)) := (s10 ++ [[r31]])
def ok_l_bars (many : Int) : Prop := (0 < (3 : Int) ∧ (3 : Int) < 1073741824) ∧ (∀ (r2 : Int), (0 ≤ r2 ∧ r2 < (3 : Int)) → (0 < (7 : Int) ∧ (7 : Int) < 1073741824) ∧ (∀ (r5 : Int), (0 ≤ r5 ∧ r5 < (7 : Int)) → (-(2 ^ 62) ≤ r5 ∧ r5 < 2 ^ 62) ∧ ((fun (n : Nat) (s : List (List Int)) => s.length ≤ n ∧ ∀ l ∈ s, LotN many l) 0 []) ∧ (∀ (n11 : Nat) (s10 : (List (List Int))), ∀ turn ∈ (rgZ r5), n11 < (rgZ r5).length → (rgZ r5)[n11]? = some turn → ((fun (n : Nat) (s : List (List Int)) => s.length ≤ n ∧ ∀ l ∈ s, LotN many l) n11 s10) → (-(2 ^ 62) ≤ many ∧ many < 2 ^ 62) ∧ (((rgZ many)).length ≤ sizeLine) ∧ (∀ own ∈ (rgZ many), (0 < (v_l_bars_part many r2) ∧ (v_l_bars_part many r2) < 1073741824)) ∧ (∀ (m23 : (List Int)), (m23.Sublist (rgZ many) ∧ ∀ own ∈ m23, ∃ (r20 : Int), (0 ≤ r20 ∧ r20 < (v_l_bars_part many r2)) ∧ (decide ((r20 : Int) = (0 : Int))) = true) → ((!decide ((m23 : (List Int)) = [])) = true → ((s10).length + ([m23]).length ≤ sizeLine) ∧ ((fun (n : Nat) (s : List (List Int)) => s.length ≤ n ∧ ∀ l ∈ s, LotN many l) (n11 + 1) (v_l_bars_lots many r2 r5 s10 turn m23))) ∧ ((!decide ((m23 : (List Int)) = [])) = false → (0 < many ∧ many < 1073741824) ∧ (∀ (r31 : Int), (0 ≤ r31 ∧ r31 < many) → ((s10).length + ([[r31]]).length ≤ sizeLine) ∧ ((fun (n : Nat) (s : List (List Int)) => s.length ≤ n ∧ ∀ l ∈ s, LotN many l) (n11 + 1) (v_l_bars_lots' many r2 r5 s10 turn m23 r31)))))) ∧ (∀ (s35 : (List (List Int))), ((fun (n : Nat) (s : List (List Int)) => s.length ≤ n ∧ ∀ l ∈ s, LotN many l) ((rgZ r5)).length s35) → (ok_l_least s35) ∧ ((Good many (p_l_least s35) ∧ ((p_l_least s35)).length ≤ 6)))))
theorem e_l_bars {many : Int} (h : ok_l_bars many) : ME (f__law_bars [dCup, PyData.int many]) fun d => ∃ v : (List (List Int)), d = (tupE (tupE PyData.int)) v ∧ (Good many v ∧ (v).length ≤ 6) := be_ret (g := (tupE (tupE PyData.int))) (Po := fun v : (List (List Int)) => (Good many v ∧ (v).length ≤ 6)) [.d dCup, .d (PyData.int many), .no, .no, .no, .no, .no, .no] rfl (we_asgT (ve_tup (va_cons (me_pure (a := (lstE _) []) (fun _ => (pv_lst ev_nil (show 0 ≤ sizeLine by decide))) (va_cons (ve_bin (me_pure (a := PyData.int (2 : Int)) (fun _ => ev_cst) (ve_call (va_cons (me_pure (a := (fun (_ : Unit) => dCup) ()) (fun _ => (ev_var rfl)) (va_cons (me_pure (a := PyData.int (3 : Int)) (fun _ => ev_cst) (va_nil ⟨rfl, me_ex (g := PyData.int) (e_roll h.1) (fun r2 h3 => ⟨PyData.int ((2 : Int) + r2), bin_addI, (va_nil ⟨(show 2 ≤ sizeLine by decide), _, rfl, (we_fr [.d dCup, .d (PyData.int many), .d ((lstE (tupE PyData.int)) []), .d (PyData.int (v_l_bars_part many r2)), .no, .no, .no, .no] rfl (we_for (vi_r1 (ve_call (va_cons (me_pure (a := (fun (_ : Unit) => dCup) ()) (fun _ => (ev_var rfl)) (va_cons (me_pure (a := PyData.int (7 : Int)) (fun _ => ev_cst) (va_nil ⟨rfl, me_ex (g := PyData.int) (e_roll ((h.2 r2 h3).1)) (fun r5 h6 => ⟨_, rfl, (((h.2 r2 h3).2 r5 h6).1), (go_I (fun (s10 : (List (List Int))) (j8 : Sl × Sl) => [.d dCup, .d (PyData.int many), .d ((lstE (tupE PyData.int)) s10), .d (PyData.int (v_l_bars_part many r2)), j8.1, j8.2, .no, .no]) (fun (n : Nat) (s : List (List Int)) => s.length ≤ n ∧ ∀ l ∈ s, LotN many l) [] (.no, .no) rfl (((h.2 r2 h3).2 r5 h6).2.1) (fun n11 s10 turn h9 h12 h14 h13 j8 => ⟨[.d dCup, .d (PyData.int many), .d ((lstE (tupE PyData.int)) s10), .d (PyData.int (v_l_bars_part many r2)), .d (PyData.int turn), j8.2, .no, .no], rfl, (we_asg (ve_bi (va_cons (ve_ofA (va_lcS (fun (own : Int) => own) PyData.int (fun (own : Int) => ∃ (r20 : Int), (0 ≤ r20 ∧ r20 < (v_l_bars_part many r2)) ∧ (decide ((r20 : Int) = (0 : Int))) = true) (fun _ => (pi_r1 (ev_var rfl) ((((h.2 r2 h3).2 r5 h6).2.2.1 n11 s10 turn h9 h12 h14 h13).1))) ((((h.2 r2 h3).2 r5 h6).2.2.1 n11 s10 turn h9 h12 h14 h13).2.1) (fun own h17 => ⟨[.d dCup, .d (PyData.int many), .d ((lstE (tupE PyData.int)) s10), .d (PyData.int (v_l_bars_part many r2)), .d (PyData.int turn), strictS j8.2, .no, .d (PyData.int own)], rfl, (vt_cm (ve_cmp (ve_call (va_cons (me_pure (a := (fun (_ : Unit) => dCup) ()) (fun _ => (ev_var rfl)) (va_cons (me_pure (a := PyData.int (v_l_bars_part many r2)) (fun _ => (ev_var rfl)) (va_nil ⟨rfl, me_ex (g := PyData.int) (e_roll (((((h.2 r2 h3).2 r5 h6).2.2.1 n11 s10 turn h9 h12 h14 h13).2.2.1 own h17))) (fun r20 h21 => (me_pure (a := PyData.int (0 : Int)) (fun _ => ev_cst) ⟨_, (cmp_eqE EOk.int (a := r20) (b := (0 : Int))), ⟨_, rfl, (fun h22 => ⟨⟨r20, h21, h22⟩, fun _ => (ev_var rfl)⟩)⟩⟩))⟩))))))))⟩) (fun m23 h24 h25 => (by rw [List.map_id']; exact (va_nil ⟨_, rfl, (we_fr [.d dCup, .d (PyData.int many), .d ((lstE (tupE PyData.int)) s10), .d (PyData.int (v_l_bars_part many r2)), .d (PyData.int turn), .d ((tupE PyData.int) m23), .no, .no] rfl (we_asg (ve_bin (me_pure (a := (lstE (tupE PyData.int)) s10) (fun _ => (ev_var rfl)) (ve_lst (va_cons (ve_ite (me_pure (a := (!decide ((m23 : (List Int)) = []))) (fun _ => (pt_cm (pv_cmp (ev_var rfl) (pv_tup ev_nil (show 0 ≤ sizeLine by decide)) (cmp_neE (EOk.tup EOk.int) (a := m23) (b := []))))) ⟨fun h26 => (me_pure (a := (tupE PyData.int) m23) (fun _ => (ev_var rfl)) (va_nil ⟨(show 1 ≤ sizeLine by decide), ⟨(lstE (tupE PyData.int)) (s10 ++ [m23]), (bin_addL (g := (tupE PyData.int)) ((((((h.2 r2 h3).2 r5 h6).2.2.1 n11 s10 turn h9 h12 h14 h13).2.2.2 m23 ⟨h24, h25⟩).1 h26).1)), (we_fr [.d dCup, .d (PyData.int many), .d ((lstE (tupE PyData.int)) (v_l_bars_lots many r2 r5 s10 turn m23)), .d (PyData.int (v_l_bars_part many r2)), .d (PyData.int turn), .d ((tupE PyData.int) m23), .no, .no] rfl (we_nop ⟨rfl, (v_l_bars_lots many r2 r5 s10 turn m23), (.d (PyData.int turn), .d ((tupE PyData.int) m23)), rfl, ((((((h.2 r2 h3).2 r5 h6).2.2.1 n11 s10 turn h9 h12 h14 h13).2.2.2 m23 ⟨h24, h25⟩).1 h26).2)⟩))⟩⟩)), fun h27 => (ve_tup (va_cons (ve_call (va_cons (me_pure (a := (fun (_ : Unit) => dCup) ()) (fun _ => (ev_var rfl)) (va_cons (me_pure (a := PyData.int many) (fun _ => (ev_var rfl)) (va_nil ⟨rfl, me_ex (g := PyData.int) (e_roll ((((((h.2 r2 h3).2 r5 h6).2.2.1 n11 s10 turn h9 h12 h14 h13).2.2.2 m23 ⟨h24, h25⟩).2 h27).1)) (fun r31 h32 => (va_nil ⟨(show 1 ≤ sizeLine by decide), (va_nil ⟨(show 1 ≤ sizeLine by decide), ⟨(lstE (tupE PyData.int)) (s10 ++ [[r31]]), (bin_addL (g := (tupE PyData.int)) (((((((h.2 r2 h3).2 r5 h6).2.2.1 n11 s10 turn h9 h12 h14 h13).2.2.2 m23 ⟨h24, h25⟩).2 h27).2 r31 h32).1)), (we_fr [.d dCup, .d (PyData.int many), .d ((lstE (tupE PyData.int)) (v_l_bars_lots' many r2 r5 s10 turn m23 r31)), .d (PyData.int (v_l_bars_part many r2)), .d (PyData.int turn), .d ((tupE PyData.int) m23), .no, .no] rfl (we_nop ⟨rfl, (v_l_bars_lots' many r2 r5 s10 turn m23 r31), (.d (PyData.int turn), .d ((tupE PyData.int) m23)), rfl, (((((((h.2 r2 h3).2 r5 h6).2.2.1 n11 s10 turn h9 h12 h14 h13).2.2.2 m23 ⟨h24, h25⟩).2 h27).2 r31 h32).2)⟩))⟩⟩)⟩))⟩))))))))⟩))))))))⟩))))))))⟩) (fun s35 j36 h37 => (we_ret (me_pure (a := (tupE (tupE PyData.int)) (p_l_least s35)) (fun _ => (pv_call (pv_cons (ev_var rfl) ev_nil) rfl (q_l_least (lots := s35) ((((h.2 r2 h3).2 r5 h6).2.2.2 s35 h37).1)))) ⟨(p_l_least s35), rfl, ((((h.2 r2 h3).2 r5 h6).2.2.2 s35 h37).2)⟩))))⟩)⟩)))))))))⟩)⟩)⟩)))))))))))))
noncomputable def v_law_many (turn : Int) (r13 : Int) : Int := ((2 : Int) + r13)
noncomputable def v_law_bars (turn : Int) (r13 : Int) (m22 : (List Int)) (r25 : Int) : (List (List Int)) := (p_l_weighed m22 ((1 : Int) + r25))
noncomputable def v_law_few (turn : Int) (r13 : Int) (m22 : (List Int)) (r25 : Int) (v35 : (List (List Int))) (r40 : Int) (r43 : Int) : Int := ((2 : Int) + r40)
noncomputable def v_law_more (turn : Int) (r13 : Int) (m22 : (List Int)) (r25 : Int) (v35 : (List (List Int))) (r40 : Int) (r43 : Int) : Int := ((2 : Int) + r43)
noncomputable def v_law_few' (turn : Int) (r13 : Int) (m22 : (List Int)) (r25 : Int) (r56 : Int) (r59 : Int) : Int := ((2 : Int) + r56)
noncomputable def v_law_more' (turn : Int) (r13 : Int) (m22 : (List Int)) (r25 : Int) (r56 : Int) (r59 : Int) : Int := ((2 : Int) + r59)
noncomputable def v_law_few'' (turn : Int) (r13 : Int) (m22 : (List Int)) (r25 : Int) (r72 : Int) (r75 : Int) : Int := ((2 : Int) + r72)
noncomputable def v_law_more'' (turn : Int) (r13 : Int) (m22 : (List Int)) (r25 : Int) (r72 : Int) (r75 : Int) : Int := ((2 : Int) + r75)
def ok_law : Prop := (∀ many ∈ [(1 : Int), (2 : Int), (3 : Int)], (ok_l_families many) ∧ (((p_l_families many)).length ≤ sizeLine) ∧ (∀ bars ∈ (p_l_families many), (ok_l_right many bars)) ∧ ((!decide ((((p_l_families many).filter fun (bars : (List (List Int))) => (!(p_l_right many bars))) : (List (List (List Int)))) = [])) = false)) ∧ (-(2 ^ 62) ≤ (8 : Int) ∧ (8 : Int) < 2 ^ 62) ∧ (∀ turn ∈ (rgZ (8 : Int)), (0 < (6 : Int) ∧ (6 : Int) < 1073741824) ∧ (∀ (r13 : Int), (0 ≤ r13 ∧ r13 < (6 : Int)) → (-(2 ^ 62) ≤ (v_law_many turn r13) ∧ (v_law_many turn r13) < 2 ^ 62) ∧ (((rgZ (v_law_many turn r13))).length ≤ sizeLine) ∧ (∀ own ∈ (rgZ (v_law_many turn r13)), (0 < (7 : Int) ∧ (7 : Int) < 1073741824)) ∧ (∀ (m22 : (List Int)), (Each (fun (own : Int) (w21 : Int) => ∃ (r19 : Int), (0 ≤ r19 ∧ r19 < (7 : Int)) ∧ w21 = r19) (rgZ (v_law_many turn r13)) m22) → (0 < ((m22.sum) + (2 : Int)) ∧ ((m22.sum) + (2 : Int)) < 1073741824) ∧ (∀ (r25 : Int), (0 ≤ r25 ∧ r25 < ((m22.sum) + (2 : Int))) → (ok_l_weighed m22 ((1 : Int) + r25)) ∧ (ok_is_ladder (v_law_many turn r13) (v_law_bars turn r13 m22 r25)) ∧ ((!(p_is_ladder (v_law_many turn r13) (v_law_bars turn r13 m22 r25))) = false → (ok_l_right (v_law_many turn r13) (v_law_bars turn r13 m22 r25)) ∧ ((!(p_l_right (v_law_many turn r13) (v_law_bars turn r13 m22 r25))) = false → (ok_l_bars (v_law_many turn r13)) ∧ (∀ (v35 : (List (List Int))), ((Good (v_law_many turn r13) v35 ∧ (v35).length ≤ 6)) → (ok_l_right (v_law_many turn r13) v35) ∧ ((!(p_l_right (v_law_many turn r13) v35)) = false) ∧ (0 < (3 : Int) ∧ (3 : Int) < 1073741824) ∧ (∀ (r40 : Int), (0 ≤ r40 ∧ r40 < (3 : Int)) → (0 < (3 : Int) ∧ (3 : Int) < 1073741824) ∧ (∀ (r43 : Int), (0 ≤ r43 ∧ r43 < (3 : Int)) → (ok_l_bars (v_law_few turn r13 m22 r25 v35 r40 r43)) ∧ (∀ (v46 : (List (List Int))), ((Good (v_law_few turn r13 m22 r25 v35 r40 r43) v46 ∧ (v46).length ≤ 6)) → (ok_l_bars (v_law_more turn r13 m22 r25 v35 r40 r43)) ∧ (∀ (v49 : (List (List Int))), ((Good (v_law_more turn r13 m22 r25 v35 r40 r43) v49 ∧ (v49).length ≤ 6)) → (ok_l_beside v46 v49 (v_law_few turn r13 m22 r25 v35 r40 r43)) ∧ (ok_l_right ((v_law_few turn r13 m22 r25 v35 r40 r43) + (v_law_more turn r13 m22 r25 v35 r40 r43)) (p_l_beside v46 v49 (v_law_few turn r13 m22 r25 v35 r40 r43))) ∧ ((!(p_l_right ((v_law_few turn r13 m22 r25 v35 r40 r43) + (v_law_more turn r13 m22 r25 v35 r40 r43)) (p_l_beside v46 v49 (v_law_few turn r13 m22 r25 v35 r40 r43)))) = false))))))) ∧ ((!(p_l_right (v_law_many turn r13) (v_law_bars turn r13 m22 r25))) = true → (true = false) ∧ (0 < (3 : Int) ∧ (3 : Int) < 1073741824) ∧ (∀ (r56 : Int), (0 ≤ r56 ∧ r56 < (3 : Int)) → (0 < (3 : Int) ∧ (3 : Int) < 1073741824) ∧ (∀ (r59 : Int), (0 ≤ r59 ∧ r59 < (3 : Int)) → (ok_l_bars (v_law_few' turn r13 m22 r25 r56 r59)) ∧ (∀ (v62 : (List (List Int))), ((Good (v_law_few' turn r13 m22 r25 r56 r59) v62 ∧ (v62).length ≤ 6)) → (ok_l_bars (v_law_more' turn r13 m22 r25 r56 r59)) ∧ (∀ (v65 : (List (List Int))), ((Good (v_law_more' turn r13 m22 r25 r56 r59) v65 ∧ (v65).length ≤ 6)) → (ok_l_beside v62 v65 (v_law_few' turn r13 m22 r25 r56 r59)) ∧ (ok_l_right ((v_law_few' turn r13 m22 r25 r56 r59) + (v_law_more' turn r13 m22 r25 r56 r59)) (p_l_beside v62 v65 (v_law_few' turn r13 m22 r25 r56 r59))) ∧ ((!(p_l_right ((v_law_few' turn r13 m22 r25 r56 r59) + (v_law_more' turn r13 m22 r25 r56 r59)) (p_l_beside v62 v65 (v_law_few' turn r13 m22 r25 r56 r59)))) = false))))))) ∧ ((!(p_is_ladder (v_law_many turn r13) (v_law_bars turn r13 m22 r25))) = true → (true = false) ∧ (0 < (3 : Int) ∧ (3 : Int) < 1073741824) ∧ (∀ (r72 : Int), (0 ≤ r72 ∧ r72 < (3 : Int)) → (0 < (3 : Int) ∧ (3 : Int) < 1073741824) ∧ (∀ (r75 : Int), (0 ≤ r75 ∧ r75 < (3 : Int)) → (ok_l_bars (v_law_few'' turn r13 m22 r25 r72 r75)) ∧ (∀ (v78 : (List (List Int))), ((Good (v_law_few'' turn r13 m22 r25 r72 r75) v78 ∧ (v78).length ≤ 6)) → (ok_l_bars (v_law_more'' turn r13 m22 r25 r72 r75)) ∧ (∀ (v81 : (List (List Int))), ((Good (v_law_more'' turn r13 m22 r25 r72 r75) v81 ∧ (v81).length ≤ 6)) → (ok_l_beside v78 v81 (v_law_few'' turn r13 m22 r25 r72 r75)) ∧ (ok_l_right ((v_law_few'' turn r13 m22 r25 r72 r75) + (v_law_more'' turn r13 m22 r25 r72 r75)) (p_l_beside v78 v81 (v_law_few'' turn r13 m22 r25 r72 r75))) ∧ ((!(p_l_right ((v_law_few'' turn r13 m22 r25 r72 r75) + (v_law_more'' turn r13 m22 r25 r72 r75)) (p_l_beside v78 v81 (v_law_few'' turn r13 m22 r25 r72 r75)))) = false)))))))))) ∧ (true = true)
theorem e_post (h : ok_law) {jz0 jz1 jz2 jz3 jz4 jz6 jz7 jz8 jz9 jz10 jz11 jz12 jz13 : Sl} : ME (b_post [jz0, jz1, jz2, jz3, jz4, .d dCup, jz6, jz7, jz8, jz9, jz10, jz11, jz12, jz13]) fun p => ∃ v : Bool, p.1 = .ret (PyData.bool v) ∧ v = true := (we_for (me_pure (fun _ => (pi_T (g := PyData.int) (l := [(1 : Int), (2 : Int), (3 : Int)]) (pv_tup (pv_cons ev_cst (pv_cons ev_cst (pv_cons ev_cst ev_nil))) (show 3 ≤ sizeLine by decide)))) (go_N (fun (j1 : Sl) => [jz0, jz1, jz2, jz3, jz4, .d dCup, j1, jz7, jz8, jz9, jz10, jz11, jz12, jz13]) jz6 rfl (fun many h2 j1 => ⟨[jz0, jz1, jz2, jz3, jz4, .d dCup, .d (PyData.int many), jz7, jz8, jz9, jz10, jz11, jz12, jz13], rfl, (we_iff (me_pure (a := (!decide ((((p_l_families many).filter fun (bars : (List (List Int))) => (!(p_l_right many bars))) : (List (List (List Int)))) = []))) (fun _ => (pt_cm (pv_cmp (pv_ofA (pv_lcF (fun (bars : (List (List Int))) => (!(p_l_right many bars))) (pi_L (g := (tupE (tupE PyData.int))) (l := (p_l_families many)) (pv_call (pv_cons (ev_var rfl) ev_nil) rfl (q_l_families (many := many) ((h.1 many h2).1)))) ((h.1 many h2).2.1) fun bars h4 => ⟨[jz0, jz1, jz2, jz3, jz4, .d dCup, .d (PyData.int many), .d ((tupE (tupE PyData.int)) bars), jz8, jz9, jz10, jz11, .no, jz13], rfl, (pt_no (pt_of (pv_call (pv_cons (ev_var rfl) (pv_cons (ev_var rfl) ev_nil)) rfl (q_l_right (many := many) (bars := bars) (((h.1 many h2).2.2.1 bars h4)))))), fun _ => (ev_var rfl)⟩)) (pv_lst ev_nil (show 0 ≤ sizeLine by decide)) (cmp_neE (EOk.lst (EOk.tup (EOk.tup EOk.int))) (a := ((p_l_families many).filter fun (bars : (List (List Int))) => (!(p_l_right many bars)))) (b := []))))) ⟨((h.1 many h2).2.2.2), (we_nop ⟨rfl, .d (PyData.int many), rfl⟩)⟩))⟩) (fun j1 => (we_for (me_pure (fun _ => (pi_r1 ev_cst h.2.1)) (go_N (fun (j10 : Sl × Sl × Sl × Sl × Sl × Sl) => [jz0, jz1, jz2, jz3, jz4, .d dCup, j10.2.1, j10.2.2.2.1, j10.1, j10.2.2.1, j10.2.2.2.2.1, j10.2.2.2.2.2, jz12, jz13]) (jz8, j1, jz9, jz7, jz10, jz11) rfl (fun turn h11 j10 => ⟨[jz0, jz1, jz2, jz3, jz4, .d dCup, j10.2.1, j10.2.2.2.1, .d (PyData.int turn), j10.2.2.1, j10.2.2.2.2.1, j10.2.2.2.2.2, jz12, jz13], rfl, (we_asg (ve_bin (me_pure (a := PyData.int (2 : Int)) (fun _ => ev_cst) (ve_call (va_cons (me_pure (a := (fun (_ : Unit) => dCup) ()) (fun _ => (ev_var rfl)) (va_cons (me_pure (a := PyData.int (6 : Int)) (fun _ => ev_cst) (va_nil ⟨rfl, me_ex (g := PyData.int) (e_roll ((h.2.2.1 turn h11).1)) (fun r13 h14 => ⟨PyData.int ((2 : Int) + r13), bin_addI, (we_fr [jz0, jz1, jz2, jz3, jz4, .d dCup, .d (PyData.int (v_law_many turn r13)), j10.2.2.2.1, .d (PyData.int turn), j10.2.2.1, j10.2.2.2.2.1, j10.2.2.2.2.2, jz12, jz13] rfl (we_asg (ve_ofA (va_lcE (fun (own : Int) (w21 : Int) => ∃ (r19 : Int), (0 ≤ r19 ∧ r19 < (7 : Int)) ∧ w21 = r19) PyData.int (fun _ => (pi_r1 (ev_var rfl) (((h.2.2.1 turn h11).2 r13 h14).1))) (((h.2.2.1 turn h11).2 r13 h14).2.1) (fun own h16 => ⟨[strictS jz0, strictS jz1, strictS jz2, strictS jz3, strictS jz4, .d dCup, .d (PyData.int (v_law_many turn r13)), strictS j10.2.2.2.1, .d (PyData.int turn), strictS j10.2.2.1, strictS j10.2.2.2.2.1, strictS j10.2.2.2.2.2, .no, .d (PyData.int own)], rfl, (ve_call (va_cons (me_pure (a := (fun (_ : Unit) => dCup) ()) (fun _ => (ev_var rfl)) (va_cons (me_pure (a := PyData.int (7 : Int)) (fun _ => ev_cst) (va_nil ⟨rfl, me_ex (g := PyData.int) (e_roll ((((h.2.2.1 turn h11).2 r13 h14).2.2.1 own h16))) (fun r19 h20 => ⟨r19, rfl, ⟨r19, h20, rfl⟩⟩)⟩))))))⟩) (fun m22 h23 => (we_fr [jz0, jz1, jz2, jz3, jz4, .d dCup, .d (PyData.int (v_law_many turn r13)), j10.2.2.2.1, .d (PyData.int turn), .d ((lstE PyData.int) m22), j10.2.2.2.2.1, j10.2.2.2.2.2, jz12, jz13] rfl (we_asg (ve_call (va_cons (me_pure (a := (lstE PyData.int) m22) (fun _ => (ev_var rfl)) (va_cons (ve_bin (me_pure (a := PyData.int (1 : Int)) (fun _ => ev_cst) (ve_call (va_cons (me_pure (a := (fun (_ : Unit) => dCup) ()) (fun _ => (ev_var rfl)) (va_cons (me_pure (a := PyData.int ((m22.sum) + (2 : Int))) (fun _ => (pv_bin (pv_sum (ev_var rfl)) ev_cst bin_addI)) (va_nil ⟨rfl, me_ex (g := PyData.int) (e_roll ((((h.2.2.1 turn h11).2 r13 h14).2.2.2 m22 h23).1)) (fun r25 h26 => ⟨PyData.int ((1 : Int) + r25), bin_addI, (va_nil ⟨rfl, me_pure (a := (tupE (tupE PyData.int)) (p_l_weighed m22 ((1 : Int) + r25))) (fun _ => q_l_weighed (weights := m22) (goal := ((1 : Int) + r25)) (((((h.2.2.1 turn h11).2 r13 h14).2.2.2 m22 h23).2 r25 h26).1)) (we_fr [jz0, jz1, jz2, jz3, jz4, .d dCup, .d (PyData.int (v_law_many turn r13)), .d ((tupE (tupE PyData.int)) (v_law_bars turn r13 m22 r25)), .d (PyData.int turn), .d ((lstE PyData.int) m22), j10.2.2.2.2.1, j10.2.2.2.2.2, jz12, jz13] rfl (we_iff (vt_or (me_pure (a := (!(p_is_ladder (v_law_many turn r13) (v_law_bars turn r13 m22 r25)))) (fun _ => (pt_cm (pv_cmp (pv_call (pv_cons (ev_var rfl) (pv_cons (ev_var rfl) ev_nil)) rfl (q_is_ladder (papers := (v_law_many turn r13)) (bars := (v_law_bars turn r13 m22 r25)) (((((h.2.2.1 turn h11).2 r13 h14).2.2.2 m22 h23).2 r25 h26).2.1))) ev_cst cmp_isNT))) ⟨fun h28 => (vt_or (me_pure (a := (!(p_l_right (v_law_many turn r13) (v_law_bars turn r13 m22 r25)))) (fun _ => (pt_no (pt_of (pv_call (pv_cons (ev_var rfl) (pv_cons (ev_var rfl) ev_nil)) rfl (q_l_right (many := (v_law_many turn r13)) (bars := (v_law_bars turn r13 m22 r25)) ((((((h.2.2.1 turn h11).2 r13 h14).2.2.2 m22 h23).2 r25 h26).2.2.1 h28).1)))))) ⟨fun h31 => (vt_no (vt_of (ve_call (va_cons (me_pure (a := PyData.int (v_law_many turn r13)) (fun _ => (ev_var rfl)) (va_cons (ve_call (va_cons (me_pure (a := (fun (_ : Unit) => dCup) ()) (fun _ => (ev_var rfl)) (va_cons (me_pure (a := PyData.int (v_law_many turn r13)) (fun _ => (ev_var rfl)) (va_nil ⟨rfl, me_ex (g := (tupE (tupE PyData.int))) (e_l_bars (many := (v_law_many turn r13)) (((((((h.2.2.1 turn h11).2 r13 h14).2.2.2 m22 h23).2 r25 h26).2.2.1 h28).2.1 h31).1)) (fun v35 h36 => (va_nil ⟨rfl, me_pure (a := PyData.bool (p_l_right (v_law_many turn r13) v35)) (fun _ => q_l_right (many := (v_law_many turn r13)) (bars := v35) ((((((((h.2.2.1 turn h11).2 r13 h14).2.2.2 m22 h23).2 r25 h26).2.2.1 h28).2.1 h31).2 v35 h36).1)) ⟨_, rfl, ⟨((((((((h.2.2.1 turn h11).2 r13 h14).2.2.2 m22 h23).2 r25 h26).2.2.1 h28).2.1 h31).2 v35 h36).2.1), (we_par2 (va_cons (ve_bin (me_pure (a := PyData.int (2 : Int)) (fun _ => ev_cst) (ve_call (va_cons (me_pure (a := (fun (_ : Unit) => dCup) ()) (fun _ => (ev_var rfl)) (va_cons (me_pure (a := PyData.int (3 : Int)) (fun _ => ev_cst) (va_nil ⟨rfl, me_ex (g := PyData.int) (e_roll ((((((((h.2.2.1 turn h11).2 r13 h14).2.2.2 m22 h23).2 r25 h26).2.2.1 h28).2.1 h31).2 v35 h36).2.2.1)) (fun r40 h41 => ⟨PyData.int ((2 : Int) + r40), bin_addI, (va_cons (ve_bin (me_pure (a := PyData.int (2 : Int)) (fun _ => ev_cst) (ve_call (va_cons (me_pure (a := (fun (_ : Unit) => dCup) ()) (fun _ => (ev_var rfl)) (va_cons (me_pure (a := PyData.int (3 : Int)) (fun _ => ev_cst) (va_nil ⟨rfl, me_ex (g := PyData.int) (e_roll (((((((((h.2.2.1 turn h11).2 r13 h14).2.2.2 m22 h23).2 r25 h26).2.2.1 h28).2.1 h31).2 v35 h36).2.2.2 r40 h41).1)) (fun r43 h44 => ⟨PyData.int ((2 : Int) + r43), bin_addI, (va_nil ⟨_, _, rfl, (we_fr [jz0, jz1, jz2, jz3, jz4, .d dCup, .d (PyData.int (v_law_many turn r13)), .d ((tupE (tupE PyData.int)) (v_law_bars turn r13 m22 r25)), .d (PyData.int turn), .d ((lstE PyData.int) m22), .d (PyData.int (v_law_few turn r13 m22 r25 v35 r40 r43)), .d (PyData.int (v_law_more turn r13 m22 r25 v35 r40 r43)), jz12, jz13] rfl (we_iff (vt_no (vt_of (ve_call (va_cons (me_pure (a := PyData.int ((v_law_few turn r13 m22 r25 v35 r40 r43) + (v_law_more turn r13 m22 r25 v35 r40 r43))) (fun _ => (pv_bin (ev_var rfl) (ev_var rfl) bin_addI)) (va_cons (ve_call (va_cons (ve_call (va_cons (me_pure (a := (fun (_ : Unit) => dCup) ()) (fun _ => (ev_var rfl)) (va_cons (me_pure (a := PyData.int (v_law_few turn r13 m22 r25 v35 r40 r43)) (fun _ => (ev_var rfl)) (va_nil ⟨rfl, me_ex (g := (tupE (tupE PyData.int))) (e_l_bars (many := (v_law_few turn r13 m22 r25 v35 r40 r43)) ((((((((((h.2.2.1 turn h11).2 r13 h14).2.2.2 m22 h23).2 r25 h26).2.2.1 h28).2.1 h31).2 v35 h36).2.2.2 r40 h41).2 r43 h44).1)) (fun v46 h47 => (va_cons (ve_call (va_cons (me_pure (a := (fun (_ : Unit) => dCup) ()) (fun _ => (ev_var rfl)) (va_cons (me_pure (a := PyData.int (v_law_more turn r13 m22 r25 v35 r40 r43)) (fun _ => (ev_var rfl)) (va_nil ⟨rfl, me_ex (g := (tupE (tupE PyData.int))) (e_l_bars (many := (v_law_more turn r13 m22 r25 v35 r40 r43)) (((((((((((h.2.2.1 turn h11).2 r13 h14).2.2.2 m22 h23).2 r25 h26).2.2.1 h28).2.1 h31).2 v35 h36).2.2.2 r40 h41).2 r43 h44).2 v46 h47).1)) (fun v49 h50 => (va_cons (me_pure (a := PyData.int (v_law_few turn r13 m22 r25 v35 r40 r43)) (fun _ => (ev_var rfl)) (va_nil ⟨rfl, me_pure (a := (tupE (tupE PyData.int)) (p_l_beside v46 v49 (v_law_few turn r13 m22 r25 v35 r40 r43))) (fun _ => q_l_beside (one := v46) (other := v49) (many := (v_law_few turn r13 m22 r25 v35 r40 r43)) ((((((((((((h.2.2.1 turn h11).2 r13 h14).2.2.2 m22 h23).2 r25 h26).2.2.1 h28).2.1 h31).2 v35 h36).2.2.2 r40 h41).2 r43 h44).2 v46 h47).2 v49 h50).1)) (va_nil ⟨rfl, me_pure (a := PyData.bool (p_l_right ((v_law_few turn r13 m22 r25 v35 r40 r43) + (v_law_more turn r13 m22 r25 v35 r40 r43)) (p_l_beside v46 v49 (v_law_few turn r13 m22 r25 v35 r40 r43)))) (fun _ => q_l_right (many := ((v_law_few turn r13 m22 r25 v35 r40 r43) + (v_law_more turn r13 m22 r25 v35 r40 r43))) (bars := (p_l_beside v46 v49 (v_law_few turn r13 m22 r25 v35 r40 r43))) ((((((((((((h.2.2.1 turn h11).2 r13 h14).2.2.2 m22 h23).2 r25 h26).2.2.1 h28).2.1 h31).2 v35 h36).2.2.2 r40 h41).2 r43 h44).2 v46 h47).2 v49 h50).2.1)) ⟨_, rfl, ⟨((((((((((((h.2.2.1 turn h11).2 r13 h14).2.2.2 m22 h23).2 r25 h26).2.2.1 h28).2.1 h31).2 v35 h36).2.2.2 r40 h41).2 r43 h44).2 v46 h47).2 v49 h50).2.2), (we_nop ⟨rfl, (.d (PyData.int turn), .d (PyData.int (v_law_many turn r13)), .d ((lstE PyData.int) m22), .d ((tupE (tupE PyData.int)) (v_law_bars turn r13 m22 r25)), .d (PyData.int (v_law_few turn r13 m22 r25 v35 r40 r43)), .d (PyData.int (v_law_more turn r13 m22 r25 v35 r40 r43))), rfl⟩)⟩⟩⟩)⟩))))⟩))))))))⟩))))))))))))))))⟩)⟩)⟩)))))))))⟩)⟩))))))))))⟩⟩⟩))⟩)))))))))))), fun h32 => ⟨(((((((h.2.2.1 turn h11).2 r13 h14).2.2.2 m22 h23).2 r25 h26).2.2.1 h28).2.2 h32).1), (we_par2 (va_cons (ve_bin (me_pure (a := PyData.int (2 : Int)) (fun _ => ev_cst) (ve_call (va_cons (me_pure (a := (fun (_ : Unit) => dCup) ()) (fun _ => (ev_var rfl)) (va_cons (me_pure (a := PyData.int (3 : Int)) (fun _ => ev_cst) (va_nil ⟨rfl, me_ex (g := PyData.int) (e_roll (((((((h.2.2.1 turn h11).2 r13 h14).2.2.2 m22 h23).2 r25 h26).2.2.1 h28).2.2 h32).2.1)) (fun r56 h57 => ⟨PyData.int ((2 : Int) + r56), bin_addI, (va_cons (ve_bin (me_pure (a := PyData.int (2 : Int)) (fun _ => ev_cst) (ve_call (va_cons (me_pure (a := (fun (_ : Unit) => dCup) ()) (fun _ => (ev_var rfl)) (va_cons (me_pure (a := PyData.int (3 : Int)) (fun _ => ev_cst) (va_nil ⟨rfl, me_ex (g := PyData.int) (e_roll ((((((((h.2.2.1 turn h11).2 r13 h14).2.2.2 m22 h23).2 r25 h26).2.2.1 h28).2.2 h32).2.2 r56 h57).1)) (fun r59 h60 => ⟨PyData.int ((2 : Int) + r59), bin_addI, (va_nil ⟨_, _, rfl, (we_fr [jz0, jz1, jz2, jz3, jz4, .d dCup, .d (PyData.int (v_law_many turn r13)), .d ((tupE (tupE PyData.int)) (v_law_bars turn r13 m22 r25)), .d (PyData.int turn), .d ((lstE PyData.int) m22), .d (PyData.int (v_law_few' turn r13 m22 r25 r56 r59)), .d (PyData.int (v_law_more' turn r13 m22 r25 r56 r59)), jz12, jz13] rfl (we_iff (vt_no (vt_of (ve_call (va_cons (me_pure (a := PyData.int ((v_law_few' turn r13 m22 r25 r56 r59) + (v_law_more' turn r13 m22 r25 r56 r59))) (fun _ => (pv_bin (ev_var rfl) (ev_var rfl) bin_addI)) (va_cons (ve_call (va_cons (ve_call (va_cons (me_pure (a := (fun (_ : Unit) => dCup) ()) (fun _ => (ev_var rfl)) (va_cons (me_pure (a := PyData.int (v_law_few' turn r13 m22 r25 r56 r59)) (fun _ => (ev_var rfl)) (va_nil ⟨rfl, me_ex (g := (tupE (tupE PyData.int))) (e_l_bars (many := (v_law_few' turn r13 m22 r25 r56 r59)) (((((((((h.2.2.1 turn h11).2 r13 h14).2.2.2 m22 h23).2 r25 h26).2.2.1 h28).2.2 h32).2.2 r56 h57).2 r59 h60).1)) (fun v62 h63 => (va_cons (ve_call (va_cons (me_pure (a := (fun (_ : Unit) => dCup) ()) (fun _ => (ev_var rfl)) (va_cons (me_pure (a := PyData.int (v_law_more' turn r13 m22 r25 r56 r59)) (fun _ => (ev_var rfl)) (va_nil ⟨rfl, me_ex (g := (tupE (tupE PyData.int))) (e_l_bars (many := (v_law_more' turn r13 m22 r25 r56 r59)) ((((((((((h.2.2.1 turn h11).2 r13 h14).2.2.2 m22 h23).2 r25 h26).2.2.1 h28).2.2 h32).2.2 r56 h57).2 r59 h60).2 v62 h63).1)) (fun v65 h66 => (va_cons (me_pure (a := PyData.int (v_law_few' turn r13 m22 r25 r56 r59)) (fun _ => (ev_var rfl)) (va_nil ⟨rfl, me_pure (a := (tupE (tupE PyData.int)) (p_l_beside v62 v65 (v_law_few' turn r13 m22 r25 r56 r59))) (fun _ => q_l_beside (one := v62) (other := v65) (many := (v_law_few' turn r13 m22 r25 r56 r59)) (((((((((((h.2.2.1 turn h11).2 r13 h14).2.2.2 m22 h23).2 r25 h26).2.2.1 h28).2.2 h32).2.2 r56 h57).2 r59 h60).2 v62 h63).2 v65 h66).1)) (va_nil ⟨rfl, me_pure (a := PyData.bool (p_l_right ((v_law_few' turn r13 m22 r25 r56 r59) + (v_law_more' turn r13 m22 r25 r56 r59)) (p_l_beside v62 v65 (v_law_few' turn r13 m22 r25 r56 r59)))) (fun _ => q_l_right (many := ((v_law_few' turn r13 m22 r25 r56 r59) + (v_law_more' turn r13 m22 r25 r56 r59))) (bars := (p_l_beside v62 v65 (v_law_few' turn r13 m22 r25 r56 r59))) (((((((((((h.2.2.1 turn h11).2 r13 h14).2.2.2 m22 h23).2 r25 h26).2.2.1 h28).2.2 h32).2.2 r56 h57).2 r59 h60).2 v62 h63).2 v65 h66).2.1)) ⟨_, rfl, ⟨(((((((((((h.2.2.1 turn h11).2 r13 h14).2.2.2 m22 h23).2 r25 h26).2.2.1 h28).2.2 h32).2.2 r56 h57).2 r59 h60).2 v62 h63).2 v65 h66).2.2), (we_nop ⟨rfl, (.d (PyData.int turn), .d (PyData.int (v_law_many turn r13)), .d ((lstE PyData.int) m22), .d ((tupE (tupE PyData.int)) (v_law_bars turn r13 m22 r25)), .d (PyData.int (v_law_few' turn r13 m22 r25 r56 r59)), .d (PyData.int (v_law_more' turn r13 m22 r25 r56 r59))), rfl⟩)⟩⟩⟩)⟩))))⟩))))))))⟩))))))))))))))))⟩)⟩)⟩)))))))))⟩)⟩))))))))))⟩⟩)), fun h29 => ⟨((((((h.2.2.1 turn h11).2 r13 h14).2.2.2 m22 h23).2 r25 h26).2.2.2 h29).1), (we_par2 (va_cons (ve_bin (me_pure (a := PyData.int (2 : Int)) (fun _ => ev_cst) (ve_call (va_cons (me_pure (a := (fun (_ : Unit) => dCup) ()) (fun _ => (ev_var rfl)) (va_cons (me_pure (a := PyData.int (3 : Int)) (fun _ => ev_cst) (va_nil ⟨rfl, me_ex (g := PyData.int) (e_roll ((((((h.2.2.1 turn h11).2 r13 h14).2.2.2 m22 h23).2 r25 h26).2.2.2 h29).2.1)) (fun r72 h73 => ⟨PyData.int ((2 : Int) + r72), bin_addI, (va_cons (ve_bin (me_pure (a := PyData.int (2 : Int)) (fun _ => ev_cst) (ve_call (va_cons (me_pure (a := (fun (_ : Unit) => dCup) ()) (fun _ => (ev_var rfl)) (va_cons (me_pure (a := PyData.int (3 : Int)) (fun _ => ev_cst) (va_nil ⟨rfl, me_ex (g := PyData.int) (e_roll (((((((h.2.2.1 turn h11).2 r13 h14).2.2.2 m22 h23).2 r25 h26).2.2.2 h29).2.2 r72 h73).1)) (fun r75 h76 => ⟨PyData.int ((2 : Int) + r75), bin_addI, (va_nil ⟨_, _, rfl, (we_fr [jz0, jz1, jz2, jz3, jz4, .d dCup, .d (PyData.int (v_law_many turn r13)), .d ((tupE (tupE PyData.int)) (v_law_bars turn r13 m22 r25)), .d (PyData.int turn), .d ((lstE PyData.int) m22), .d (PyData.int (v_law_few'' turn r13 m22 r25 r72 r75)), .d (PyData.int (v_law_more'' turn r13 m22 r25 r72 r75)), jz12, jz13] rfl (we_iff (vt_no (vt_of (ve_call (va_cons (me_pure (a := PyData.int ((v_law_few'' turn r13 m22 r25 r72 r75) + (v_law_more'' turn r13 m22 r25 r72 r75))) (fun _ => (pv_bin (ev_var rfl) (ev_var rfl) bin_addI)) (va_cons (ve_call (va_cons (ve_call (va_cons (me_pure (a := (fun (_ : Unit) => dCup) ()) (fun _ => (ev_var rfl)) (va_cons (me_pure (a := PyData.int (v_law_few'' turn r13 m22 r25 r72 r75)) (fun _ => (ev_var rfl)) (va_nil ⟨rfl, me_ex (g := (tupE (tupE PyData.int))) (e_l_bars (many := (v_law_few'' turn r13 m22 r25 r72 r75)) ((((((((h.2.2.1 turn h11).2 r13 h14).2.2.2 m22 h23).2 r25 h26).2.2.2 h29).2.2 r72 h73).2 r75 h76).1)) (fun v78 h79 => (va_cons (ve_call (va_cons (me_pure (a := (fun (_ : Unit) => dCup) ()) (fun _ => (ev_var rfl)) (va_cons (me_pure (a := PyData.int (v_law_more'' turn r13 m22 r25 r72 r75)) (fun _ => (ev_var rfl)) (va_nil ⟨rfl, me_ex (g := (tupE (tupE PyData.int))) (e_l_bars (many := (v_law_more'' turn r13 m22 r25 r72 r75)) (((((((((h.2.2.1 turn h11).2 r13 h14).2.2.2 m22 h23).2 r25 h26).2.2.2 h29).2.2 r72 h73).2 r75 h76).2 v78 h79).1)) (fun v81 h82 => (va_cons (me_pure (a := PyData.int (v_law_few'' turn r13 m22 r25 r72 r75)) (fun _ => (ev_var rfl)) (va_nil ⟨rfl, me_pure (a := (tupE (tupE PyData.int)) (p_l_beside v78 v81 (v_law_few'' turn r13 m22 r25 r72 r75))) (fun _ => q_l_beside (one := v78) (other := v81) (many := (v_law_few'' turn r13 m22 r25 r72 r75)) ((((((((((h.2.2.1 turn h11).2 r13 h14).2.2.2 m22 h23).2 r25 h26).2.2.2 h29).2.2 r72 h73).2 r75 h76).2 v78 h79).2 v81 h82).1)) (va_nil ⟨rfl, me_pure (a := PyData.bool (p_l_right ((v_law_few'' turn r13 m22 r25 r72 r75) + (v_law_more'' turn r13 m22 r25 r72 r75)) (p_l_beside v78 v81 (v_law_few'' turn r13 m22 r25 r72 r75)))) (fun _ => q_l_right (many := ((v_law_few'' turn r13 m22 r25 r72 r75) + (v_law_more'' turn r13 m22 r25 r72 r75))) (bars := (p_l_beside v78 v81 (v_law_few'' turn r13 m22 r25 r72 r75))) ((((((((((h.2.2.1 turn h11).2 r13 h14).2.2.2 m22 h23).2 r25 h26).2.2.2 h29).2.2 r72 h73).2 r75 h76).2 v78 h79).2 v81 h82).2.1)) ⟨_, rfl, ⟨((((((((((h.2.2.1 turn h11).2 r13 h14).2.2.2 m22 h23).2 r25 h26).2.2.2 h29).2.2 r72 h73).2 r75 h76).2 v78 h79).2 v81 h82).2.2), (we_nop ⟨rfl, (.d (PyData.int turn), .d (PyData.int (v_law_many turn r13)), .d ((lstE PyData.int) m22), .d ((tupE (tupE PyData.int)) (v_law_bars turn r13 m22 r25)), .d (PyData.int (v_law_few'' turn r13 m22 r25 r72 r75)), .d (PyData.int (v_law_more'' turn r13 m22 r25 r72 r75))), rfl⟩)⟩⟩⟩)⟩))))⟩))))))))⟩))))))))))))))))⟩)⟩)⟩)))))))))⟩)⟩))))))))))⟩⟩))))⟩)⟩)⟩)))))))))))))))))))⟩)⟩)))))))))⟩) (fun j10 => (we_ret (me_pure (a := PyData.bool true) (fun _ => ev_cst) ⟨true, rfl, h.2.2.2⟩))))))))))
def envOf : Re (Fl × En) → En
  | .ok p _ => p.2
  | _ => []
def e_pre (a : Nat) : En := envOf (b_pre (initE 14 [dPtr a]) none)
theorem law_holds (h : ok_law) (pre : ∀ a, ∃ ρ : En, b_pre (initE 14 [dPtr a]) none = .ok (.next, ρ) none ∧ ρ[0]? = some (.d (dPtr a)) ∧ ρ.length = 14) : Hd.Plain := fun a ns _ => by
  obtain ⟨ρ, h1, h2, h3⟩ := pre a
  have e : ρ.set 5 (.d dCup) = [(ρ[0]?).getD .no, (ρ[1]?).getD .no, (ρ[2]?).getD .no, (ρ[3]?).getD .no, (ρ[4]?).getD .no, .d dCup, (ρ[6]?).getD .no, (ρ[7]?).getD .no, (ρ[8]?).getD .no, (ρ[9]?).getD .no, (ρ[10]?).getD .no, (ρ[11]?).getD .no, (ρ[12]?).getD .no, (ρ[13]?).getD .no] := by
    refine List.ext_getElem? fun i => ?_
    match i with
    | 0 => rw [List.getElem?_set_ne (by decide), List.getElem?_eq_getElem (by omega)]; rfl
    | 1 => rw [List.getElem?_set_ne (by decide), List.getElem?_eq_getElem (by omega)]; rfl
    | 2 => rw [List.getElem?_set_ne (by decide), List.getElem?_eq_getElem (by omega)]; rfl
    | 3 => rw [List.getElem?_set_ne (by decide), List.getElem?_eq_getElem (by omega)]; rfl
    | 4 => rw [List.getElem?_set_ne (by decide), List.getElem?_eq_getElem (by omega)]; rfl
    | 5 => rw [List.getElem?_set_self (by omega)]; rfl
    | 6 => rw [List.getElem?_set_ne (by decide), List.getElem?_eq_getElem (by omega)]; rfl
    | 7 => rw [List.getElem?_set_ne (by decide), List.getElem?_eq_getElem (by omega)]; rfl
    | 8 => rw [List.getElem?_set_ne (by decide), List.getElem?_eq_getElem (by omega)]; rfl
    | 9 => rw [List.getElem?_set_ne (by decide), List.getElem?_eq_getElem (by omega)]; rfl
    | 10 => rw [List.getElem?_set_ne (by decide), List.getElem?_eq_getElem (by omega)]; rfl
    | 11 => rw [List.getElem?_set_ne (by decide), List.getElem?_eq_getElem (by omega)]; rfl
    | 12 => rw [List.getElem?_set_ne (by decide), List.getElem?_eq_getElem (by omega)]; rfl
    | 13 => rw [List.getElem?_set_ne (by decide), List.getElem?_eq_getElem (by omega)]; rfl
    | k + 14 => rw [List.getElem?_eq_none (by rw [List.length_set, h3]; omega), List.getElem?_eq_none (by simp)]
  obtain ⟨⟨fl, ρ2⟩, c, e1, _, v, hv, hv2⟩ := e_post h (c := some (cupI ns, cupJ ns)) ⟨_, rfl⟩
  refine ⟨ρ, ρ2, c, h1, h2, ?_⟩
  rw [e, e1]
  have hv' : fl = .ret (PyData.bool v) := hv
  rw [hv', hv2]
end Hd

namespace Hd
open PySem PySem.Spec PyProof.Rows L2 Mi
theorem bars_ok6 {n : Int} (h1 : 1 ≤ n) (h10 : n ≤ 10) : ok_l_bars n := by
  refine ⟨by decide, fun r hr => ⟨by decide, fun q hq => ⟨by omega, ⟨Nat.le_refl _, fun l hl => by cases hl⟩, fun k s t ht hk _ hs => ⟨by omega, fits (by rw [len_rgZ]; omega), fun x hx => by unfold v_l_bars_part; omega, fun m hm => ⟨fun hne => ⟨fits (by have := hs.1; rw [len_rgZ] at hk; simp only [List.length_cons, List.length_nil]; omega), ?_⟩, fun he => ⟨by omega, fun e he2 => ⟨fits (by have := hs.1; rw [len_rgZ] at hk; simp only [List.length_cons, List.length_nil]; omega), ?_⟩⟩⟩⟩, fun s hs => ?_⟩⟩⟩
  · refine ⟨?_, fun l hl => ?_⟩
    · show (s ++ [m]).length ≤ k + 1
      rw [List.length_append]; have := hs.1; simp only [List.length_cons, List.length_nil]; omega
    · rcases List.mem_append.mp hl with h | h
      · exact hs.2 l h
      · rw [List.mem_singleton.mp h]
        simp only [Bool.not_eq_true', decide_eq_false_iff_not] at hne
        exact ⟨hne, (pw_rgZ n).sublist hm.1, fun x hx => mem_rgZ.mp (hm.1.subset hx)⟩
  · refine ⟨?_, fun l hl => ?_⟩
    · show (s ++ [[e]]).length ≤ k + 1
      rw [List.length_append]; have := hs.1; simp only [List.length_cons, List.length_nil]; omega
    · rcases List.mem_append.mp hl with h | h
      · exact hs.2 l h
      · rw [List.mem_singleton.mp h]
        exact ⟨by simp, by simp, fun x hx => by rw [List.mem_singleton.mp hx]; exact he2⟩
  · have hl : s.length ≤ 6 := by have := hs.1; rw [len_rgZ] at this; omega
    exact ⟨ok_least (by omega) fun l h => by have := (hs.2 l h).len h10; omega, good_least h1 h10 hs.2 (by have := @least_len s; omega), by have := @least_len s; omega⟩
def goodB (n : Int) (bs : List (List Int)) : Bool := decide (bs.length ≤ 100) && bs.all (fun b => decide (b.length ≤ 100) && (!b.isEmpty && (decide (b.Pairwise (· < ·)) && b.all fun x => decide (0 ≤ x) && decide (x < n)))) && decide (bs.Pairwise fun a b => ltI a b = true) && bs.all fun a => bs.all fun b => !(a.all fun x => b.contains x) || decide (a = b)
theorem goodB_ok {n : Int} {bs : List (List Int)} (h1 : 1 ≤ n) (h10 : n ≤ 10) (h : goodB n bs = true) : Good n bs := by
  unfold goodB at h
  simp only [Bool.and_eq_true, List.all_eq_true, decide_eq_true_eq, Bool.not_eq_true', List.isEmpty_eq_false_iff, Bool.or_eq_true] at h
  refine ⟨h1, h10, ⟨h.1.1.1, fun b hb => (h.1.1.2 b hb).1⟩, fun b hb => (h.1.1.2 b hb).2.1, fun b hb => (h.1.1.2 b hb).2.2.1, fun b hb => (h.1.1.2 b hb).2.2.2, h.1.2, fun a ha b hb k => ?_⟩
  rcases h.2 a ha b hb with z | z
  · have : (a.all fun x => b.contains x) = true := List.all_eq_true.mpr fun x hx => by simpa using k x hx
    rw [this] at z; cases z
  · exact z
theorem fam_good {n : Int} (h : n ∈ [(1 : Int), 2, 3]) : (p_l_families n).length ≤ 100 ∧ ∀ bs ∈ p_l_families n, Good n bs := by
  have q : n = 1 ∨ n = 2 ∨ n = 3 := by simpa using h
  rcases q with rfl | rfl | rfl
  · exact ⟨by decide, fun bs hb => goodB_ok (by decide) (by decide) (List.all_eq_true.mp (show (fam1.all (goodB 1)) = true by decide +kernel) bs hb)⟩
  · exact ⟨by decide, fun bs hb => goodB_ok (by decide) (by decide) (List.all_eq_true.mp (show (fam2.all (goodB 2)) = true by decide +kernel) bs hb)⟩
  · exact ⟨by decide, fun bs hb => goodB_ok (by decide) (by decide) (List.all_eq_true.mp (show (fam3.all (goodB 3)) = true by decide +kernel) bs hb)⟩
end Hd

namespace Hd
open PySem PySem.Spec PyProof.Rows L2 Mi
section
variable {n : Int} {bs : List (List Int)} {i j k : Int}
theorem ok_hv (G : Good n bs) : ok_heavier_in n bs i := ⟨by have := G.n1; have := G.n10; omega, fits (by have := G.n10; rw [len_rgZ]; omega), fun _ _ => ok_lighter G.few⟩
theorem hvy_len : (v_unlike_pair_heavier n bs).length = n.toNat := by unfold v_unlike_pair_heavier; rw [List.length_map, len_rgZ]
theorem ok_unlike (G : Good n bs) : ok_unlike_pair n bs := by
  have h1 := G.n1
  have h10 := G.n10
  have hl : ((v_unlike_pair_heavier n bs).length : Int) = n := by rw [hvy_len]; omega
  refine ⟨by omega, fits (by rw [len_rgZ]; omega), fun _ _ => ok_hv G, by omega, fun x hx => ?_⟩
  have := mem_rgZ.mp hx
  refine ⟨by omega, fun y hy => ?_⟩
  have := mem_rg2.mp hy
  rw [hl]
  exact ⟨by omega, fun _ => by omega⟩
theorem ok_islad (G : Good n bs) : ok_is_ladder n bs := ⟨ok_nbars G, ok_unlike G⟩
theorem ok_ladbar (G : Good n bs) : ok_ladder_bar n bs := ⟨ok_nbars G, ok_unlike G⟩
theorem steps_err (G : Good n bs) (h : apartC n bs ≠ []) (c : Cp) : f_ladder_steps [.int n, tupE (tupE PyData.int) bs] c = .err "NotFound" c := by
  have e : f_unlike_pair [.int n, tupE (tupE PyData.int) bs] c = .ok (optE (tupE PyData.int) (p_unlike_pair n bs)) c := q_unlike_pair (ok_unlike G)
  have s : (p_unlike_pair n bs).isSome = true := by
    rw [unlike_eq]
    cases h2 : apartC n bs with
    | nil => exact absurd h2 h
    | cons a r => rfl
  have t : tCm (eCmp .IsNot (eCall 2 f_unlike_pair (aCons (eVar 0) (aCons (eVar 1) aNil))) (eCst .none)) (initE 7 [.int n, tupE (tupE PyData.int) bs]) c = .ok true c := by
    rw [← s]
    exact pt_cm (pv_cmp (pv_call (pv_cons (ev_var rfl) (pv_cons (ev_var rfl) ev_nil)) rfl e) ev_cst (cmp_isNN NN.tup))
  exact bod_err ((es_next (es_exp ((ev_call (pv_two (ev_var rfl) (ev_var rfl)) rfl).trans (q_need_bars (ok_nbars G))))).trans (es_err ((es_if t).trans (es_err rfl))))
theorem ok_steps (G : Good n bs) (T : apartC n bs = []) : ok_ladder_steps n bs := by
  have h1 := G.n1
  have h10 := G.n10
  have ml : ((v_ladder_steps_many n bs).length : Int) = n := by unfold v_ladder_steps_many; rw [List.length_map, len_rgZ]; omega
  refine ⟨ok_nbars G, ok_unlike G, by rw [unlike_eq, T]; rfl, by omega, fits (by rw [len_rgZ]; omega), fun _ _ => ok_hv G, by omega, okF_inv (fun k s => s.length ≤ k) _ 0 [] (Nat.le_refl _) fun k s x hx hk hs => ⟨⟨by omega, fits (by rw [len_rgZ]; omega), fun y hy => by rw [ml]; exact mem_rgZ.mp hy, ?_⟩, ?_⟩⟩
  · have : (ssI (v_ladder_steps_many n bs)).length ≤ 10 := by
      have p := asc_sub (pw_ssI (v_ladder_steps_many n bs)) (pw_rgZ 11) fun z hz => by
        rw [mem_ssI] at hz
        unfold v_ladder_steps_many at hz
        obtain ⟨q, _, rfl⟩ := List.mem_map.mp hz
        have := @hv_len n bs q
        exact mem_rgZ.mpr (by omega)
      have e : ssI (v_ladder_steps_many n bs) = ssI ((rgZ n).map (cnt n bs)) := rfl
      have sub : ∀ (l : List Int), (ssI l).length ≤ l.length := by
        intro l
        induction l with
        | nil => exact Nat.le_refl _
        | cons a l ih =>
          have : ∀ (x : Int) (l : List Int), (Mi.insI x l).length ≤ l.length + 1 := by
            intro x l
            induction l with
            | nil => exact Nat.le_refl _
            | cons y r ih2 =>
              unfold Mi.insI
              split
              · exact Nat.le_refl _
              · split
                · exact Nat.le_succ _
                · exact Nat.succ_le_succ ih2
          exact Nat.le_trans (this a (ssI l)) (Nat.succ_le_succ ih)
      have := sub (v_ladder_steps_many n bs)
      omega
    rw [List.length_reverse] at hk
    exact Nat.lt_of_le_of_lt (show s.length ≤ 100 by omega) (by decide)
  · show (s ++ [_]).length ≤ k + 1
    rw [List.length_append]; simp only [List.length_cons, List.length_nil]; omega
theorem steps_len (h : n ≤ 10) : (p_ladder_steps n bs).length ≤ 11 := by
  rw [steps_eq, List.length_map]
  have p := (asc_sub (pw_ssI ((rgZ n).map (cnt n bs))) (pw_rgZ 11) fun z hz => by
    rw [mem_ssI] at hz
    obtain ⟨q, _, rfl⟩ := List.mem_map.mp hz
    have := @hv_len n bs q
    unfold cnt
    exact mem_rgZ.mpr (by omega)).length_le
  unfold nums
  rw [List.length_reverse]
  rw [len_rgZ] at p
  exact p
theorem right_ok (G : Good n bs) : ok_l_right n bs ∧ p_l_right n bs = true := by
  have h1 := G.n1
  have h10 := G.n10
  have F := G.few
  have rn : -(2 ^ 62) ≤ n ∧ n < 2 ^ 62 := by omega
  have rl : (rgZ n).length ≤ sizeLine := fits (by rw [len_rgZ]; omega)
  have tl : ((v_l_right_table n bs).length : Int) = n := by rw [tab_len]; omega
  have tr : ∀ {x : Int}, x ∈ rgZ n → ((gI (v_l_right_table n bs) x).length : Int) = n := fun hx => by
    rw [tab_row hx, List.length_map, len_rgZ]; omega
  have r2 : ∀ x, 0 ≤ x → (rg2 (x + 1) n).length ≤ 10 := fun x hx => by rw [len_rg2]; omega
  -- steps
  have st : v_l_right_steps n bs = (nums n bs).map (cls_ n bs) := steps_eq
  have sl : ((v_l_right_steps n bs).length : Int) = (nums n bs).length := by rw [st, List.length_map]
  have sg : ∀ {x : Int}, 0 ≤ x → x < (nums n bs).length → gI (v_l_right_steps n bs) x = cls_ n bs (gI (nums n bs) x) ∧ gI (nums n bs) x ∈ nums n bs := fun h0 h2 => by
    rw [st, gI_map ⟨h0, h2⟩]
    exact ⟨rfl, gI_mem ⟨h0, h2⟩⟩
  have hd : ∀ {x : Int}, 0 ≤ x → x < (nums n bs).length → gI (gI (v_l_right_steps n bs) x) 0 ∈ rgZ n ∧ cnt n bs (gI (gI (v_l_right_steps n bs) x) 0) = gI (nums n bs) x ∧ (0 ≤ (0 : Int) ∧ (0 : Int) < ((gI (v_l_right_steps n bs) x).length : Int)) := fun h0 h2 => by
    obtain ⟨e, m⟩ := sg h0 h2
    rw [e]
    have q := mem_cls.mp (cls_head m)
    have := List.length_pos_iff.mpr (cls_ne m)
    exact ⟨q.1, q.2, by omega⟩
  have lot_len : ∀ z ∈ lotsC n bs, z.length ≤ 10 := fun z hz => by
    unfold lotsC at hz
    obtain ⟨x, _, rfl⟩ := List.mem_map.mp hz
    exact Nat.le_trans (List.length_filter_le ..) (by rw [len_rgZ]; omega)
  have lotsEq : ((rgZ n).map fun (own : Int) => ((rgZ n).filter fun (far : Int) => ((gI (gI (v_l_right_table n bs) own) far) && (gI (gI (v_l_right_table n bs) far) own)))) = lotsC n bs := by
    unfold lotsC
    refine List.map_congr_left fun x hx => ?_
    exact List.filter_congr fun y hy => by rw [tab hx hy, tab hy hx]
  have pair : apartC n bs = [] → ∀ {x : Int}, x ∈ rgZ (((v_l_right_steps n bs).length : Int) - 1) → (0 ≤ x ∧ x + 1 < (nums n bs).length) ∧ ow bs (gI (gI (v_l_right_steps n bs) (x + 1)) 0) (gI (gI (v_l_right_steps n bs) x) 0) = true ∧ ow bs (gI (gI (v_l_right_steps n bs) x) 0) (gI (gI (v_l_right_steps n bs) (x + 1)) 0) = false := fun T {x} hx => by
    have hx' := mem_rgZ.mp hx
    rw [sl] at hx'
    have a := hd (x := x + 1) (by omega) (by omega)
    have b := hd (x := x) (by omega) (by omega)
    refine ⟨by omega, step_pair G.anti T a.1 b.1 ?_⟩
    rw [a.2.1, b.2.1]
    exact gI_pw nums_pw (by omega) (by omega) (by omega)
  unfold ok_l_right p_l_right
  rw [apart_eq, lotsEq]
  refine ⟨⟨rn, rl, fun x hx => ⟨rn, rl, fun y hy => ok_low F⟩, rn, okF_inv (fun k s => s.length ≤ k * 10) _ 0 [] (Nat.le_refl _) fun k s x hx hk hs => ⟨⟨?_, fits ?_, fun y hy => ?_, fits ?_⟩, ?_⟩, ok_islad G, ok_ladbar G, fun h => ?_, ⟨?_, ?_⟩, rfl, fun h c => steps_err G (by simpa using h) c, fun h => ?_⟩, ?_⟩
  · have := mem_rgZ.mp hx; omega
  · have := r2 x (mem_rgZ.mp hx).1; omega
  · have m := in_rg2 hx hy
    rw [tl, tr hx, tr m]
    exact ⟨mem_rgZ.mp hx, mem_rgZ.mp m, fun _ => ⟨mem_rgZ.mp m, mem_rgZ.mp hx⟩⟩
  · rw [len_rgZ] at hk
    rw [List.length_map]
    have := r2 x (mem_rgZ.mp hx).1
    have := List.length_filter_le (fun (other : Int) => ((!(gI (gI (v_l_right_table n bs) x) other)) && (!(gI (gI (v_l_right_table n bs) other) x)))) (rg2 (x + 1) n)
    omega
  · show (s ++ List.map _ _).length ≤ (k + 1) * 10
    rw [List.length_append, List.length_map]
    have := r2 x (mem_rgZ.mp hx).1
    have := List.length_filter_le (fun (other : Int) => ((!(gI (gI (v_l_right_table n bs) x) other)) && (!(gI (gI (v_l_right_table n bs) other) x)))) (rg2 (x + 1) n)
    omega
  · have : apartC n bs ≠ [] := by simpa using h
    have := List.length_pos_iff.mpr this
    omega
  · unfold p_is_ladder p_ladder_bar
    rw [head_gI, unlike_eq]
    cases apartC n bs <;> rfl
  · refine lk_q2 lk_b (lk_o fun a ha => lk_row ?_)
    have e : (apartC n bs).head? = some a := by rw [← unlike_eq]; exact ha
    have m := List.mem_of_mem_head? e
    unfold apartC at m
    obtain ⟨x, _, h2⟩ := List.mem_flatMap.mp m
    obtain ⟨y, _, rfl⟩ := List.mem_map.mp h2
    exact (show 2 ≤ 1000000 by decide)
  · have T : apartC n bs = [] := by simpa using h
    refine ⟨ok_steps G T, rn, rl, fun x hx => ⟨rn, rl, fun y hy => ?_⟩, ⟨?_, fun z hz => fits (by have := lot_len z hz; omega)⟩, ?_, ?_, fits ?_, fun x hx => ?_⟩
    · rw [tl, tr hx, tr hy]
      exact ⟨mem_rgZ.mp hx, mem_rgZ.mp hy, fun _ => ⟨mem_rgZ.mp hy, mem_rgZ.mp hx⟩⟩
    · unfold lotsC; rw [List.length_map, len_rgZ]; omega
    · have e1 : decide ((srtR (v_l_right_steps n bs) : List (List Int)) = v_l_right_lots n bs) = true := decide_eq_true (by rw [lots_eq']; exact sort_steps G.anti T)
      rw [e1]; rfl
    · have := steps_len (n := n) (bs := bs) h10
      have e : (v_l_right_steps n bs).length = (p_ladder_steps n bs).length := rfl
      omega
    · have := steps_len (n := n) (bs := bs) h10
      have e : (v_l_right_steps n bs).length = (p_ladder_steps n bs).length := rfl
      rw [len_rgZ]; omega
    · have P := pair T hx
      have a := hd (x := x + 1) (by omega) (by omega)
      have b := hd (x := x) (by omega) (by omega)
      rw [sl, tl, tr a.1, tr b.1]
      have ra := mem_rgZ.mp a.1
      have rb := mem_rgZ.mp b.1
      exact ⟨by omega, a.2.2, ra, by omega, b.2.2, rb, fun _ => ⟨by omega, b.2.2, rb, by omega, a.2.2, ra⟩⟩
  · by_cases T : apartC n bs = []
    · rw [decide_eq_true T]
      have e : v_l_right_wrong n bs = [] := List.filter_eq_nil_iff.mpr fun x hx z => by
        have P := pair T hx
        have a := hd (x := x + 1) (by omega) (by omega)
        have b := hd (x := x) (by omega) (by omega)
        rw [tab a.1 b.1, tab b.1 a.1, P.2.1, P.2.2] at z
        cases z
      rw [e]; rfl
    · rw [decide_eq_false T]; rfl
/-! bars side by side, bars of weights -/
theorem pairwise_shift {b : List Int} {m : Int} (h : b.Pairwise (· < ·)) : (b.map fun own => own + m).Pairwise (· < ·) := List.pairwise_map.mpr (h.imp fun h => by omega)
theorem shift_inj {b d : List Int} {m : Int} (e : (b.map fun own => own + m) = d.map fun own => own + m) : b = d := by
  have := congrArg (List.map fun x => x - m) e
  rw [List.map_map, List.map_map] at this
  have q : ((fun x : Int => x - m) ∘ fun own => own + m) = id := by funext x; simp
  rw [q, List.map_id, List.map_id] at this
  exact this
theorem good_beside {a b : Int} {A B : List (List Int)} (GA : Good a A) (GB : Good b B) (la : A.length ≤ 6) (lb : B.length ≤ 6) (hab : a + b ≤ 10) : Good (a + b) (p_l_beside A B a) := by
  have ha := GA.n1
  have hb := GB.n1
  have mem : ∀ x, x ∈ p_l_beside A B a ↔ x ∈ A ∨ ∃ d ∈ B, (d.map fun own => own + a) = x := fun x => by
    unfold p_l_beside
    rw [mem_srtR, List.mem_append, List.mem_map]
  have len : (p_l_beside A B a).length ≤ 12 := by
    unfold p_l_beside
    rw [len_srtR, List.length_append, List.length_map]; omega
  have lowB : ∀ d ∈ B, ∀ x ∈ d.map (fun own => own + a), a ≤ x ∧ x < a + b := fun d hd x hx => by
    obtain ⟨y, hy, rfl⟩ := List.mem_map.mp hx
    have := GB.low d hd y hy
    omega
  have neB : ∀ d ∈ B, (d.map fun own => own + a) ≠ [] := fun d hd z => GB.non d hd (List.map_eq_nil_iff.mp z)
  have apart : ∀ x ∈ A, ∀ d ∈ B, ¬ (∀ y ∈ x, y ∈ d.map fun own => own + a) ∧ ¬ (∀ y ∈ d.map (fun own => own + a), y ∈ x) := fun x hx d hd => by
    refine ⟨fun z => ?_, fun z => ?_⟩
    · obtain ⟨y, hy⟩ := List.exists_mem_of_ne_nil _ (GA.non x hx)
      have := GA.low x hx y hy
      have := lowB d hd y (z y hy)
      omega
    · obtain ⟨y, hy⟩ := List.exists_mem_of_ne_nil _ (neB d hd)
      have := GA.low x hx y (z y hy)
      have := lowB d hd y hy
      omega
  refine ⟨by omega, hab, ⟨by omega, fun x hx => ?_⟩, fun x hx => ?_, fun x hx => ?_, fun x hx => ?_, ?_, fun x hx y hy hxy => ?_⟩
  · rcases (mem x).mp hx with h | ⟨d, hd, rfl⟩
    · exact GA.few.all x h
    · rw [List.length_map]; exact GB.few.all d hd
  · rcases (mem x).mp hx with h | ⟨d, hd, rfl⟩
    · exact GA.non x h
    · exact neB d hd
  · rcases (mem x).mp hx with h | ⟨d, hd, rfl⟩
    · exact GA.asc x h
    · exact pairwise_shift (GB.asc d hd)
  · rcases (mem x).mp hx with h | ⟨d, hd, rfl⟩
    · exact fun y hy => by have := GA.low x h y hy; omega
    · exact fun y hy => by have := lowB d hd y hy; omega
  · unfold p_l_beside
    refine srtR_lt (List.nodup_append.mpr ⟨nodup_ltI GA.pw, List.pairwise_map.mpr ((nodup_ltI GB.pw).imp fun h e => h (shift_inj e)), fun x hx y hy e => ?_⟩)
    obtain ⟨d, hd, rfl⟩ := List.mem_map.mp hy
    exact (apart x hx d hd).1 (by rw [e]; exact fun _ h => h)
  · rcases (mem x).mp hx with h | ⟨d, hd, rfl⟩
    · rcases (mem y).mp hy with h2 | ⟨f, hf, rfl⟩
      · exact GA.anti x h y h2 hxy
      · exact absurd hxy (apart x h f hf).1
    · rcases (mem y).mp hy with h2 | ⟨f, hf, rfl⟩
      · exact absurd hxy (apart y h2 d hd).2
      · have : d = f := GB.anti d hd f hf fun z hz => by
          have := hxy (z + a) (List.mem_map.mpr ⟨z, hz, rfl⟩)
          obtain ⟨w, hw, e⟩ := List.mem_map.mp this
          have : w = z := by omega
          exact this ▸ hw
        rw [this]
theorem ok_bes {a b : Int} {A B : List (List Int)} (GA : Good a A) (GB : Good b B) : ok_l_beside A B a := ⟨fits (by have := GB.few.n; omega), fun d hd => fits (by have := GB.few.all d hd; omega), fits (by rw [List.length_map]; have := GA.few.n; have := GB.few.n; omega)⟩
theorem weigh_total {ws : List Int} {goal : Int} (h : (ws.length : Int) = n) : apartC n (p_l_weighed ws goal) = [] := by
  unfold apartC
  rw [List.flatMap_eq_nil_iff]
  intro x hx
  rw [List.map_eq_nil_iff, List.filter_eq_nil_iff]
  intro y hy z
  have m := in_rg2 hx hy
  rw [Bool.and_eq_true, Bool.not_eq_true', Bool.not_eq_true', ← Bool.not_eq_true, ← Bool.not_eq_true, ow_t, ow_t] at z
  rcases Int.le_total (gI ws x) (gI ws y) with h2 | h2
  · exact z.2 (weights_ow h (mem_rgZ.mp m) (mem_rgZ.mp hx) h2)
  · exact z.1 (weights_ow h (mem_rgZ.mp hx) (mem_rgZ.mp m) h2)
end
theorem law_ok : ok_law := by
  refine ⟨fun n hn => ?_, by decide, fun t ht => ⟨by decide, fun r hr => ?_⟩, rfl⟩
  · have F := fam_good hn
    refine ⟨by unfold ok_l_families; simpa using hn, fits (by have := F.1; omega), fun bs hb => (right_ok (F.2 bs hb)).1, ?_⟩
    have e : ((p_l_families n).filter fun (bars : List (List Int)) => (!(p_l_right n bars))) = [] := List.filter_eq_nil_iff.mpr fun bs hb z => by
      rw [(right_ok (F.2 bs hb)).2] at z; cases z
    rw [e]; rfl
  · have hn : 2 ≤ v_law_many t r ∧ v_law_many t r ≤ 7 := by unfold v_law_many; omega
    refine ⟨by omega, fits (by rw [len_rgZ]; omega), fun _ _ => by decide, fun ws hws => ?_⟩
    have hl : (ws.length : Int) = v_law_many t r := by have := hws.len; rw [len_rgZ] at this; omega
    have hs : 0 ≤ ws.sum ∧ ws.sum ≤ ws.length * 6 := by
      have hall : ∀ v ∈ ws, 0 ≤ v ∧ v < 7 := fun v hv => by
        obtain ⟨b, _, q, hq, e⟩ := hws.all v hv
        omega
      clear hws hl
      induction ws with
      | nil => simp
      | cons a l ih =>
        have := hall a List.mem_cons_self
        have := ih fun v hv => hall v (List.mem_cons_of_mem _ hv)
        rw [List.sum_cons, List.length_cons]
        omega
    refine ⟨by omega, fun q hq => ?_⟩
    have G : Good (v_law_many t r) (p_l_weighed ws (1 + q)) := good_weigh hl (by omega) hn.2
    have R := right_ok G
    have e : v_law_bars t r ws q = p_l_weighed ws (1 + q) := rfl
    rw [e]
    have il : p_is_ladder (v_law_many t r) (p_l_weighed ws (1 + q)) = true := by
      unfold p_is_ladder; rw [unlike_eq, weigh_total hl]; rfl
    refine ⟨ok_weigh hl (by omega) hn.2, ok_islad G, fun _ => ⟨R.1, fun _ => ⟨bars_ok6 (by omega) (by omega), fun bs hbs => ⟨(right_ok hbs.1).1, by rw [(right_ok hbs.1).2]; rfl, by decide, fun f hf => ⟨by decide, fun m hm => ?_⟩⟩⟩, fun z => by rw [R.2] at z; cases z⟩, fun z => by rw [il] at z; cases z⟩
    have hf2 : v_law_few t r ws q bs f m = 2 + f := rfl
    have hm2 : v_law_more t r ws q bs f m = 2 + m := rfl
    rw [hf2, hm2]
    refine ⟨bars_ok6 (by omega) (by omega), fun A GA => ⟨bars_ok6 (by omega) (by omega), fun B GB => ?_⟩⟩
    have GG := good_beside GA.1 GB.1 GA.2 GB.2 (by omega)
    exact ⟨ok_bes GA.1 GB.1, (right_ok GG).1, by rw [(right_ok GG).2]; rfl⟩
theorem plain_holds : Hd.Plain := law_holds law_ok fun a => ⟨e_pre a, by kernel_rfl, by kernel_rfl, by kernel_rfl⟩
end Hd
theorem PySem.Challenge.cw_asbarred_k18_whole_ladders_holds : PySem.Challenge.rw_asbarred_k18_whole_ladders.Holds := by
  exact law_of Hd.plain_holds

